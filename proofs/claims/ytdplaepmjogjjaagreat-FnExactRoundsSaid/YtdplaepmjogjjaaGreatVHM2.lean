/- -/
import Derived.Test.YtdplaepmjogjjaaGreatVHM1
import Derived.Orders
import Derived.Control
import Derived.ProofKit
import Derived.OpenShut
set_option linter.all false
namespace Go.Proofs.YtdplaepmjogjjaaGreat.Am
open Go Go.RowKit
theorem ZR{t t':Nat->AV}{y:aX}(h:∀ s,s∈y.bK->t' s=t s):y.ev t'=y.ev t:=by
 cases y with
 | s i=>exact h i (by simp[aX.bK])
 | k x=>rfl
theorem EN{h h':Nat->aR}{x:AV}(hh:∀ id,id∈x.bR->h' id=h id):x.d h'=x.d h:=by
 cases x with
 | r sz id off len=>simp only[AV.d,hh id (by simp[AV.bR])]
 | b d id g p=>simp only[AV.d,hh id (by simp[AV.bR])]
 | _=>rfl
theorem vW{h h':Nat->aR}:∀ {xs:List AV},(∀ id,id∈AV.bM xs->h' id=h id)->AV.ds h' xs=AV.ds h xs
 | [],_=>rfl
 | x::xs,hh=>by
  simp only[AV.ds];rw[EN (x:=x) λid a9=>hh id (by simp[AV.bM,a9]),vW λid a9=>hh id (by simp[AV.bM,a9])]
theorem PH{h h':Nat->aR}{x:AV}(hh:∀ id,id∈x.refs->h' id=h id):AV.ds h' x.cells=AV.ds h x.cells:=by
 refine vW λid a9=>hh id ?_
 cases x with
 | a cs=>exact a9
 | _=>simpa[AV.cells,AV.bM,AV.refs]using a9
theorem QGG{h h':Nat->aR}{sz:Nat}{x:AV}(hh:∀ id,id∈x.refs->h' id=h id):x.fo h' sz=x.fo h sz:=by
 cases x with
 | r bc id off len=>simp only[AV.fo,hh id (by simp[AV.refs,AV.bR])]
 | b d id g p=>cases d <;> first | rfl | simp only[AV.fo,hh id (by simp[AV.refs,AV.bR])]
 | c d=>cases d <;> rfl
 | _=>rfl
theorem PI{h h':Nat->aR}{x:AV}(hh:∀ id,id∈x.refs++x.b8->h' id=h id):x.arg h'=x.arg h:=by
 cases x with
 | r sz id off len=>simp only[AV.arg];rw[EN λi hi=>hh i (by simp[AV.refs];exact .inl hi)]
 | b d id g p=>simp only[AV.arg];rw[EN λi hi=>hh i (by simp[AV.refs];exact .inl hi)]
 | a cs=>simp only[AV.arg];rw[vW λi hi=>hh i (by simp[AV.refs];exact .inl hi)]
 | p id i j =>
  have h1:=hh id (by simp[AV.b8])
  match i,j with
  | 0,0 =>
   simp only[AV.arg,h1]
   cases h id with
   | box cs =>
    simp only;by_cases hn:AV.bM cs=[]
    ·rw[if_pos hn,if_pos hn,vW (h:=h) (h':=h') (xs:=cs) λi hi=>by rw[hn]at hi;cases hi]
    ·rw[if_neg hn,if_neg hn]
   | _=>rfl
  | 0,j+1=>rfl
  | i+1,_=>rfl
 | _=>rfl
theorem PJ{h h':Nat->aR}:∀ {xs:List AV},(∀ id,id∈xs.flatMap (λx=>x.refs++x.b8)->h' id=h id)->AV.gZ h' xs=AV.gZ h xs
 | [],_=>rfl
 | x::xs,hh=>by
  simp only[AV.gZ];rw[PI (x:=x) λid a9=>hh id (by simp only[List.flatMap_cons,List.mem_append]at a9 ⊢;exact .inl a9),
   PJ λid a9=>hh id (by simp only[List.flatMap_cons,List.mem_append]at a9 ⊢;exact .inr a9)]
theorem QSH{h h':Nat->aR}{x:AV}(hh:∀ id,id∈x.refs++x.b8->h' id=h id):x.g7 h'=x.g7 h:=by
 cases x with
 | r sz id off len=>simp only[AV.g7];rw[hh id (by simp[AV.refs,AV.bR])]
 | _=>rfl
theorem PK{h h':Nat->aR}{x:AV}(hh:∀ id,id∈x.bR->h' id=h id):x.dN h'=x.dN h:=by
 cases x with
 | r sz id off len=>simp only[AV.dN];rw[hh id (by simp[AV.bR])]
 | c d=>cases d <;> rfl
 | _=>rfl
theorem PL{h h':Nat->aR}:∀ {xs:List AV},(∀ id,id∈AV.bM xs->h' id=h id)->AV.fp h' xs=AV.fp h xs
 | [],_=>rfl
 | x::xs,hh=>by
  simp only[AV.fp];rw[PK (x:=x) λid a9=>hh id (by simp[AV.bM,a9]),PL λid a9=>hh id (by simp[AV.bM,a9])]
theorem QNE{h h':Nat->aR}{m:AM}{x:AV}(hh:∀ id,id∈x.refs++x.b8->h' id=h id):x.fT h' m=x.fT h m:=by
 cases m with
 | d=>exact PI hh
 | o=>exact QSH hh
 | p =>
  cases x with
  | r sz id off len=>simp only[AV.fT,AV.iq];exact PK λi hi=>hh i (by simp[AV.refs];exact .inl hi)
  | a cs=>simp only[AV.fT,AV.iq];rw[PL λi hi=>hh i (by simp[AV.refs];exact .inl hi)]
  | _=>rfl
theorem PM{h h':Nat->aR}:∀ {ms:List AM} {xs:List AV},(∀ id,id∈xs.flatMap (λx=>x.refs++x.b8)->h' id=h id)->AV.dT h' ms xs=AV.dT h ms xs
 | [],xs,hh=>PJ hh
 | _::_,[],_=>rfl
 | m::ms,x::xs,hh=>by
  simp only[AV.dT];rw[QNE (x:=x) λid a9=>hh id (by simp only[List.flatMap_cons,List.mem_append]at a9 ⊢;exact .inl a9),
   PM (ms:=ms) λid a9=>hh id (by simp only[List.flatMap_cons,List.mem_append]at a9 ⊢;exact .inr a9)]
theorem QQj{h h':Nat->aR}{id g i j:Nat}{x:AV}(hh:∀ id,id∈x.bR->h' id=h id):x.eG h' id g i j=x.eG h id g i j:=by
 cases x with
 | r sz b7 off len=>simp only[AV.eG,hh b7 (by simp[AV.bR])]
 | c d=>cases d <;> rfl
 | _=>rfl
theorem EO{h h':Nat->aR}{id g i:Nat}:∀ {xs:List AV} {j:Nat},(∀ id,id∈AV.bM xs->h' id=h id)->AV.dy h' id g i j xs=AV.dy h id g i j xs
 | [],_,_=>rfl
 | x::xs,j,hh=>by
  simp only[AV.dy];rw[QQj (x:=x) λid a9=>hh id (by simp[AV.bM,a9]),EO λid a9=>hh id (by simp[AV.bM,a9])]
theorem PN{x:AV}{id:Nat}(h:id∈AV.bM x.cells):id∈x.refs:=by
 cases x with
 | a cs=>exact h
 | _=>simpa[AV.cells,AV.bM,AV.refs]using h
theorem PO{t t':Nat->AV}{h h':Nat->aR}{b:Nat}:∀ {ps:List aX} {i:Nat},(∀ s,s∈ps.flatMap aX.bK->t' s=t s)->(∀ id,id∈ps.flatMap (λx=>(aX.ev t x).refs)->h' id=h id)->gF h' b (aX.ev t') i ps=gF h b (aX.ev t) i ps
 | [],_,_,_=>rfl
 | x::ps,i,hs,hh=>by
  simp only[List.flatMap_cons,List.mem_append]at hs hh;simp only[gF];rw[ZR (y:=x) λs h=>hs s (.inl h),EO (xs:=(aX.ev t x).cells) λid h=>hh id (.inl (PN h)),PO (λs h=>hs s (.inr h)) (λid h=>hh id (.inr h))]
theorem QFS{h h':Nat->aR}{xs:List (List D)}{x:AV}(hh:∀ id,id∈x.refs->h' id=h id):x.iS h' xs=x.iS h xs:=by
 cases x with
 | r sz b7 off len=>simp only[AV.iS,hh b7 (by simp[AV.refs,AV.bR])]
 | _=>rfl
theorem QFh{h h':Nat->aR}{xs:List (List D)}{id len:Nat}{x:AV}(hh:∀ id,id∈x.refs->h' id=h id):x.dH h' id len xs=x.dH h id len xs:=by
 cases x with
 | r sz b7 off len=>simp only[AV.dH,hh b7 (by simp[AV.refs,AV.bR])]
 | _=>rfl
theorem QRK{h h':Nat->aR}{x:AV}(hh:∀ id,id∈x.refs->h' id=h id):x.dc h'=x.dc h:=by
 cases x with
 | r sz b7 off len=>simp only[AV.dc,hh b7 (by simp[AV.refs,AV.bR])]
 | _=>rfl
theorem PQ{h h':Nat->aR}:∀ {ids:List Nat} {l:List aR},(∀ id,id∈ids->h' id=h id)->Yr h' ids l=Yr h ids l
 | [],l,_=>by cases l <;> rfl
 | id::ids,[],_=>rfl
 | id::ids,x::l,hh=>by
  simp only[Yr];rw[hh id (by simp),PQ λi hi=>hh i (by simp[hi])]
theorem EP{x:AV}:∀ {ms:List AM} {xs:List AV},x∈cI ms xs->x∈xs
 | [],xs,h=>by simp[cI]at h
 | _::_,[],h=>by simp[cI]at h
 | m::ms,y::xs,h=>by
  simp only[cI]at h
  split at h
  ·rcases List.mem_cons.1 h with h | h
   ·exact List.mem_cons.2 (.inl h)
   ·exact List.mem_cons_of_mem _ (EP h)
  ·exact List.mem_cons_of_mem _ (EP h)
theorem ER{x:AV}:∀ {ms:List AM} {xs:List AV},x∈cl ms xs->x∈xs
 | [],xs,h=>h
 | _::_,[],h=>by simp[cl]at h
 | m::ms,y::xs,h=>by
  simp only[cl]at h
  split at h
  ·exact List.mem_cons_of_mem _ (ER h)
  ·rcases List.mem_cons.1 h with h | h
   ·exact List.mem_cons.2 (.inl h)
   ·exact List.mem_cons_of_mem _ (ER h)
theorem PR{t t':Nat->AV}:∀ {ps:List (Nat × Nat × aX)} {cs:List AV},(∀ s,s∈ps.flatMap (λx=>x.2.2.bK)->t' s=t s)->JV (aX.ev t') cs ps=JV (aX.ev t) cs ps
 | [],_,_=>rfl
 | (off,n,x)::ps,cs,h=>by
  simp only[List.flatMap_cons,List.mem_append]at h;simp only[JV];rw[ZR (y:=x) λs hs=>h s (.inl hs)]
  split
  ·exact PR λs hs=>h s (.inr hs)
  ·rfl
theorem PS{t t':Nat->AV}{h h':Nat->aR}{sz:Nat}:∀ {ps:List aX},(∀ s,s∈ps.flatMap aX.bK->t' s=t s)->(∀ id,id∈ps.flatMap (λx=>(aX.ev t x).refs)->h' id=h id)->elems h' (aX.ev t') sz ps=elems h (aX.ev t) sz ps
 | [],_,_=>rfl
 | x::ps,hs,hh=>by
  simp only[List.flatMap_cons,List.mem_append]at hs hh;simp only[elems];rw[ZR (y:=x) λs h=>hs s (.inl h),PH (x:=aX.ev t x) λid h=>hh id (.inl h),PS (λs h=>hs s (.inr h)) (λid h=>hh id (.inr h))]
theorem vZ{t t':Nat->AV}{β:Type}(g:AV->List β):∀ {ps:List aX},(∀ s,s∈ps.flatMap aX.bK->t' s=t s)->(ps.flatMap λx=>g (aX.ev t' x))=ps.flatMap λx=>g (aX.ev t x)
 | [],_=>rfl
 | x::ps,hs=>by
  simp only[List.flatMap_cons,List.mem_append]at hs ⊢;rw[ZR (y:=x) λs h=>hs s (.inl h),vZ g λs h=>hs s (.inr h)]
theorem zv{h h':Nat->aR}:∀ {ids:List Nat},(∀ id,id∈ids->h' id=h id)->eT h' ids=eT h ids
 | [],_=>rfl
 | id::ids,hh=>by
  simp only[eT];rw[hh id (by simp),zv λi hi=>hh i (by simp[hi])]
theorem PT{t t':Nat->AV}{m:Int}{lo:Option aX}(h:∀ s,s∈(match lo with | some l=>l.bK | none=>[])->t' s=t s):Yg (aX.ev t') m lo=Yg (aX.ev t) m lo:=by
 cases lo with
 | none=>rfl
 | some l=>simp only[Yg];rw[ZR h]
theorem PU{Γ:ez}{t t':Nat->AV}{h h':Nat->aR}{b:Nat}{op:ea}(ht:∀ s,s∈op.bK->t' s=t s)(hh:∀ id,id∈acc (aX.ev t) op->h' id=h id) :
  Qw Γ (aX.ev t') h' b op=Qw Γ (aX.ev t) h b op/\acc (aX.ev t') op=acc (aX.ev t) op:=by
 cases op with
 | eG x | not x | neg x | ext x i | conv k x | kS x off n agg =>
  have e:=ZR (y:=x) (t:=t) (t':=t') (λs hs=>ht s (by simpa[ea.bK]using hs));simp only[Qw,acc,e,and_self]
 | box e0 x n =>
  have e:=ZR (y:=x) (t:=t) (t':=t') (λs hs=>ht s (by simpa[ea.bK]using hs));simp only[Qw,acc,e,and_self]
 | new e zs=>exact⟨rfl,rfl⟩
 | pick c x y =>
  have e1:=ZR (y:=c) (t:=t) (t':=t') (λs hs=>ht s (by simp[ea.bK,hs]));have e2:=ZR (y:=x) (t:=t) (t':=t') (λs hs=>ht s (by simp[ea.bK,hs]));have e3:=ZR (y:=y) (t:=t) (t':=t') (λs hs=>ht s (by simp[ea.bK,hs]));simp only[Qw,acc,e1,e2,e3,and_self]
 | bin op x y | gE n neg x y | ic neg x y | mm mx x y =>
  have e2:=ZR (y:=x) (t:=t) (t':=t') (λs hs=>ht s (by simp[ea.bK,hs]));have e3:=ZR (y:=y) (t:=t) (t':=t') (λs hs=>ht s (by simp[ea.bK,hs]));simp only[Qw,acc,e2,e3,and_self]
 | load x n agg | kl x off | f9 x =>
  have e:=ZR (y:=x) (t:=t) (t':=t') (λs hs=>ht s (by simpa[ea.bK]using hs));simp only[Qw,acc,e]at hh ⊢
  cases hx:aX.ev t x with
  | p id i j =>
   rw[hx]at hh;simp only[hh id (by simp),and_self]
  | bq cs j id g p i =>
   rw[hx]at hh;simp only[hh id (by simp),and_self]
  | _=>first | exact⟨rfl,rfl⟩ | exact⟨rfl,trivial⟩
 | store x v n =>
  have e2:=ZR (y:=x) (t:=t) (t':=t') (λs hs=>ht s (by simp[ea.bK,hs]));have e3:=ZR (y:=v) (t:=t) (t':=t') (λs hs=>ht s (by simp[ea.bK,hs]));simp only[Qw,acc,e2,e3]at hh ⊢;have hr:∀ id,id∈(aX.ev t v).refs->h' id=h id:=λid a9=>hh id (List.mem_append.2 (.inr a9));rw[PH hr,zv hr]
  cases hx:aX.ev t x with
  | p id i j =>
   rw[hx]at hh;have hm:∀ g,AV.dy h' id g i j (aX.ev t v).cells=AV.dy h id g i j (aX.ev t v).cells:=λg=>EO λk hk=>hr k (PN hk);simp only[hh id (by simp),hm,and_self]
  | _=>first | exact⟨rfl,rfl⟩ | exact⟨rfl,trivial⟩
 | js x i sz =>
  have e2:=ZR (y:=x) (t:=t) (t':=t') (λs hs=>ht s (by simp[ea.bK,hs]));have e3:=ZR (y:=i) (t:=t) (t':=t') (λs hs=>ht s (by simp[ea.bK,hs]));simp only[Qw,acc,e2,e3]at hh ⊢
  cases hx:aX.ev t x with
  | r bc id off len =>
   rw[hx]at hh;simp only[hh id (by simp[AV.refs,AV.bR]),and_self]
  | b d id g p =>
   rw[hx]at hh
   cases d with
   | v=>first | exact⟨rfl,rfl⟩ | exact⟨rfl,trivial⟩
   | sl=>simp only[hh id (by simp[AV.refs,AV.bR]),and_self]
  | c d=>cases d <;> first | exact⟨rfl,rfl⟩ | exact⟨rfl,trivial⟩
  | _=>first | exact⟨rfl,rfl⟩ | exact⟨rfl,trivial⟩
 | len x =>
  have e:=ZR (y:=x) (t:=t) (t':=t') (λs hs=>ht s (by simpa[ea.bK]using hs));simp only[Qw,acc,e]at hh ⊢
  cases hx:aX.ev t x with
  | r bc id off len =>
   rw[hx]at hh;simp only[hh id (by simp[AV.refs,AV.bR]),and_self]
  | b d id g p =>
   rw[hx]at hh
   cases d with
   | v=>first | exact⟨rfl,rfl⟩ | exact⟨rfl,trivial⟩
   | sl=>simp only[hh id (by simp[AV.refs,AV.bR]),and_self]
  | c d=>cases d <;> first | exact⟨rfl,rfl⟩ | exact⟨rfl,trivial⟩
  | _=>first | exact⟨rfl,rfl⟩ | exact⟨rfl,trivial⟩
 | fB x lo hi sz =>
  have e2:=ZR (y:=x) (t:=t) (t':=t') (λs hs=>ht s (by simp[ea.bK,hs]));have e3:∀ m,Yg (aX.ev t') m lo=Yg (aX.ev t) m lo:=λm=>PT (λs hs=>ht s (by simp only[ea.bK,List.mem_append];exact .inl (.inr hs)));have e4:∀ m,Yg (aX.ev t') m hi=Yg (aX.ev t) m hi:=λm=>PT (λs hs=>ht s (by simp only[ea.bK,List.mem_append];exact .inr hs));simp only[Qw,acc,e2,e3,e4]at hh ⊢
  cases hx:aX.ev t x with
  | r bc id off len =>
   rw[hx]at hh;simp only[hh id (by simp[AV.refs,AV.bR]),and_self]
  | c d=>cases d <;> first | exact⟨rfl,rfl⟩ | exact⟨rfl,trivial⟩
  | _=>first | exact⟨rfl,rfl⟩ | exact⟨rfl,trivial⟩
 | mk e0 sz zs n =>
  have e:=ZR (y:=n) (t:=t) (t':=t') (λs hs=>ht s (by simpa[ea.bK]using hs));simp only[Qw,acc,e]at hh ⊢;rw[vW (xs:=zs) (h:=h) (h':=h') λid a9=>hh id a9]
  first | exact⟨rfl,rfl⟩ | exact⟨rfl,trivial⟩
 | build zs ps =>
  simp only[Qw,acc];rw[PR (ps:=ps) λs hs=>ht s (by simpa[ea.bK]using hs)]
  first | exact⟨rfl,rfl⟩ | exact⟨rfl,trivial⟩
 | bW e0 sz ps =>
  have hs:∀ s,s∈ps.flatMap aX.bK->t' s=t s:=λs hs=>ht s (by simpa[ea.bK]using hs);simp only[acc]at hh;simp only[Qw,acc];rw[PS hs hh,vZ AV.refs hs,vZ AV.db hs,zv hh,PO hs hh]
  first | exact⟨rfl,rfl⟩ | exact⟨rfl,trivial⟩
 | app s x e0 sz =>
  have e2:=ZR (y:=s) (t:=t) (t':=t') (λs hs=>ht s (by simp[ea.bK,hs]));have e3:=ZR (y:=x) (t:=t) (t':=t') (λs hs=>ht s (by simp[ea.bK,hs]));simp only[Qw,acc,e2,e3]at hh ⊢;have zw:∀ id,id∈(aX.ev t x).refs->h' id=h id:=λid a9=>hh id (List.mem_append.2 (.inr a9));rw[QGG (x:=aX.ev t x) zw,QRK zw];simp only[QFS zw,QFh zw]
  cases hx:aX.ev t s with
  | r bc id off len =>
   rw[hx]at hh;have h1:=hh id (by simp[AV.refs,AV.bR])
   cases off with
   | zero=>simp only[h1,and_self]
   | succ k=>first | exact⟨rfl,rfl⟩ | exact⟨rfl,trivial⟩
  | c d=>cases d <;> first | exact⟨rfl,rfl⟩ | exact⟨rfl,trivial⟩
  | _=>first | exact⟨rfl,rfl⟩ | exact⟨rfl,trivial⟩
 | call f args =>
  have hs:∀ s,s∈args.flatMap aX.bK->t' s=t s:=λs hs=>ht s (by simpa[ea.bK]using hs);have hm:args.map (aX.ev t')=args.map (aX.ev t):=List.map_congr_left λx hx=>ZR λs h=>hs s (List.mem_flatMap.2 ⟨x,hx,h⟩);simp only[acc]at hh;have ha:AV.dT h' (Γ.md f) (args.map (aX.ev t))=AV.dT h (Γ.md f) (args.map (aX.ev t)):=PM λid a9=>by
   rw[List.flatMap_map]at a9;obtain⟨x,hx,a9⟩:=List.mem_flatMap.1 a9;refine hh id ?_
   rcases List.mem_append.1 a9 with a9 | a9
   ·exact List.mem_append.2 (.inl (List.mem_flatMap.2 ⟨x,hx,a9⟩))
   ·exact List.mem_append.2 (.inr (List.mem_flatMap.2 ⟨x,hx,a9⟩))
  have ej:∀ x,x∈args.map (aX.ev t)->∀ id,id∈x.refs->h' id=h id:=λx hx id a9=>by
   obtain⟨y,hy,rfl⟩:=List.mem_map.1 hx;exact hh id (List.mem_append.2 (.inl (List.mem_flatMap.2 ⟨y,hy,a9⟩)))
  simp only[Qw,acc];rw[hm,vZ AV.b8 hs,vZ AV.refs hs];refine⟨?_,rfl⟩;generalize hX:args.map (aX.ev t)=X at *
  split
  ·rename_i id g i j r hn;obtain⟨gL,d,_,rfl,_⟩:=PB hn;unfold u0;rw[ej _ (List.mem_cons_self) id (by simp[AV.refs,AV.bR])]
  ·unfold u1;rw[ha,zv (h:=h) (h':=h') λid a9=>(by
    obtain⟨x,hx,a9⟩:=List.mem_flatMap.1 a9;exact ej x (ER hx) id a9)]
   have hhd:∀ l,Yr h' ((cI (Γ.md f) X).flatMap AV.refs) l=Yr h ((cI (Γ.md f) X).flatMap AV.refs) l:=λl=>PQ λid a9=>by
    obtain⟨x,hx,a9⟩:=List.mem_flatMap.1 a9;exact ej x (EP hx) id a9
   simp only[hhd]
end Go.Proofs.YtdplaepmjogjjaaGreat.Am
namespace Go.Proofs.YtdplaepmjogjjaaGreat.Am
open Go Go.RowKit
theorem tk:∀(l:List (Nat × aR))(h:Nat->aR)(i:Nat),i∉keys l->bp h l i=h i
 | [],_,_,_=>rfl
 | (k,x)::l,h,i,hi=>by
  simp only[keys,List.map_cons,List.mem_cons,not_or]at hi;simp only[bp];rw[tk l _ i hi.2,QI _ _ _ _ hi.1]
theorem ES:∀(l:List (Nat × aR))(g h:Nat->aR)(i:Nat),(i∈keys l\/g i=h i)->bp g l i=bp h l i
 | [],g,h,i,hi=>by
  rcases hi with hi | hi
  ·simp[keys]at hi
  ·exact hi
 | (k,x)::l,g,h,i,hi=>by
  simp only[bp];refine ES l _ _ i ?_;by_cases hk:i=k
  ·subst hk;right;rw[QN,QN]
  ·rcases hi with hi | hi
   ·simp only[keys,List.map_cons,List.mem_cons]at hi
    rcases hi with hi | hi
    ·exact absurd hi hk
    ·exact .inl hi
   ·right;rw[QI _ _ _ _ hk,QI _ _ _ _ hk];exact hi
theorem QXY{l m:List (Nat × aR)}(DW:∀ i,i∈keys l->i∉keys m)(h:Nat->aR):bp (bp h l) m=bp (bp h m) l:=by
 funext i
 by_cases h1:i∈keys l
 ·rw[tk m _ i (DW i h1),ES l (bp h m) h i (.inl h1)]
 ·rw[tk l (bp h m) i h1];exact ES m _ _ i (.inr (tk l h i h1))
theorem ET{Γ:ez}{o:AO}{σ σ':St}{a w:List Nat}(h:Zt Γ o σ=some (σ',a,w)) :
  ∃ v bl,σ'=⟨cN σ.t o.dst v,bp σ.h bl,σ.nx⟩/\w=keys bl/\∀(t':Nat->AV)(h':Nat->aR),(∀ s,s∈o.reads->t' s=σ.t s)->(∀ id,id∈a->h' id=σ.h id)->
   Zt Γ o ⟨t',h',σ.nx⟩=some (⟨cN t' o.dst v,bp h' bl,σ.nx⟩,a,w):=by
 unfold Zt at h
 split at h
 ·rename_i hg
  split at h
  rotate_left
  ·cases h
  rename_i e he
  cases h;refine⟨e.val,e.fS,rfl,rfl,λt' h' ht hh=>?_⟩;obtain⟨d1,d2⟩:=PU (Γ:=Γ) (t:=σ.t) (t':=t') (h:=σ.h) (h':=h') (b:=σ.nx+o.off) (op:=o.op) (λs hs=>ht s (List.mem_append.2 (.inl hs))) hh;unfold Zt;simp only[hg,d1,d2,he];rfl
 ·rename_i s wt hg;have hs:s∈o.reads:=by unfold AO.reads;rw[hg];simp
  split at h
  rotate_left
  ·rename_i hc
   cases h;refine⟨.t [],[],rfl,rfl,λt' h' ht hh=>?_⟩;unfold Zt;simp only[hg,ht s hs,hc];rfl
  ·cases h
  rename_i c hc
  split at h
  ·rename_i jn
   split at h
   rotate_left
   ·cases h
   rename_i e he
   cases h;refine⟨e.val,e.fS,rfl,rfl,λt' h' ht hh=>?_⟩;obtain⟨d1,d2⟩:=PU (Γ:=Γ) (t:=σ.t) (t':=t') (h:=σ.h) (h':=h') (b:=σ.nx+o.off) (op:=o.op) (λs hs=>ht s (List.mem_append.2 (.inl hs))) hh;unfold Zt;simp only[hg,ht s hs,hc,jn,if_true,d1,d2,he];rfl
  ·rename_i jn
   cases h;refine⟨.t [],[],rfl,rfl,λt' h' ht hh=>?_⟩;unfold Zt;simp only[hg,ht s hs,hc,if_neg jn];rfl
theorem PV{t:Nat->AV}{d:Option Nat}{v:AV}{s:Nat}(h:∀ x,d=some x->s≠x):cN t d v s=t s:=by
 cases d with
 | none=>rfl
 | some x=>exact QI _ _ _ _ (h x rfl)
theorem PW{l m:List Nat}(h:JH l m=true):∀ x,x∈l->x∉m:=by
 intro x hx hm;have:=List.all_eq_true.1 h x hx;simp[hm]at this
theorem swap{Γ:ez}{p o:AO}{σ σp σ2:St}{ap wp ao wo:List Nat}(i5:p.free o=true)(h1:Zt Γ p σ=some (σp,ap,wp))(h2:Zt Γ o σp=some (σ2,ao,wo))
  (hap:JH wp (ao++wo)=true) (EU:JH wo ap=true):∃ σ1,Zt Γ o σ=some (σ1,ao,wo)/\Zt Γ p σ1=some (σ2,ap,wp):=by
 obtain⟨vp,lp,rfl,rfl,hp⟩:=ET h1;obtain⟨vo,lo,rfl,rfl,ho⟩:=ET h2;unfold AO.free at i5;rw[Bool.and_eq_true]at i5;obtain⟨f1,f2⟩:=i5;have hA:=PW hap;have hB:=PW EU;have PX:∀ d,p.dst=some d->d∉o.reads/\∀ d',o.dst=some d'->d≠d':=by
  intro d hd;rw[hd]at f1;simp only[Bool.and_eq_true,Bool.not_eq_true']at f1;refine⟨by simpa using f1.1,λd' dC=>?_⟩;have:=f1.2;rw[dC]at this;simpa using this
 have vU:∀ d,o.dst=some d->d∉p.reads:=by
  intro d hd;rw[hd]at f2;simpa using f2
 have s1:=ho σ.t σ.h (λs hs=>(PV λx hx e=>(PX x hx).1 (e ▸ hs)).symm) (λid a9=>(tk lp σ.h id (λhk=>hA id hk (List.mem_append.2 (.inl a9)))).symm);refine⟨_,s1,?_⟩;have s2:=hp (cN σ.t o.dst vo) (bp σ.h lo) (λs hs=>PV λx hx e=>vU x hx (e ▸ hs)) (λid a9=>tk lo σ.h id (λhk=>hB id hk a9));rw[s2];congr 2
 ·congr 1
  ·cases EV:p.dst with
   | none=>cases o.dst <;> rfl
   | some d =>
    cases EW:o.dst with
    | none=>rfl
    | some d' =>
     have dM:=(PX d EV).2 d' EW;funext s
     simp only[cN,bI];by_cases e1:s=d
     ·by_cases e2:s=d'
      ·exact absurd (e1.symm.trans e2) dM
      ·rw[if_pos e1,if_neg e2,if_pos e1]
     ·by_cases e2:s=d'
      ·rw[if_neg e1,if_pos e2,if_pos e2]
      ·rw[if_neg e1,if_neg e2,if_neg e2,if_neg e1]
  ·exact QXY (λi hi hk=>hA i hk (List.mem_append.2 (.inr hi))) σ.h
theorem Sat.nx{C:Ctx}{U:Nat->Prop}{t:Nat->AV}{h:Nat->aR}{n m:Nat}{a:Act}{w:World}{ι:Io}(S:Sat C U ⟨t,h,n⟩ a w ι):Sat C U ⟨t,h,m⟩ a w ι :=
 ⟨S.dD,S.bm,S.size,S.defers,S.fh,S.inj,S.eg,S.fresh,S.live,S.b8,S.hand,S.df⟩
theorem Sat.qx{C:Ctx}{U U':Nat->Prop}{σ:St}{a:Act}{w:World}{ι:Io}(S:Sat C U σ a w ι)(h:∀ i,U' i->U i):Sat C U' σ a w ι :=
 { S with fresh:=λi hi=>S.fresh i (h i hi) }
theorem EX{P:Program}{N:Nat}{ops:Array Oper}{o:Oper}{i:Nat}{ao:AO}(h:s3 P N ops o i=some ao) :
  ∃ op gd,u2 P o=some op/\s0 ops o.guard=some gd/\ao=⟨o.dst,op,gd,16*i⟩/\(∀ d,o.dst=some d->d<N)/\∀ s b,gd=some (s,b)->s<N:=by
 unfold s3 at h;generalize h1:u2 P o=x at h;generalize h2:s0 ops o.guard=y at h
 cases x with
 | none=>cases y <;> cases h
 | some op =>
  cases y with
  | none=>cases h
  | some gd =>
   simp only at h
   split at h
   rotate_left
   ·cases h
   rename_i ft;have h:=(Option.some.inj h).symm;unfold u3 at ft;rw[Bool.and_eq_true]at ft;obtain⟨PY,iM⟩:=ft;refine⟨op,gd,rfl,rfl,h,λd hd=>?_,λs b hs=>?_⟩
   ·rw[hd]at PY;simpa using PY
   ·rw[hs]at iM;simpa using iM
section
variable {C:Ctx} {U U':Nat->Prop} {σ σ':St} {a:Act} {w:World} {Q:Exit->Act->World->Prop} {Γ:ez} {ops:Array Oper}
theorem PZ(hΓ:JS C.P Γ)(S:cz C U σ a w){i:Nat}{o:Oper}{ao:AO}(hi:ops[i]? = some o)(hc:s3 C.P C.N ops o i=some ao)(hb:∀ k,σ.nx+16*i<=k->k<σ.nx+16*i+16->U k)
  (bN:∀ k,U' k->U k/\¬ (σ.nx+16*i<=k/\k<σ.nx+16*i+16)) {ac wr:List Nat} (hs:Zt Γ ao σ=some (σ',ac,wr)) :
  wpOp C.P ops Q i (λa' w'=>cz C U' σ' a' w') a w:=by
 obtain⟨op,gd,zx,jV,rfl,hd,iM⟩:=EX hc;obtain⟨ι,S⟩:=S;have oA:Sat C U' ⟨cN σ.t o.dst (.t []),σ.h,σ.nx⟩ (a.put o.dst undef) w ι:=by
  have S':=S.qx (U':=U') λk hk=>(bN k hk).1
  cases hx:o.dst with
  | none=>simpa[cN,Act.put]using S'
  | some d=>simpa[cN]using S'.put d (hd d hx) undef (.t []) (.t #[] [] rfl (by simp))
 unfold wpOp;rw[hi];simp only;unfold Zt at hs
 split at hs
 ·rename_i jl;simp only at jl;subst jl;have j4:o.guard=none:=by
   cases hx:o.guard with
   | none=>rfl
   | some x =>
    obtain⟨j,bb⟩:=x;rw[hx]at jV;simp only[s0]at jV
    split at jV <;> cases jV
  have hw:Region.wanted o (yielded ops a.tmps)=true:=by simp[Region.wanted,j4]
  rw[if_pos hw]
  split at hs
  rotate_left
  ·cases hs
  rename_i e he
  cases hs;exact .inl (PG hΓ S hd hb bN zx he)
 ·rename_i s wt oB;simp only at oB;subst oB;obtain⟨j,d,EY,P0⟩:∃ j d,o.guard=some (j,wt)/\(ops[j]?).bind (·.dst)=some s:=by
   cases hx:o.guard with
   | none=>rw[hx]at jV;simp[s0]at jV
   | some x =>
    obtain⟨j,bb⟩:=x;rw[hx]at jV;simp only[s0]at jV
    split at jV
    ·rename_i s' EZ
     cases jV;exact⟨j,0,rfl,EZ⟩
    ·cases jV
  have P1:s<C.N:=iM s wt rfl
  split at hs
  rotate_left
  ·rename_i oC
   cases hs;have gN:a.tmps.getD s undef=undef:=by
    have h1:=S.bm s;rw[oC]at h1
    cases hq:a.tmps.getD s undef with
    | tuple vs =>
     rw[hq]at h1
     cases h1 with
     | t vs _ hl _ =>
      have:vs = #[]:=by simpa using hl
      rw[this];rfl
    | _=>rw[hq]at h1;cases h1
   have iD:yielded ops a.tmps j=none:=by
    unfold yielded;rw[P0];have h3:s<a.tmps.size:=by rw[S.size];exact P1
    rw[Array.getD_eq_getD_getElem?,Array.getElem?_eq_getElem h3]at gN;simp only[Option.bind_some,Array.getElem?_eq_getElem h3];simp only[Option.getD_some]at gN;rw[gN];rfl
   have hw:¬ Region.wanted o (yielded ops a.tmps)=true:=by simp[Region.wanted,EY,iD]
   rw[if_neg hw];exact⟨ι,oA⟩
  ·cases hs
  rename_i c oC;have gN:a.tmps[s]? = some (.bool c):=by
   have h1:=S.bm s;rw[oC]at h1;have h2:=h1.int;have h3:s<a.tmps.size:=by rw[S.size];exact P1
   rw[Array.getD_eq_getD_getElem?,Array.getElem?_eq_getElem h3]at h2;rw[Array.getElem?_eq_getElem h3];simpa using h2
  have iD:yielded ops a.tmps j=some c:=by
   unfold yielded;rw[P0];simp[gN]
  split at hs
  ·rename_i jn
   split at hs
   rotate_left
   ·cases hs
   rename_i e he
   cases hs;have hw:Region.wanted o (yielded ops a.tmps)=true:=by simp[Region.wanted,EY,iD,jn]
   rw[if_pos hw];exact .inl (PG hΓ S hd hb bN zx he)
  ·rename_i jn
   cases hs;have hw:¬ Region.wanted o (yielded ops a.tmps)=true:=by simp[Region.wanted,EY,iD,jn]
   rw[if_neg hw];exact⟨ι,oA⟩
theorem E0{P:Program}{N:Nat}{ops:Array Oper}:∀ {l:List Oper} {i:Nat} {jH:List AO},mJ P N ops l i=some jH->jH.length=l.length/\∀(j:Nat)(o:Oper),l[j]? = some o->∃ ao,jH[j]? = some ao/\s3 P N ops o (i+j)=some ao/\ao.off=16*(i+j)
 | [],i,jH,h=>by simp[mJ]at h;subst h;simp
 | o::l,i,jH,h=>by
  simp only[mJ]at h
  split at h
  ·rename_i ao qy h1 h2
   cases h;obtain⟨h3,h4⟩:=E0 h2;refine⟨by simp[h3],λj o' hj=>?_⟩
   cases j with
   | zero =>
    simp at hj;subst hj;obtain⟨_,_,_,_,h5,_⟩:=EX h1;exact⟨ao,rfl,h1,by rw[h5];rfl⟩
   | succ j =>
    simp at hj;obtain⟨P2,h5,h6,h7⟩:=h4 j o' hj;exact⟨P2,by simpa using h5,by rw[show i+(j+1)=i+1+j by omega];exact h6,by rw[show i+(j+1)=i+1+j by omega];exact h7⟩
  ·cases h
theorem P3(hΓ:JS C.P Γ){K:St->Prop}:∀(l:List Oper)(i:Nat)(jH:List AO)(σ:St)(a:Act)(w:World),mJ C.P C.N ops l i=some jH->(∀ j,l[j]? = ops[i+j]?)->
  cz C (λk=>σ.nx+16*i<=k) σ a w->gG Γ jH K σ->(∀ σ' a w,cz C (λk=>σ.nx+16*(i+l.length)<=k) σ' a w->σ'.nx=σ.nx->K σ'->Q .normal a w)->
  wpOps C.P ops Q (List.range' i l.length) a w
 | [],i,jH,σ,a,w,hc,hl,S,hk,hQ=>by
  simp[mJ]at hc;subst hc;exact hQ σ a w (by simpa using S) rfl hk
 | o::l,i,jH,σ,a,w,hc,hl,S,hk,hQ=>by
  have h0:ops[i]? = some o:=by simpa using(hl 0).symm
  simp only[mJ]at hc
  split at hc
  rotate_left
  ·cases hc
  rename_i ao qy h1 h2
  cases hc;have qz:ao.off=16*i:=by
   obtain⟨_,_,_,_,h5,_⟩:=EX h1;rw[h5]
  have fP:∀ j,l[j]? = ops[i+1+j]?:=λj=>by have:=hl (j+1);simpa[Nat.add_assoc,Nat.add_comm 1 j]using this
  have go:∀ σ',(∃ ac wr,Zt Γ ao σ=some (σ',ac,wr))->gG Γ qy K σ'->σ'.nx=σ.nx->wpOps C.P ops Q (List.range' i (l.length+1)) a w:=by
   rintro σ' ⟨ac,wr,hs⟩ ey hn
   rw[List.range'_succ,wpOps_cons];refine wpOp_mono (λa' w' S'=>?_) (PZ (U':=λk=>σ.nx+16*(i+1)<=k) hΓ S h0 h1 (λk hk _=>hk) (λk hk=>⟨by omega,by omega⟩) hs);exact P3 hΓ l (i+1) qy σ' a' w' h2 fP (by rw[hn];exact S') ey (λσ2 a2 w2 S2 ma hK2=>hQ σ2 a2 w2 (by
    rw[hn]at S2;simpa[Nat.add_assoc,Nat.add_comm 1 l.length]using S2) (ma.trans hn) hK2)
  simp only[gG]at hk
  split at hk
  ·rename_i hg
   split at hk
   rotate_left
   ·exact hk.elim
   rename_i e he;exact go (σ.app ao.dst e) ⟨acc (aX.ev σ.t) ao.op,keys e.fS,by unfold Zt;simp only[hg,he]⟩ hk rfl
  ·rename_i s wt hg
   split at hk
   rotate_left
   ·rename_i oC;exact go _ ⟨[],[],by unfold Zt;simp only[hg,oC]⟩ hk rfl
   ·exact hk.elim
   rename_i c oC;by_cases jn:c=wt
   ·have hk:=hk.1 jn
    split at hk
    rotate_left
    ·exact hk.elim
    rename_i e he;exact go (σ.app ao.dst e) ⟨acc (aX.ev σ.t) ao.op,keys e.fS,by unfold Zt;simp only[hg,oC,jn,if_true,he]⟩ hk rfl
   ·exact go _ ⟨[],[],by unfold Zt;simp only[hg,oC,if_neg jn]⟩ (hk.2 jn) rfl
end
end Go.Proofs.YtdplaepmjogjjaaGreat.Am
namespace Go.Proofs.YtdplaepmjogjjaaGreat.Am
open Go Go.RowKit
def jo(Γ:ez)(l:List AO)(L:Nat->List Nat × List Nat):List Nat->St->St->Prop
 | [],σ,σ'=>σ'=σ
 | i::p,σ,σ'=>∃ ao σ1,l[i]? = some ao/\Zt Γ ao σ=some (σ1,(L i).1,(L i).2)/\jo Γ l L p σ1 σ'
def E1(l:List AO)(L:Nat->List Nat × List Nat)(i j:Nat):Prop :=
 ∀ oi oj,l[i]? = some oi->l[j]? = some oj->oi.free oj=true/\JH (L i).2 ((L j).1++(L j).2)=true/\JH (L j).2 (L i).1=true
theorem jo.pull{Γ:ez}{l:List AO}{L:Nat->List Nat × List Nat}{j:Nat}{p2:List Nat}:∀(p1:List Nat){σ σ':St},jo Γ l L (p1++j::p2) σ σ'->(∀ i,i∈p1->E1 l L i j)->jo Γ l L (j::(p1++p2)) σ σ'
 | [],_,_,h,_=>h
 | i::p1,σ,σ',h,hi=>by
  obtain⟨ao,σ1,h1,h2,h3⟩:=h;obtain⟨bo,σ2,h4,h5,h6⟩:=jo.pull p1 h3 λk hk=>hi k (List.mem_cons_of_mem _ hk);obtain⟨f1,f2,f3⟩:=hi i (List.mem_cons_self ..) ao bo h1 h4;obtain⟨σ1',h7,h8⟩:=swap f1 h2 h5 f2 f3;exact⟨bo,σ1',h4,h7,ao,σ2,h1,h8,h6⟩
theorem jo.mem{Γ:ez}{l:List AO}{L:Nat->List Nat × List Nat}{j:Nat}:∀(p:List Nat){σ σ':St},jo Γ l L p σ σ'->j∈p->∃ ao s s',l[j]? = some ao/\Zt Γ ao s=some (s',(L j).1,(L j).2)
 | [],_,_,_,hj=>by cases hj
 | i::p,σ,σ',h,hj=>by
  obtain⟨ao,σ1,h1,h2,h3⟩:=h
  rcases List.mem_cons.1 hj with rfl | hj
  ·exact⟨ao,σ,σ1,h1,h2⟩
  ·exact jo.mem p h3 hj
theorem P4{Γ:ez}{l:List AO}{L:Nat->List Nat × List Nat}:∀(jH:List AO)(i:Nat)(σ σ':St)(log:List (List Nat × List Nat)),ZD Γ jH σ=some (σ',log)->(∀ j,jH[j]? = l[i+j]?)->(∀ j x,log[j]? = some x->L (i+j)=x)->
  jo Γ l L (List.range' i jH.length) σ σ'/\log.length=jH.length
 | [],i,σ,σ',log,h,_,_=>by simp[ZD]at h;obtain⟨rfl,rfl⟩:=h;exact⟨rfl,rfl⟩
 | o::r,i,σ,σ',log,h,hl,hL=>by
  simp only[ZD]at h
  split at h
  rotate_left
  ·cases h
  rename_i σ1 a w hs
  split at h
  rotate_left
  ·cases h
  rename_i σ2 lg hr
  cases h;have h0:L i=(a,w):=hL 0 _ rfl;obtain⟨h1,h2⟩:=P4 r (i+1) σ1 σ' lg hr (λj=>by have:=hl (j+1);simpa[Nat.add_assoc,Nat.add_comm 1 j]using this) (λj x hx=>by
   have:=hL (j+1) x (by simpa using hx);rwa [show i+(j+1)=i+1+j by omega]at this)
  refine⟨?_,by simp[h2]⟩;rw[List.length_cons,List.range'_succ];exact⟨o,σ1,by simpa using(hl 0).symm,by rw[h0];exact hs,h1⟩
theorem P5{ev:aX->AV}{op:ea}(h:op.cP=false):acc ev op=[]:=by
 cases op <;> simp[ea.cP]at h <;> rfl
theorem P6{Γ:ez}{ev:aX->AV}{h:Nat->aR}{b:Nat}{op:ea}{e:fi}(hw:op.writes=false)(hd:Qw Γ ev h b op=some e):e.fS=[]:=by
 cases op <;> simp[ea.writes]at hw <;> simp only[Qw]at hd <;> (repeat' split at hd) <;> first | (cases hd;rfl) | cases hd | (have hd:=(Option.some.inj hd).symm;subst hd;rfl)
theorem P7{op:ea}(h:op.cP=false):op.writes=false:=by
 cases op <;> simp[ea.cP]at h <;> rfl
theorem P8{Γ:ez}{o:AO}{s s':St}{a w:List Nat}(h:Zt Γ o s=some (s',a,w)):(o.op.cP=false->a=[])/\(o.op.writes=false->w=[]):=by
 unfold Zt at h
 split at h
 ·split at h
  rotate_left
  ·cases h
  rename_i e he
  cases h;exact⟨P5,λhw=>by rw[P6 hw he];rfl⟩
 ·split at h
  rotate_left
  ·cases h;exact⟨λ_=>rfl,λ_=>rfl⟩
  ·cases h
  split at h
  ·split at h
   rotate_left
   ·cases h
   rename_i e he
   cases h;exact⟨P5,λhw=>by rw[P6 hw he];rfl⟩
  ·cases h;exact⟨λ_=>rfl,λ_=>rfl⟩
theorem P9(l:List Nat):JH l []=true:=by unfold JH;simp
theorem Ra{Γ:ez}{o:AO}{s s':St}{a w:List Nat}(h:Zt Γ o s=some (s',a,w)):s'.nx=s.nx:=by
 obtain⟨v,bl,rfl,_⟩:=ET h;rfl
theorem QRx{ops:Array Oper}{i j:Nat}(qA:i<j)(hj:j<ops.size)(hw:pV ops i j=false):(i,j)∈ZX ops:=by
 unfold ZX Ot;rw[List.mem_flatMap];refine⟨j,List.mem_range.2 hj,?_⟩;rw[List.mem_filterMap];unfold pV at hw;exact⟨i,List.mem_range.2 qA,by rw[hw];simp⟩
theorem QLs{Γ:ez}{l:List AO}{ops:Array Oper}{σ σ':St}{log:List (List Nat × List Nat)}(i5:Ou l (ZX ops)=true)(E2:sU log (DM l (ZX ops))=true)
  (hlen:log.length=l.length) (hr:jo Γ l (λj=>(log[j]?).getD ([],[])) (List.range' 0 l.length) σ σ') {i j:Nat} (qA:i<j) (hj:j<ops.size) (mf:j<l.length) (hw:pV ops i j=false) :
  E1 l (λj=>(log[j]?).getD ([],[])) i j:=by
 have hm:=QRx qA hj hw;intro oi oj hi E3;have f1:oi.free oj=true:=by
  have:=List.all_eq_true.1 i5 (i,j) hm;simpa[hi,E3]using this
 obtain⟨ai,s1,s1',Rb,mr⟩:=jo.mem (j:=i) _ hr (by simp;omega);obtain⟨aj,s2,s2',Rc,E4⟩:=jo.mem (j:=j) _ hr (by simp;omega);rw[hi]at Rb;rw[E3]at Rc
 cases Rb
 cases Rc;obtain⟨q1,q2⟩:=P8 mr;obtain⟨q3,q4⟩:=P8 E4;refine⟨f1,?_⟩;by_cases fc:(i,j)∈DM l (ZX ops)
 ·have:=List.all_eq_true.1 E2 (i,j) fc;obtain⟨x,hx⟩:∃ x,log[i]? = some x:=⟨log[i]'(by omega),List.getElem?_eq_getElem (by omega)⟩
  obtain⟨y,hy⟩:∃ y,log[j]? = some y:=⟨log[j]'(by omega),List.getElem?_eq_getElem (by omega)⟩
  obtain⟨a,w⟩:=x;obtain⟨a',w'⟩:=y;simp only[hx,hy,Bool.and_eq_true]at this;simp only[hx,hy,Option.getD_some];exact this
 ·have fk:(oi.op.cP&&oj.op.cP&&(oi.op.writes||oj.op.writes))=false:=by
   cases hb:(oi.op.cP&&oj.op.cP&&(oi.op.writes||oj.op.writes)) with
   | false=>rfl
   | true=>exact absurd (List.mem_filter.2 ⟨hm,by simp only[hi,E3,hb]⟩) fc
  cases t1:oi.op.cP with
  | false =>
   rw[q1 t1,q2 (P7 t1)];exact⟨rfl,P9 _⟩
  | true =>
   cases t2:oj.op.cP with
   | false =>
    rw[q3 t2,q4 (P7 t2)];exact⟨P9 _,rfl⟩
   | true =>
    rw[t1,t2]at fk;simp only[Bool.and_self,Bool.true_and,Bool.or_eq_false_iff]at fk;rw[q2 fk.1,q4 fk.2];exact⟨rfl,rfl⟩
def qB(nx n:Nat)(p:List Nat)(k:Nat):Prop:=nx+16*n<=k\/∃ j,j∈p/\nx+16*j<=k/\k<nx+16*j+16
theorem Re:∀(l:List Oper)(acc:List (List Nat)),(∀(k:Nat)(x:List Nat),acc[k]? = some x->(pU l acc)[k]? = some x)/\
  ∀(j:Nat)(o:Oper),l[j]? = some o->∀ x,x∈((pU l acc)[acc.length+j]?).getD []->∃ k,k∈Je o/\(x=k\/x∈((pU l acc)[k]?).getD [])
 | [],acc=>⟨λk x h=>h,λj o h=>by simp at h⟩
 | o::l,acc=>by
  obtain⟨h1,h2⟩:=Re l (acc++[((Je o).flatMap λk=>k::(acc[k]?).getD []).eraseDups]);have v3:∀(k:Nat)(x:List Nat),acc[k]? = some x->(pU (o::l) acc)[k]? = some x:=λk x hk=>h1 k x (by rw[List.getElem?_append_left (List.getElem?_eq_some_iff.1 hk).1];exact hk);refine⟨v3,λj o' hj x hx=>?_⟩
  cases j with
  | zero =>
   simp only[List.getElem?_cons_zero,Option.some.injEq]at hj;subst hj;have h3:=h1 acc.length ((Je o).flatMap λk=>k::(acc[k]?).getD []).eraseDups (by simp);have h3:(pU (o::l) acc)[acc.length]? = some (((Je o).flatMap λk=>k::(acc[k]?).getD []).eraseDups):=h3;rw[Nat.add_zero,h3,Option.getD_some]at hx;rw[List.mem_eraseDups,List.mem_flatMap]at hx;obtain⟨k,hk,hx⟩:=hx;refine⟨k,hk,?_⟩
   rcases List.mem_cons.1 hx with h | h
   ·exact .inl h
   ·right
    cases hq:acc[k]? with
    | none=>rw[hq]at h;cases h
    | some y=>rw[hq]at h;rw[v3 k y hq];exact h
  | succ j =>
   have:=h2 j o' (by simpa using hj) x (by
    rw[List.length_append,List.length_singleton,Nat.add_assoc,Nat.add_comm 1 j];exact hx)
   exact this
theorem QTV{ops:Array Oper}{j:Nat}{o:Oper}(ho:ops[j]? = some o){x:Nat}(hx:x∈((kp ops)[j]?).getD []):∃ k,k∈Je o/\(x=k\/x∈((kp ops)[k]?).getD []):=by
 have:=(Re ops.toList []).2 j o (by simpa using ho) x (by simpa[kp]using hx);exact this
theorem Rf{o:Oper}{k:Nat}(h:k∈Je o):∃ e∈o.after,Region.binds .any e=true/\e.on=k:=by
 unfold Je at h;obtain⟨e,he,rfl⟩:=List.mem_map.1 h;obtain⟨h1,h2⟩:=List.mem_filter.1 he;exact⟨e,by simpa using h1,h2,rfl⟩
theorem QJu{ops:Array Oper}{p:List Nat}(j5:DL ops=true)(ld:∀(j:Nat)(o:Oper),ops[j]? = some o->j∉p->∀ k,k∈Je o->k∉p){j:Nat}{o:Oper}(ho:ops[j]? = some o)(hd:∀ k,k∈Je o->k∉p){i:Nat}(hi:i∈p):pV ops i j=false:=by
 have key:∀(n j:Nat)(o:Oper),j<n->ops[j]? = some o->(∀ k,k∈Je o->k∉p)->∀ x,x∈((kp ops)[j]?).getD []->x∉p:=by
  intro n
  induction n with
  | zero=>intro j o hj;omega
  | succ n ih =>
   intro j o hj ho hd x hx;obtain⟨k,hk,h⟩:=QTV ho hx
   rcases h with rfl | h
   ·exact hd _ hk
   ·have hkj:k<j:=by
     obtain⟨e,he,hb,rfl⟩:=Rf hk;have h1:=List.all_eq_true.1 j5 j (List.mem_range.2 (Array.getElem?_eq_some_iff.1 ho).1);rw[ho]at h1;have h2:=Array.all_eq_true_iff_forall_mem.1 h1 e he;simpa[hb]using h2
    have zy:k<ops.size:=by have:=(Array.getElem?_eq_some_iff.1 ho).1;omega
    exact ih k ops[k] (by omega) (Array.getElem?_eq_getElem zy) (ld k ops[k] (Array.getElem?_eq_getElem zy) (hd k hk)) x h
 cases hw:pV ops i j with
 | false=>rfl
 | true =>
  unfold pV at hw;exact absurd hi (key (j+1) j o (by omega) ho hd i (by simpa using hw))
section
variable {C:Ctx} {Q:Exit->Act->World->Prop} {Γ:ez} {ops:Array Oper}
theorem QKj(hΓ:JS C.P Γ){l:List AO}{L:Nat->List Nat × List Nat}{σf:St}{nx:Nat}(hc:mJ C.P C.N ops ops.toList 0=some l)(j5:DL ops=true)
  (E5:∀ i j,i<j->j<ops.size->pV ops i j=false->E1 l L i j)
  (hQ:∀ a w,cz C (λk=>nx+16*ops.size<=k) σf a w->Q .normal a w) :
  ∀(fuel:Nat)(p:List Nat)(cF:Array Bool)(σ:St)(a:Act)(w:World),p.length<=fuel->p.Pairwise (· < ·)->(∀ j,j∈p->j<ops.size)->(∀ j,j<ops.size->(cF.getD j true=false↔j∈p))->
   cF.size=ops.size->(∀(j:Nat)(o:Oper),ops[j]? = some o->j∉p->∀ k,k∈Je o->k∉p)->σ.nx=nx->jo Γ l L p σ σf->cz C (qB nx ops.size p) σ a w->wpAny C.P .any ops Q fuel cF a w:=by
 have eJ:∀(i:Nat)(o:Oper),ops[i]? = some o->∃ ao,l[i]? = some ao/\s3 C.P C.N ops o i=some ao:=λi o ho=>by
  obtain⟨_,h⟩:=E0 hc;obtain⟨ao,h1,h2,_⟩:=h i o (by simpa using ho);exact⟨ao,h1,by simpa using h2⟩
 have oD:∀(σ:St)(a:Act)(w:World)(cF:Array Bool),(∀ j,j<ops.size->(cF.getD j true=false↔j∈([]:List Nat)))->σ.nx=nx->jo Γ l L [] σ σf->cz C (qB nx ops.size []) σ a w->Region.ready .any ops cF=[]/\Q .normal a w:=by
  intro σ a w cF hl hn hr S;refine⟨?_,?_⟩
  ·cases hx:Region.ready .any ops cF with
   | nil=>rfl
   | cons i r =>
    have hi:i∈Region.ready .any ops cF:=by rw[hx];exact List.mem_cons_self ..
    obtain⟨h0,o,ho,_⟩:=mem_ready.1 hi;have:=(hl i (Array.getElem?_eq_some_iff.1 ho).1).1 h0
    cases this
  ·have hr:σf=σ:=hr;subst hr;obtain⟨ι,S⟩:=S;exact hQ a w ⟨ι,S.qx λk hk=>.inl hk⟩
 intro fuel
 induction fuel with
 | zero =>
  intro p cF σ a w hf hp aW hl bV ld hn hr S;have:p=[]:=List.eq_nil_of_length_eq_zero (by omega);subst this;exact oD σ a w cF hl hn hr S
 | succ fuel ih =>
  intro p cF σ a w hf hp aW hl bV ld hn hr S;refine⟨λh0=>?_,λi hi=>?_⟩
  ·cases p with
   | nil=>exact(oD σ a w cF hl hn hr S).2
   | cons j p =>
    exfalso;have hj:=aW j (List.mem_cons_self ..);have Rg:j∈Region.ready .any ops cF:=by
     refine mem_ready.2 ⟨(hl j hj).2 (List.mem_cons_self ..),ops[j],Array.getElem?_eq_getElem hj,λe he hb=>?_⟩;have h1:=List.all_eq_true.1 j5 j (List.mem_range.2 hj);rw[Array.getElem?_eq_getElem hj]at h1;have h2:=Array.all_eq_true_iff_forall_mem.1 h1 e he;simp only[hb,Bool.not_true,Bool.false_or,decide_eq_true_eq]at h2;have h3:e.on∉j::p:=by
      intro hm
      rcases List.mem_cons.1 hm with h | h
      ·omega
      ·have:=List.rel_of_pairwise_cons hp h;omega
     have h4:e.on<cF.size:=by omega
     have h5:¬ cF.getD e.on true=false:=λh=>h3 ((hl e.on (by omega)).1 h);simp only[Array.getD,h4,dif_pos]at h5 ⊢;simpa using h5
    rw[h0]at Rg
    cases Rg
  ·obtain⟨h0,o,ho,ej⟩:=mem_ready.1 hi;have fc:i<ops.size:=(Array.getElem?_eq_some_iff.1 ho).1;have Rh:i∈p:=(hl i fc).1 h0;obtain⟨p1,p2,rfl⟩:=List.append_of_mem Rh;have Ri:=List.pairwise_append.1 hp;have v5:∀ k,k∈p1->k<i:=λk hk=>Ri.2.2 k hk i (List.mem_cons_self ..);have lJ:∀ k,k∈p2->i<k:=λk hk=>List.rel_of_pairwise_cons Ri.2.1 hk;have oE:∀ k,k∈Je o->k∉p1++i::p2:=λk hk hm=>by
    obtain⟨e,he,hb,rfl⟩:=Rf hk;have h1:=ej e he hb;have pX:=aW _ hm;have h2:=(hl e.on pX).2 hm;have h4:e.on<cF.size:=by omega
    simp only[Array.getD,h4,dif_pos]at h1 h2;rw[h1]at h2
    cases h2
   have hr':=jo.pull p1 hr λk hk =>
    E5 k i (v5 k hk) fc (QJu j5 ld ho oE (List.mem_append.2 (.inl hk)))
   obtain⟨ao,σ1,h1,h2,h3⟩:=hr';obtain⟨P2,h4,h5⟩:=eJ i o ho;rw[h4]at h1
   cases h1;have dE:∀ k,k∈p1++p2↔k∈p1++i::p2/\k≠i:=by
    intro k;simp only[List.mem_append,List.mem_cons];constructor
    ·rintro(h | h)
     ·exact⟨.inl h,by have:=v5 k h;omega⟩
     ·exact⟨.inr (.inr h),by have:=lJ k h;omega⟩
    ·rintro⟨h | h | h,hk⟩
     ·exact .inl h
     ·exact absurd h hk
     ·exact .inr h
   refine wpOp_mono (λa' w' S'=>?_) (PZ (U':=qB nx ops.size (p1++p2)) hΓ S ho h5 (λk k1 k2=>.inr ⟨i,Rh,by omega,by omega⟩) (λk hk=>?_) h2)
   ·refine ih (p1++p2) _ σ1 a' w' ?_ ?_ (λj hj=>aW j ((dE j).1 hj).1) (λj hj=>?_) (by simpa using bV) (λj o' iQ hj k hk=>?_) ((Ra h2).trans hn) h3 S'
    ·simp only[List.length_append,List.length_cons]at hf ⊢;omega
    ·exact hp.sublist (List.Sublist.append (List.Sublist.refl _) (List.sublist_cons_self ..))
    ·rw[dE];by_cases tn:j=i
     ·subst tn;have:j<cF.size:=by omega
      simp[this]
     ·rw[getD_set_ne true (Ne.symm tn),hl j hj];exact⟨λh=>⟨h,tn⟩,λh=>h.1⟩
    ·intro jU;have jU:=((dE k).1 jU).1;by_cases tn:j=i
     ·subst tn;rw[ho]at iQ
      cases iQ;exact oE k hk jU
     ·exact ld j o' iQ (λhm=>hj ((dE j).2 ⟨hm,tn⟩)) k hk jU
   ·rcases hk with hk | ⟨j,hj,k1,k2⟩
    ·refine⟨.inl hk,?_⟩;omega
    ·have Rj:=(dE j).1 hj;refine⟨.inr ⟨j,Rj.1,k1,k2⟩,?_⟩;have:=Rj.2;omega
end
end Go.Proofs.YtdplaepmjogjjaaGreat.Am
namespace Go.Proofs.YtdplaepmjogjjaaGreat.Am
open Go Go.RowKit
def l9.up:l9->Exit
 | .normal=>.normal
 | .exit id=>.exit id
 | .ret=>.ret
def E6(C:Ctx)(Qa:l9->St->Prop)(Q:Exit->Act->World->Prop):Prop:=∀ e σ a w,Qa e σ->eZ C σ a w->Q e.up a w
theorem QMG{p:Nat->Prop}(h:∃ n,p n):∃ n,p n/\∀ m,p m->n<=m:=by
 obtain⟨n,hn⟩:=h
 induction n using Nat.strongRecOn with
 | _ n ih =>
  by_cases hx:∃ m,m<n/\p m
  ·obtain⟨m,hm,hp⟩:=hx;exact ih m hm hp
  ·refine⟨n,hn,λm hm=>?_⟩
   rcases Nat.lt_or_ge m n with h1 | h1
   ·exact absurd ⟨m,h1,hm⟩ hx
   ·exact h1
theorem QWM{α:Type}(p:α->Nat->Prop):∃ f:α->Nat,∀ x,(∃ n,p x n)->p x (f x)/\∀ m,p x m->f x<=m:=by
 have:∀ x,∃ n,(∃ n,p x n)->p x n/\∀ m,p x m->n<=m:=by
  intro x;by_cases h:∃ n,p x n
  ·obtain⟨n,hn⟩:=QMG h;exact⟨n,λ_=>hn⟩
  ·exact⟨0,λh'=>absurd h' h⟩
 exact⟨λx=>(this x).choose,λx hx=>(this x).choose_spec hx⟩
theorem eZ.fU{C:Ctx}{σ:St}{a:Act}{w:World}{n:Nat}(S:cz C (λk=>σ.nx+n<=k) σ a w):eZ C (σ.fU n) a w:=by
 obtain⟨ι,S⟩:=S;exact⟨ι,S.nx⟩
theorem Sat.drawn{C:Ctx}{U:Nat->Prop}{σ:St}{a:Act}{w:World}{ι:Io}(S:Sat C U σ a w ι)(n:Nat):Sat C U σ a { w with drawn:=n } ι:=by
 have hr:∀ id,Rest w { w with drawn:=n } ι ι id:=λid=>⟨rfl,rfl,λ_ _=>rfl,λb p hk=>⟨hk,rfl⟩⟩
 exact S.eh (On:=σ.nx) ⟨S.dD.os,S.dD.tape,S.dD.output,S.dD.size,S.dD.block⟩ (λb hb=>⟨hb,rfl⟩) (λid=>(hr id).gD rfl) (λi cs hx=>by rw[hx];simp) (λid=>.inl ⟨rfl,hr id⟩) S.inj S.eg S.fresh S.live
  (λb id p hk=>let L:=S.df b id p hk;⟨L.pn,L.dp,L.fr,L.lt,L.ne⟩)
theorem Rk{C:Ctx}{U:Nat->Prop}{σ:St}{a:Act}{w:World}{ι:Io}(S:Sat C U σ a w ι){x:Operand}{x':aX}{ty:TypeId}(hx:cO C.P ty x=some x'){b:Bool}(hv:x'.ev σ.t = .c (.v (.bool b))):a.eval x = .bool b:=by
 have h1:=Zs S hx;rw[hv]at h1;exact h1.int
section
variable {C:Ctx} {Γ:ez}
theorem v7(hm:C.P.follows .mixedOrders=true)(hΓ:JS C.P Γ):∀(c:Code)(ac:eB)(Qa:l9->St->Prop)(Q:Exit->Act->World->Prop)(σ:St)(a:Act)(w:World),comp C.P C.N c=some ac->
  km Γ ac Qa σ->eZ C σ a w->E6 C Qa Q->c.wp C.P Q a w:=by
 intro c
 induction c with
 | skip =>
  intro ac Qa Q σ a w hc h S hQ;simp only[comp,Option.some.injEq]at hc;subst hc;exact wp_skip (hQ .normal σ a w h S)
 | region id ops draw =>
  intro ac Qa Q σ a w hc h S hQ;simp only[comp]at hc
  split at hc
  rotate_left
  ·cases hc
  rename_i l hl;have hlen:l.length=ops.size:=by have:=(E0 hl).1;simpa using this
  cases draw with
  | false =>
   simp only[Bool.false_eq_true,if_false,Option.some.injEq]at hc;subst hc;refine wp_region ?_;rw[List.range_eq_range',show ops.size=ops.toList.length by simp];refine P3 hΓ ops.toList 0 l σ a w hl (λj=>by simp) (by simpa[eZ]using S) h (λσ' a' w' S' hn hk=>?_);refine hQ .normal _ a' w' hk (eZ.fU ?_);rw[hn];simpa[hlen]using S'
  | true =>
   simp only[if_true]at hc
   split at hc
   rotate_left
   ·cases hc
   rename_i E7;rw[Bool.and_eq_true]at E7;have hc:=(Option.some.inj hc).symm;subst hc;simp only[km]at h
   split at h
   rotate_left
   ·exact h.elim
   rename_i σ' log hd;obtain⟨fk,hk⟩:=h;obtain⟨hr,hll⟩:=P4 (l:=l) (L:=λj=>(log[j]?).getD ([],[])) l 0 σ σ' log hd (λj=>by simp) (λj x hx=>by simp[hx]);refine wp_region_any hm ?_;obtain⟨ι,S⟩:=S;have hn:σ'.nx=σ.nx:=by
    have:∀(p:List Nat)(s s':St),jo Γ l (λj=>(log[j]?).getD ([],[])) p s s'->s'.nx=s.nx:=by
     intro p
     induction p with
     | nil=>intro s s' h;rw[show s'=s from h]
     | cons i p ih =>
      intro s s' h;obtain⟨ao,s1,_,h2,h3⟩:=h;exact(ih s1 s' h3).trans (Ra h2)
    exact this _ _ _ hr
   refine QKj hΓ (nx:=σ.nx) (σf:=σ') hl E7.2 (λi j qA hj hw=>QLs E7.1 fk hll hr qA hj (by omega) hw) (λa' w' S'=>?_) ops.size (List.range' 0 l.length) _ σ a _ (by simp[hlen]) ?_ (λj hj=>by simp at hj;omega) (λj hj=>by simp[hj,hlen]) (by simp) (λj o ho hj=>absurd (show j∈List.range' 0 l.length by have:=(Array.getElem?_eq_some_iff.1 ho).1;simp[hlen];omega) hj) rfl hr ⟨ι,(S.drawn _).qx λk hk=>?_⟩
   ·refine hQ .normal _ a' w' hk (eZ.fU ?_);rw[hn,hlen];exact S'
   ·exact List.pairwise_lt_range'
   ·show σ.nx<=k
    rcases hk with hk | ⟨j,_,hk,_⟩ <;> omega
 | seq x y v8 qC =>
  intro ac Qa Q σ a w hc h S hQ;simp only[comp]at hc
  split at hc
  rotate_left
  ·cases hc
  rename_i x' y' hx hy
  cases hc;simp only[km]at h;refine wp_seq (v8 _ _ _ σ a w hx h S ?_);intro e σ' a' w' he S'
  cases e with
  | normal=>exact qC _ _ _ σ' a' w' hy he S' hQ
  | exit id=>exact hQ _ _ _ _ he S'
  | ret=>exact hQ _ _ _ _ he S'
 | cond x y z qC ihz =>
  intro ac Qa Q σ a w hc h S hQ;simp only[comp]at hc
  split at hc
  rotate_left
  ·cases hc
  rename_i x' y' z' hx hy hz
  cases hc;simp only[km]at h
  split at h
  rotate_left
  ·exact h.elim
  rename_i t ht;obtain⟨ι,S0⟩:=S;exact wp_cond_split (Rk S0 hx ht) (λe=>qC _ _ _ σ a w hy (h.1 e) ⟨ι,S0⟩ hQ) (λe=>ihz _ _ _ σ a w hz (h.2 e) ⟨ι,S0⟩ hQ)
 | block id x ih =>
  intro ac Qa Q σ a w hc h S hQ;simp only[comp,Option.map_eq_some_iff]at hc;obtain⟨x',hx,rfl⟩:=hc;simp only[km]at h;refine wp_block (ih _ _ _ σ a w hx h S ?_);intro e σ' a' w' he S'
  cases e with
  | normal=>exact hQ _ _ _ _ he S'
  | ret=>exact hQ _ _ _ _ he S'
  | exit b7 =>
   simp only at he;show Exit.inBlock id Q (.exit b7) a' w';simp only[Exit.inBlock]
   split
   ·rename_i heq;rw[if_pos heq]at he;exact hQ .normal _ _ _ he S'
   ·rename_i heq;rw[if_neg heq]at he;exact hQ (.exit b7) _ _ _ he S'
 | loop x ih =>
  intro ac Qa Q σ a w hc h S hQ;simp only[comp,Option.map_eq_some_iff]at hc;obtain⟨x',hx,rfl⟩:=hc;simp only[km]at h;obtain⟨I,μ,hI,lK⟩:=h;obtain⟨f,hf⟩:=QWM (λ(x:Act × World) n=>∃ σ,I σ/\eZ C σ x.1 x.2/\μ σ=n);refine wp_loop (λa w=>∃ σ,I σ/\eZ C σ a w) (λa w=>f (a,w)) ⟨σ,hI,S⟩ (λa w ⟨σ0,h0,S0⟩=>?_);obtain⟨⟨σ1,h1,S1,h2⟩,_⟩:=hf (a,w) ⟨_,σ0,h0,S0,rfl⟩;refine ih _ _ _ σ1 a w hx (lK σ1 h1) S1 ?_;intro e σ' a' w' he S'
  cases e with
  | normal =>
   obtain⟨h3,h4⟩:=he;refine⟨⟨σ',h3,S'⟩,?_⟩;have:=(hf (a',w') ⟨_,σ',h3,S',rfl⟩).2 _ ⟨σ',h3,S',rfl⟩;show f (a',w')<f (a,w);omega
  | exit id=>exact hQ _ _ _ _ he S'
  | ret=>exact hQ _ _ _ _ he S'
 | exit id =>
  intro ac Qa Q σ a w hc h S hQ;simp only[comp,Option.some.injEq]at hc;subst hc;exact wp_exit (hQ (.exit id) σ a w h S)
 | ret =>
  intro ac Qa Q σ a w hc h S hQ;simp only[comp,Option.some.injEq]at hc;subst hc;exact wp_ret (hQ .ret σ a w h S)
 | _=>intro ac Qa Q σ a w hc;simp[comp]at hc
end
end Go.Proofs.YtdplaepmjogjjaaGreat.Am
namespace Go.Proofs.YtdplaepmjogjjaaGreat.Am
open Go Go.RowKit
inductive bn where
 | t (s:Nat)
 | l (s n:Nat) (agg:Bool)
def zA(P:Program):ResultVar->Option bn
 | .tmp t=>some (.t t)
 | .cell a ty=>match cA P ty,JK P ty with
  | some n,some agg=>some (.l a (if agg then n else 1) agg)
  | _,_=>none
def kz(P:Program):List ResultVar->Option (List bn)
 | []=>some []
 | x::xs=>match zA P x,kz P xs with
  | some y,some ys=>some (y::ys)
  | _,_=>none
def zB:ez:=⟨λ_=>[],λ_ _=>none,false⟩
def bn.get(σ:St):bn->Option AV
 | .t s=>some (σ.t s)
 | .l s n agg=>match Qw zB (aX.ev σ.t) σ.h 0 (.load (.s s) n agg) with
  | some e=>some e.val
  | none=>none
def qD(σ:St):List bn->Option (List AV)
 | []=>some []
 | x::xs=>match x.get σ,qD σ xs with
  | some y,some ys=>some (y::ys)
  | _,_=>none
def Rl:List AV->AV
 | [x]=>x
 | xs=>.t xs
def AV.eU(ids:List Nat):AV->AV
 | .r sz id off len=>if id∈ids then .r sz (ids.idxOf id) off len else .u
 | .p id i j=>if id∈ids then .p (ids.idxOf id) i j else .u
 | .c d=>.c d
 | .n sz=>.n sz
 | .q cs j=>.q cs j
 | _=>.u
def AV.i6(ids:List Nat):AV->AV
 | .a cs=>.a (cs.map (AV.eU ids))
 | x=>x.eU ids
def AV.rn(ids:List Nat):AV->AV
 | .t vs=>.t (vs.map (AV.i6 ids))
 | x=>x.i6 ids
def aR.rn(ids:List Nat):aR->aR
 | .box cs=>.box (cs.map (AV.eU ids))
 | x=>x
def oF(h:Nat->aR):Nat->Nat->Option (List (List AV))
 | 0,_=>some []
 | n+1,k=>match h k,oF h n (k+1) with
  | .box cs,some cC=>if cs.all mj then some (cs::cC) else none
  | _,_=>none
def J8(h:Nat->aR):Nat->Nat->Option (List aR)
 | 0,_=>some []
 | n+1,k=>match h k,J8 h n (k+1) with
  | .sl e sz m es,some cC=>some (.sl e sz m es::cC)
  | .dead,some cC=>some (.dead::cC)
  | _,_=>none
def zC(n m:Nat)(ids:List Nat)(σ:St)(v:AV):Option ie :=
 match oF σ.h n 0,J8 σ.h m n with
 | some cC,some gs=>some ⟨v.rn ids,ids.map λid=>(σ.h id).rn ids,cC,true,gs⟩
 | _,_=>none
def fH:List AV->Nat->List AV
 | [],_=>[]
 | .ow _ sz _ es::r,m=>.r sz m 0 es.length::fH r (m+1)
 | x::r,m=>x::fH r m
def Z1:List AV->List aR
 | []=>[]
 | .ow e sz m es::r=>.sl e sz m es::Z1 r
 | _::r=>Z1 r
def dJ:List AV->Nat->Nat->List AV
 | [],_,_=>[]
 | .bx _::r,k,m=>.p k 0 0::dJ r (k+1) m
 | .ow _ sz _ es::r,k,m=>.r sz m 0 es.length::dJ r k (m+1)
 | .a cs::r,k,m=>.a (fH cs m)::dJ r k (m+(Z1 cs).length)
 | x::r,k,m=>x::dJ r k m
def dB:List AV->List aR
 | []=>[]
 | .ow e sz m es::r=>.sl e sz m es::dB r
 | .a cs::r=>Z1 cs++dB r
 | _::r=>dB r
def cK:List AV->List (List AV)
 | []=>[]
 | .bx cs::r=>cs::cK r
 | _::r=>cK r
def Jp(xs:List AV):St :=
 ⟨λs=>((dJ xs 0 (cK xs).length)[s]?).getD .u,λi=>match(cK xs)[i]? with | some cs=>.box cs | none=>((dB xs)[i-(cK xs).length]?).getD .none,(cK xs).length+(dB xs).length⟩
def l9.over:l9->Prop
 | .normal=>True
 | .ret=>True
 | .exit _=>False
theorem Rm{P:Program}{w:World}{α:Type}(f:α->Sem Value):∀(l:List α)(rest:List Value),rest.length=l.length->
  (∀(k:Nat)(v:Value)(x:α),rest[k]? = some v->l[k]? = some x->(f x).run P w = .ok v w)->(l.mapM f).run P w = .ok rest w
 | [],[],_,_=>by simp
 | [],v::rest,hl,_=>by simp at hl
 | x::l,[],hl,_=>by simp at hl
 | x::l,v::rest,hl,h=>by
  rw[List.mapM_cons,Sem.run_bind,h 0 v x rfl rfl,Result.andThen_ok,Sem.run_bind,Rm f l rest (by simpa using hl) (λk v x hk hx=>h (k+1) v x hk hx),Result.andThen_ok,Sem.run_pure]
theorem Rn{h:Nat->aR}:∀ {n k:Nat} {cC:List (List AV)},oF h n k=some cC->cC.length=n/\∀(i:Nat)(cs:List AV),cC[i]? = some cs->h (k+i) = .box cs/\cs.all mj=true
 | 0,k,cC,hx=>by simp[oF]at hx;subst hx;simp
 | n+1,k,cC,hx=>by
  simp only[oF]at hx
  split at hx
  ·rename_i cs lL h1 h2
   split at hx
   ·rename_i h3;have hx:=(Option.some.inj hx).symm;subst hx;obtain⟨h4,h5⟩:=Rn h2;refine⟨by simp[h4],λi c hi=>?_⟩
    cases i with
    | zero=>simp at hi;subst hi;exact⟨h1,h3⟩
    | succ i =>
     simp at hi;rw[show k+(i+1)=k+1+i by omega];exact h5 i c hi
   ·cases hx
  ·cases hx
theorem E8{h:Nat->aR}:∀ {n k:Nat} {cC:List aR},J8 h n k=some cC->cC.length=n/\∀(i:Nat)(B:aR),cC[i]? = some B->h (k+i)=B/\(B = .dead\/∃ e sz m es,B = .sl e sz m es)
 | 0,k,cC,hx=>by simp[J8]at hx;subst hx;simp
 | n+1,k,cC,hx=>by
  simp only[J8]at hx
  split at hx
  ·rename_i e sz m es lL h1 h2
   cases hx;obtain⟨h4,h5⟩:=E8 h2;refine⟨by simp[h4],λi c hi=>?_⟩
   cases i with
   | zero=>simp at hi;subst hi;exact⟨h1,.inr ⟨_,_,_,_,rfl⟩⟩
   | succ i =>
    simp at hi;rw[show k+(i+1)=k+1+i by omega];exact h5 i c hi
  ·rename_i lL h1 h2
   cases hx;obtain⟨h4,h5⟩:=E8 h2;refine⟨by simp[h4],λi c hi=>?_⟩
   cases i with
   | zero=>simp at hi;subst hi;exact⟨h1,.inl rfl⟩
   | succ i =>
    simp at hi;rw[show k+(i+1)=k+1+i by omega];exact h5 i c hi
  ·cases hx
section
variable {w:World} {F F':Nat->Prop} {ι ι':Io} {h h':Nat->aR} {ids:List Nat}
theorem YG{id:Nat}(a9:id∈ids):ids[ids.idxOf id]? = some id:=by
 have h1:ids.idxOf id<ids.length:=List.idxOf_lt_length_of_mem a9;rw[List.getElem?_eq_getElem h1,List.getElem_idxOf h1]
variable (hF:∀ b,F b->F' b) (hh:∀ i id,ids[i]? = some id->h' i=(h id).rn ids/\ι' i=ι id/\ι'.o i=ι.o id)
include hF hh
theorem VR.eU{v:Value}{x:AV}(hv:VR w F ι h v x):VR w F' ι' h' v (x.eU ids):=by
 cases hv with
 | u=>exact .u _
 | c v d hr=>exact .c _ _ (hr.mono λb hb=>⟨hF b hb,rfl⟩)
 | n sz=>exact .n _
 | cy v sz id off len h1 hd =>
  simp only[AV.eU]
  split
  ·rename_i hm;exact .cy _ _ _ _ _ h1 (by rw[(hh _ _ (YG hm)).1,hd];rfl)
  ·exact .u _
 | cL id e sz m hi hx =>
  simp only[AV.eU]
  split
  ·rename_i hm;exact .cL _ e sz m ((hh _ _ (YG hm)).2.1.trans hi) (by rw[(hh _ _ (YG hm)).1,hx];rfl)
  ·exact .u _
 | de ad cap id e sz m hi hx ht =>
  simp only[AV.eU]
  split
  ·rename_i hm;exact .de ad cap _ e sz m ((hh _ _ (YG hm)).2.1.trans hi) (by rw[(hh _ _ (YG hm)).1,hx];rfl) ht
  ·exact .u _
 | r id off len bk ao cap e sz m es hi hx hlen cj jk cX =>
  simp only[AV.eU]
  split
  ·rename_i hm;exact .r _ off len bk ao cap e sz m es ((hh _ _ (YG hm)).2.1.trans hi) (by rw[(hh _ _ (YG hm)).1,hx];rfl) hlen cj (by rw[(hh _ _ (YG hm)).2.2];exact jk) cX
  ·exact .u _
 | cS v id i j h1 hd =>
  simp only[AV.eU]
  split
  ·rename_i hm;exact .cS _ _ _ _ h1 (by rw[(hh _ _ (YG hm)).1,hd];rfl)
  ·exact .u _
 | p id i j bk hi hn hd =>
  simp only[AV.eU]
  split
  ·rename_i hm;have hs:(h' (ids.idxOf id)).sz=(h id).sz:=by rw[(hh _ _ (YG hm)).1];cases h id <;> rfl
   rw[<- hs,<- (hh _ _ (YG hm)).2.2];refine .p _ i j bk ((hh _ _ (YG hm)).2.1.trans hi) ?_ ?_
   ·rw[(hh _ _ (YG hm)).1];cases hx:h id <;> simp_all [aR.rn]
   ·rw[(hh _ _ (YG hm)).1];cases hx:h id <;> simp_all [aR.rn]
  ·exact .u _
 | q bk o j cs x hb hc hr=>exact .q bk o j cs x (hF _ hb) hc (λk d hk=>(hr k d hk).mono λb hb=>⟨hF b hb,rfl⟩)
 | a=>exact .u _
 | t=>exact .u _
 | fm=>exact .u _
 | b=>exact .u _
 | eI=>exact .u _
 | bq=>exact .u _
theorem VR.i6{v:Value}{x:AV}(hv:VR w F ι h v x):VR w F' ι' h' v (x.i6 ids):=by
 cases x with
 | a cs =>
  cases hv with
  | a vs _ hl h1 hv =>
   refine .a vs _ (by simpa using hl) h1 (λk v x hk hx=>?_);simp only[List.getElem?_map,Option.map_eq_some_iff]at hx;obtain⟨y,hy,rfl⟩:=hx;exact(hv k v y hk hy).eU hF hh
 | _=>exact hv.eU hF hh
theorem VR.rn{v:Value}{x:AV}(hv:VR w F ι h v x):VR w F' ι' h' v (x.rn ids):=by
 cases x with
 | t cs =>
  cases hv with
  | t vs _ hl hv =>
   refine .t vs _ (by simpa using hl) (λk v x hk hx=>?_);simp only[List.getElem?_map,Option.map_eq_some_iff]at hx;obtain⟨y,hy,rfl⟩:=hx;exact(hv k v y hk hy).i6 hF hh
 | _=>exact hv.i6 hF hh
theorem BR.rn{i id:Nat}(hi:ids[i]? = some id)(hk:∀ k p,ι.k k=some (id,p)->ι'.k k=some (i,p)){B:aR}(hv:BR w F ι h id B):BR w F' ι' h' i (B.rn ids):=by
 obtain⟨_,hιi,zD⟩:=hh i id hi
 cases hv with
 | none=>exact .none
 | dead=>exact .dead
 | box bk e bm cs bY ho hb hl h1 hv =>
  refine .box bk e bm _ (hιi.trans bY) (zD.trans ho) hb (by simpa using hl) h1 (λk v x hk hx=>?_);simp only[List.getElem?_map,Option.map_eq_some_iff]at hx;obtain⟨y,hy,rfl⟩:=hx;exact(hv k v y hk hy).eU hF hh
 | slnil e sz m hz bY=>exact .slnil e sz m hz (hιi.trans bY)
 | sl bk e e0 sz m es cur hz bY hb eN hle cW bV hv =>
  refine .sl bk e e0 sz m es cur hz (hιi.trans bY) hb (by rw[zD];exact eN) (by rw[zD];exact hle) cW bV (λp q x d hp hq=>?_);obtain⟨v,h1,h2⟩:=hv p q x d hp hq;refine⟨v,by rw[zD];exact h1,?_⟩
  cases m with
  | dp g t H=>exact⟨h2.1,λdr=>(h2.2 dr).map _ λk r fj=>⟨hk k _ fj,rfl⟩⟩
  | _=>exact Rd.mono (λb hb=>⟨hF b hb,rfl⟩) h2
end
section
variable {C:Ctx} {U:Nat->Prop} {σ:St} {a:Act} {w:World} {ι:Io}
def tq(a:Act):ResultVar->Sem Value
 | .tmp t=>pure (a.tmps.getD t undef)
 | .cell ad t=>do loadVar t (<- asAddr (a.tmps.getD ad undef))
theorem QRW(S:Sat C U σ a w ι){x:ResultVar}{y:bn}(hx:zA C.P x=some y){v:AV}(hv:y.get σ=some v) :
  ∃ u,(tq a x).run C.P w = .ok u w/\VR w (Fz C w ι σ.h) ι σ.h u v:=by
 cases x with
 | tmp t =>
  simp only[zA,Option.some.injEq]at hx;subst hx;simp only[bn.get,Option.some.injEq]at hv;subst hv;exact⟨_,rfl,S.bm t⟩
 | cell ad t =>
  simp only[zA]at hx
  split at hx
  rotate_left
  ·cases hx
  rename_i n agg hn eQ
  cases hx;simp only[bn.get]at hv
  split at hv
  rotate_left
  ·cases hv
  rename_i e he
  cases hv;obtain⟨u,x1,rfl,h1,_,ad',h2,h3⟩:=OI (t1:=0) S (x:=.tmp ad) rfl (rfl:cO C.P 0 (.tmp ad)=some (.s ad)) eQ (λh=>by simp[h,hn]) (λh=>by simp[h]) he;refine⟨u,?_,h1⟩;have h4:a.tmps.getD ad undef = .pointer (some ad'):=h2;simp only[tq,h4,asAddr,Sem.run_bind,Sem.run_pure,Result.andThen_ok];exact h3
theorem Ro(S:Sat C U σ a w ι):∀(xs:List ResultVar)(ys:List bn)(vs:List AV),kz C.P xs=some ys->qD σ ys=some vs->
  ∃ us:List Value,us.length=xs.length/\us.length=vs.length/\(∀(k:Nat)(u:Value)(x:ResultVar),us[k]? = some u->xs[k]? = some x->(tq a x).run C.P w = .ok u w)/\
   ∀(k:Nat)(u:Value)(v:AV),us[k]? = some u->vs[k]? = some v->VR w (Fz C w ι σ.h) ι σ.h u v
 | [],ys,vs,hx,hv=>by
  simp[kz]at hx;subst hx;simp[qD]at hv;subst hv;exact⟨[],rfl,rfl,by simp,by simp⟩
 | x::xs,ys,vs,hx,hv=>by
  simp only[kz]at hx
  split at hx
  rotate_left
  ·cases hx
  rename_i y kU h1 h2
  cases hx;simp only[qD]at hv
  split at hv
  rotate_left
  ·cases hv
  rename_i v tr h3 h4
  cases hv;obtain⟨u,h5,h6⟩:=QRW S h1 h3;obtain⟨us,h7,h8,h9,nh⟩:=Ro S xs kU tr h2 h4;refine⟨u::us,by simp[h7],by simp[h8],λk u' x' hu oG=>?_,λk u' v' hu iy=>?_⟩
  ·cases k with
   | zero=>simp at hu oG;subst hu;subst oG;exact h5
   | succ k=>exact h9 k u' x' (by simpa using hu) (by simpa using oG)
  ·cases k with
   | zero=>simp at hu iy;subst hu;subst iy;exact h6
   | succ k=>exact nh k u' v' (by simpa using hu) (by simpa using iy)
theorem QMr(S:Sat C U σ a w ι){fn:Func}{ys:List bn}{vs:List AV}(hx:kz C.P fn.results.toList=some ys)(hv:qD σ ys=some vs) :
  ∃ u,(results fn a.tmps).run C.P w = .ok u w/\VR w (Fz C w ι σ.h) ι σ.h u (Rl vs):=by
 obtain⟨us,h1,h2,h3,h4⟩:=Ro S _ _ _ hx hv;have hu:results fn a.tmps=(do let vs <- fn.results.mapM (tq a);pure (if h:vs.size=1 then vs[0] else .tuple vs)):=rfl;have hm:(fn.results.mapM (tq a)).run C.P w = .ok us.toArray w:=by
  obtain⟨l,hl⟩:∃ l,fn.results=List.toArray l:=⟨fn.results.toList,by simp⟩
  rw[hl]at h1 h3 ⊢;have:=Rm (P:=C.P) (w:=w) (tq a) l us (by simpa using h1) (λk v x hk hx=>h3 k v x hk (by simpa using hx));simp[this]
 have hr:(results fn a.tmps).run C.P w = .ok (if h:us.toArray.size=1 then us.toArray[0] else .tuple us.toArray) w:=by
  rw[hu,Sem.run_bind,hm];rfl
 refine⟨_,hr,?_⟩
 match us,vs,h2,h4 with
 | [u],[v],_,h4=>exact h4 0 u v rfl rfl
 | [],[],_,h4=>exact .t _ _ rfl (by simp)
 | u::u'::us,v::v'::vs,h2,h4 =>
  rw[dif_neg (by simp)];exact .t _ _ (by simpa using h2) (λk u v hk hx=>h4 k u v (by simpa using hk) hx)
end
end Go.Proofs.YtdplaepmjogjjaaGreat.Am
namespace Go.Proofs.YtdplaepmjogjjaaGreat.Am
open Go Go.RowKit
theorem VR.lift{w:World}{F F':Nat->Prop}(hF:∀ b,F b->F' b){ι:Io}{h:Nat->aR}{v:Value}{x:AV}(hx:x.eD=true)(hv:VR w F noι ti v x):VR w F' ι h v x:=by
 cases x with
 | c d=>exact hv.data hF
 | a cs =>
  cases hv with
  | a vs _ hl h1 hv =>
   refine .a vs cs hl h1 (λk v x hk iU=>?_);have:=List.all_eq_true.1 hx x (List.mem_of_getElem? iU)
   cases x with
   | c d=>exact(hv k v _ hk iU).data hF
   | _=>simp at this
 | _=>simp[AV.eD]at hx
theorem lA.lift{w:World}{F F':Nat->Prop}{v:Value}{x:Hd}{e:TypeId}{sz:Nat}{mm:Mo}{es:List (List D)}(H:lA w F v x e sz mm es){ι:Io}{h:Nat->aR}{m:Nat}(h1:ι m=x.o)(ho:ι.o m=x.base)(h2:h m=x.B) :
  VR w F' ι h v (.r sz m 0 es.length):=by
 have lf:=H.vr;rw[H.hB]at h2 lf;generalize hn:es.length=n at lf ⊢
 cases lf with
 | cy _ _ _ _ _ _ hd=>cases hd
 | cL _ e' _ Rp hi b9 =>
  have:es=[]:=List.eq_nil_of_length_eq_zero hn;subst this;exact .cL m e sz mm (h1.trans hi) h2
 | de ad cap _ e' _ Rp hi b9 ht =>
  cases b9;exact .de ad cap m e sz mm (h1.trans hi) h2 ht
 | r _ _ _ b ao cap e' _ Rp bP hi b9 hlen cj jk cX =>
  cases b9;exact .r m 0 n b ao cap e sz mm es (h1.trans hi) h2 hlen cj (by rw[ho];exact jk) cX
theorem QTE:∀(xs:List AV)(m:Nat),(fH xs m).length=xs.length:=by
 intro xs
 induction xs with
 | nil=>intro m;rfl
 | cons x xs ih=>intro m;cases x <;> simp[fH,ih]
theorem QRA:∀(xs:List AV)(n m:Nat),(dJ xs n m).length=xs.length:=by
 intro xs
 induction xs with
 | nil=>intro n m;rfl
 | cons x xs ih=>intro n m;cases x <;> simp[dJ,ih]
theorem Rq:∀ {cs:List AV},cs.all kx=true->(∀ n m,dJ cs n m=fH cs m)/\dB cs=Z1 cs/\cK cs=[]
 | [],_=>⟨λ_ _=>rfl,rfl,rfl⟩
 | x::cs,h=>by
  simp only[List.all_cons,Bool.and_eq_true]at h;obtain⟨h1,h2,h3⟩:=Rq h.2
  cases x with
  | c d=>exact⟨λn m=>by simp only[dJ,fH,h1],by simp only[dB,Z1,h2],by simp only[cK,h3]⟩
  | ow e sz m es=>exact⟨λn m=>by simp only[dJ,fH,h1],by simp only[dB,Z1,h2],by simp only[cK,h3]⟩
  | _=>simp[kx]at h
structure Lay(w:World)(F0:Nat->Prop)(vs:List Value)(xs:List AV)(lb:List Nat)(gb:List Hd):Prop where
 nd:lb.Nodup
 len:lb.length=(cK xs).length
 vl:vs.length=xs.length
 bx:∀(i b:Nat)(cs:List AV),lb[i]? = some b->(cK xs)[i]? = some cs->cs.all mj=true/\∃ e bm,w.heap[b]? = some (.cells bm e (0,0))/\DR w F0 bm cs
 gl:gb.length=(dB xs).length
 fY:∀(j:Nat)(x:Hd),gb[j]? = some x->(dB xs)[j]? = some x.B/\(∃ e sz m es,x.B = .sl e sz m es/\∀ b p,x.K b=some p->p≠[]/\b<w.heap.size/\x.o≠some b/\∃ g t H,m = .dp g t H)/\BR w F0 x.io (λ_=>x.B) 0 x.B/\∀ b,x.has b->b∉lb
 i7:∀(i j b:Nat)(x y:Hd),gb[i]? = some x->gb[j]? = some y->x.has b->y.has b->i=j
 val:∀(n m:Nat)(F:Nat->Prop)(ι:Io)(h:Nat->aR),(∀ b,F0 b->F b)->(∀ i b,lb[i]? = some b->ι (n+i)=some b/\ι.o (n+i)=0)->(∀ i cs,(cK xs)[i]? = some cs->h (n+i) = .box cs)->
  (∀(j:Nat)(x:Hd),gb[j]? = some x->ι (m+j)=x.o/\ι.o (m+j)=x.base/\h (m+j)=x.B)->∀(k:Nat)(v:Value),vs[k]? = some v->VR w F ι h v (((dJ xs n m)[k]?).getD .u)
theorem Rr{w:World}{F0:Nat->Prop}{vs:List Value}{xs:List AV}{lb:List Nat}{gb:List Hd}(hA:ew w F0 vs xs lb gb):Lay w F0 vs xs lb gb:=by
 induction hA with
 | nil=>exact⟨List.nodup_nil,rfl,rfl,by simp,rfl,by simp,by simp,by simp⟩
 | eD v x vs xs lb gb hv hr hx ih =>
  have hB:cK (x::xs)=cK xs:=by cases x <;> simp[cK,AV.eD]at hx ⊢
  have E9:∀ cs:List AV,(cs.all fun | .c _=>true | _=>false)=true->Z1 cs=[]/\∀ m,fH cs m=cs:=by
   intro cs
   induction cs with
   | nil=>intro _;exact⟨rfl,λ_=>rfl⟩
   | cons c cs qE =>
    intro h;simp only[List.all_cons,Bool.and_eq_true]at h;obtain⟨k1,k2⟩:=qE h.2
    cases c with
    | c d=>exact⟨by simp only[Z1,k1],λm=>by simp only[fH,k2]⟩
    | _=>simp at h
  have hG:dB (x::xs)=dB xs:=by
   cases x with
   | a cs=>simp only[AV.eD]at hx;simp only[dB,(E9 cs hx).1,List.nil_append]
   | _=>simp[dB,AV.eD]at hx ⊢
  have hS:∀ n m,dJ (x::xs) n m=x::dJ xs n m:=by
   intro n m
   cases x with
   | a cs=>simp only[AV.eD]at hx;simp only[dJ,(E9 cs hx).1,(E9 cs hx).2,List.length_nil,Nat.add_zero]
   | _=>simp[dJ,AV.eD]at hx ⊢
  refine⟨ih.nd,by rw[hB];exact ih.len,by simp[ih.vl],by rw[hB];exact ih.bx,by rw[hG];exact ih.gl,by rw[hG];exact ih.fY,ih.i7,λn m F ι h hF hι hh hg k u hk=>?_⟩;rw[hS]
  cases k with
  | zero=>simp at hk;subst hk;exact hv.lift hF hx
  | succ k=>exact ih.val n m F ι h hF hι (by rw[hB]at hh;exact hh) hg k u (by simpa using hk)
 | box b e bm cs vs xs lb gb hb hd hc hn hng hr ih =>
  refine⟨List.nodup_cons.2 ⟨hn,ih.nd⟩,by simp[cK,ih.len],by simp[ih.vl],λi b' cs' hi dI=>?_,ih.gl,λj x hj=>?_,ih.i7,λn m F ι h hF hι hh hg k u hk=>?_⟩
  ·cases i with
   | zero=>simp[cK]at hi dI;subst hi;subst dI;exact⟨hc,e,bm,hb,hd⟩
   | succ i=>exact ih.bx i b' cs' (by simpa using hi) (by simpa[cK]using dI)
  ·obtain⟨g1,g2,g3,g4⟩:=ih.fY j x hj;refine⟨g1,g2,g3,λb' mE=>?_⟩;simp only[List.mem_cons,not_or];refine⟨λe=>?_,g4 b' mE⟩;subst e;exact hng ⟨x,List.mem_of_getElem? hj,mE⟩
  ·cases k with
   | zero =>
    simp at hk;subst hk;have g1:=hι 0 b rfl;have g2:=hh 0 cs rfl;simp only[Nat.add_zero]at g1 g2;have:VR w F ι h (.pointer (some ⟨b,ι.o n+0*(h n).sz+0,none⟩)) (.p n 0 0):=.p n 0 0 b g1.1 (by rw[g2];simp) (by rw[g2];simp);simpa[dJ,g1.2]using this
   | succ k =>
    simp only[dJ];exact ih.val (n+1) m F ι h hF (λi b hi=>by have:=hι (i+1) b (by simpa using hi);rwa [show n+(i+1)=n+1+i by omega]at this) (λi cs hi=>by have:=hh (i+1) cs (by simpa[cK]using hi);rwa [show n+(i+1)=n+1+i by omega]at this) hg k u (by simpa using hk)
 | own v x e sz mm es vs xs lb gb hv hn hr ih =>
  refine⟨ih.nd,ih.len,by simp[ih.vl],ih.bx,by simp[dB,ih.gl],λj y hj=>?_,λi j b y z hi hj h1 h2=>?_,λn m F ι h hF hι hh hg k u hk=>?_⟩
  ·cases j with
   | zero=>simp at hj;subst hj;exact⟨by rw[hv.hB];rfl,⟨e,sz,mm,es,hv.hB,hv.df⟩,hv.br,λb hb=>(hn b hb).1⟩
   | succ j=>exact ih.fY j y (by simpa using hj)
  ·cases i with
   | zero =>
    simp at hi;subst hi
    cases j with
    | zero=>rfl
    | succ j=>simp at hj;exact absurd ⟨z,List.mem_of_getElem? hj,h2⟩ (hn b h1).2
   | succ i =>
    cases j with
    | zero=>simp at hj;subst hj;simp at hi;exact absurd ⟨y,List.mem_of_getElem? hi,h1⟩ (hn b h2).2
    | succ j=>simp at hi hj;rw[ih.i7 i j b y z hi hj h1 h2]
  ·cases k with
   | zero =>
    simp at hk;subst hk;obtain⟨g1,g2,g3⟩:=hg 0 _ rfl;simp only[Nat.add_zero]at g1 g2 g3;have:=hv.lift (F':=F) g1 g2 g3;simpa[dJ]using this
   | succ k =>
    simp only[dJ];exact ih.val n (m+1) F ι h hF hι hh (λj y hj=>by have:=hg (j+1) y (by simpa using hj);rwa [show m+(j+1)=m+1+j by omega]at this) k u (by simpa using hk)
 | agg arr cs vs xs lb g1 gb hc om h1 hn hr qE ih =>
  obtain⟨c1,c2,c3⟩:=Rq om;have i9:g1.length=(Z1 cs).length:=by rw[<- c2];exact qE.gl
  refine⟨ih.nd,ih.len,by simp[ih.vl],ih.bx,by simp[dB,ih.gl,i9],λj y hj=>?_,λi j b y z hi hj h1 h2=>?_,λn m F ι h hF hι hh hg k u hk=>?_⟩
  ·rw[List.getElem?_append]at hj;simp only[dB];rw[List.getElem?_append,<- i9]
   split at hj
   ·rename_i aW;obtain⟨k1,k2,k3,_⟩:=qE.fY j y hj;rw[c2]at k1;rw[if_pos aW];exact⟨k1,k2,k3,λb hb=>(hn b ⟨y,List.mem_of_getElem? hj,hb⟩).1⟩
   ·rename_i aW;rw[if_neg aW];exact ih.fY _ y hj
  ·rw[List.getElem?_append]at hi hj
   split at hi <;> split at hj
   ·exact qE.i7 i j b y z hi hj h1 h2
   ·exact absurd ⟨z,List.mem_of_getElem? hj,h2⟩ (hn b ⟨y,List.mem_of_getElem? hi,h1⟩).2
   ·exact absurd ⟨y,List.mem_of_getElem? hi,h1⟩ (hn b ⟨z,List.mem_of_getElem? hj,h2⟩).2
   ·have:=ih.i7 _ _ b y z hi hj h1 h2;omega
  ·cases k with
   | zero =>
    simp at hk;subst hk;simp only[dJ,List.getElem?_cons_zero,Option.getD_some];refine .a arr _ (by rw[QTE];simpa using qE.vl) (λk v hk=>h1 v (List.mem_of_getElem? (by simpa using hk))) (λk v x hk hx=>?_);have:=qE.val 0 m F ι h hF (by simp) (by rw[c3];simp) (λj y hj=>hg j y (by rw[List.getElem?_append_left (List.getElem?_eq_some_iff.1 hj).1];exact hj)) k v (by simpa using hk);rw[c1,hx]at this;exact this
   | succ k =>
    simp only[dJ];refine ih.val n (m+(Z1 cs).length) F ι h hF hι hh (λj y hj=>?_) k u (by simpa using hk);have:=hg (g1.length+j) y (by rw[List.getElem?_append_right (by omega),show g1.length+j-g1.length=j by omega];exact hj);rwa [i9,show m+((Z1 cs).length+j)=m+(Z1 cs).length+j by omega]at this
def Y5(P:Program)(w:World)(F0:Nat->Prop)(lb:List Nat)(gb:List Hd)(N:Nat):Ctx :=
 { P:=P,w0:=w,F0:=F0,X:=λb=>b∈lb\/ZQ gb b,L:=λi=>lb[i]?,N:=N,G:=ZQ gb,O:=λi=>if i<lb.length then none else gb[i-lb.length]?,GX:=λ_ h=>.inr h }
def gk:List Hd->Nat->Nat->Option (Nat × cD)
 | [],_,_=>none
 | x::r,k,b=>match x.K b with
  | some p=>some (k,p)
  | none=>gk r (k+1) b
theorem Fa:∀ {gb:List Hd} {k b i:Nat} {p:cD},gk gb k b=some (i,p)->∃ j x,i=k+j/\gb[j]? = some x/\x.K b=some p
 | [],k,b,i,p,h=>by simp[gk]at h
 | x::r,k,b,i,p,h=>by
  simp only[gk]at h
  split at h
  ·rename_i p' hp;cases h;exact⟨0,x,rfl,rfl,hp⟩
  ·obtain⟨j,y,h1,h2,h3⟩:=Fa h;exact⟨j+1,y,by omega,by simpa using h2,h3⟩
theorem Rs:∀ {gb:List Hd} {k b:Nat},(∀ x,x∈gb->x.K b=none)->gk gb k b=none
 | [],_,_,_=>rfl
 | x::r,k,b,h=>by
  simp only[gk];rw[h x (by simp)];exact Rs λy hy=>h y (by simp[hy])
theorem QXr{gb:List Hd}(pO:∀(i j b:Nat)(x y:Hd),gb[i]? = some x->gb[j]? = some y->x.has b->y.has b->i=j){k b j:Nat}{x:Hd}{p:cD}(hj:gb[j]? = some x)(hp:x.K b=some p):gk gb k b=some (k+j,p):=by
 cases hx:gk gb k b with
 | none =>
  have:∀(gb:List Hd)(k:Nat),gk gb k b=none->∀ y,y∈gb->y.K b=none:=by
   intro gb
   induction gb with
   | nil=>intro k _ y hy;cases hy
   | cons z r ih =>
    intro k h y hy;simp only[gk]at h
    split at h
    ·cases h
    ·rename_i hz
     rcases List.mem_cons.1 hy with rfl | hy
     ·exact hz
     ·exact ih (k+1) h y hy
  rw[this gb k hx x (List.mem_of_getElem? hj)]at hp
  cases hp
 | some z =>
  obtain⟨i,q⟩:=z;obtain⟨j',y,h1,h2,h3⟩:=Fa hx;have:=pO j' j b y x h2 hj (.inr ⟨q,h3⟩) (.inr ⟨p,hp⟩);subst this;rw[hj]at h2
  cases h2;rw[hp]at h3
  cases h3;rw[h1]
def ιs(lb:List Nat)(gb:List Hd):Io:=⟨λi=>if i<lb.length then lb[i]? else(gb[i-lb.length]?).bind (·.o),gk gb lb.length,λi=>if i<lb.length then 0 else((gb[i-lb.length]?).map (·.base)).getD 0⟩
theorem ιs_lt{lb:List Nat}{gb:List Hd}{i b:Nat}(h:lb[i]? = some b):ιs lb gb i=some b/\(ιs lb gb).o i=0:=by
 have:=(List.getElem?_eq_some_iff.1 h).1;exact⟨by show(if _ then _ else _)=_;rw[if_pos this];exact h,by show(if _ then _ else _)=_;rw[if_pos this]⟩
theorem ιs_ge{lb:List Nat}{gb:List Hd}{j:Nat}{x:Hd}(h:gb[j]? = some x):ιs lb gb (lb.length+j)=x.o/\(ιs lb gb).o (lb.length+j)=x.base:=by
 constructor
 ·show(if _ then _ else _)=_;rw[if_neg (by omega),show lb.length+j-lb.length=j by omega,h];rfl
 ·show(if _ then _ else _)=_;rw[if_neg (by omega),show lb.length+j-lb.length=j by omega,h];rfl
theorem ιs_cases{lb:List Nat}{gb:List Hd}{i b:Nat}(h:ιs lb gb i=some b):lb[i]? = some b\/lb.length<=i/\∃ x,gb[i-lb.length]? = some x/\x.o=some b:=by
 have h:(if i<lb.length then lb[i]? else(gb[i-lb.length]?).bind (·.o))=some b:=h
 split at h
 ·exact .inl h
 ·refine .inr ⟨by omega,?_⟩
  cases hx:gb[i-lb.length]? with
  | none=>rw[hx]at h;cases h
  | some p=>rw[hx]at h;exact⟨p,rfl,h⟩
theorem QV5{P:Program}{w:World}{F0:Nat->Prop}{vs:Array Value}{xs:List AV}{lb:List Nat}{gb:List Hd}(hA:ew w F0 vs.toList xs lb gb)(hF:∀ b,F0 b->b<w.heap.size/\b∉lb/\¬ ZQ gb b){N:Nat}(hN:xs.length<=N) :
  eZ (Y5 P w F0 lb gb N) (Jp xs) { tmps:=vs++Array.replicate (N-vs.size) undef,defers:=[] } w:=by
 have L:=Rr hA;have h2:=L.len;have h3:=L.vl;have i9:=L.gl;have hh:∀(i:Nat)(cs:List AV),(cK xs)[i]? = some cs->(Jp xs).h i = .box cs:=λi cs hi=>by simp[Jp,hi]
 have hk:∀(j:Nat)(B:aR),(dB xs)[j]? = some B->(Jp xs).h (lb.length+j)=B:=λj B hj=>by
  simp only[Jp];rw[List.getElem?_eq_none (by omega),<- h2,show lb.length+j-lb.length=j by omega,hj];rfl
 have da:∀ i,(cK xs).length+(dB xs).length<=i->(Jp xs).h i = .none/\ιs lb gb i=none:=λi hi=>by
  constructor
  ·simp only[Jp];rw[List.getElem?_eq_none (by omega),List.getElem?_eq_none (by omega)];rfl
  ·show(if _ then _ else _)=_;rw[if_neg (by omega),List.getElem?_eq_none (by omega)];rfl
 have hex:∀(i b:Nat),lb[i]? = some b->∃ cs,(cK xs)[i]? = some cs:=λi b hi=>by
  have:i<lb.length:=(List.getElem?_eq_some_iff.1 hi).1;exact⟨(cK xs)[i]'(by omega),List.getElem?_eq_getElem (by omega)⟩
 have v9:∀ b,b∈lb->¬ ZQ gb b:=λb hb ⟨x,hm,hx⟩=>by
  obtain⟨j,hj⟩:=List.getElem?_of_mem hm;exact(L.fY j _ hj).2.2.2 b hx hb
 have Fb:∀ b,ZQ gb b->b<w.heap.size:=λb ⟨x,hm,hx⟩=>by
  obtain⟨j,hj⟩:=List.getElem?_of_mem hm;obtain⟨_,⟨e,sz,m,es,hB,hl⟩,tu,_⟩:=L.fY j _ hj
  rcases hx with hx | ⟨p,hx⟩
  ·rw[hB]at tu
   cases tu with
   | slnil _ _ _ _ hi=>exact absurd (hi.symm.trans hx) (by simp)
   | sl bk _ _ _ _ _ cur hz hi hb =>
    have:some bk=some b:=hi.symm.trans hx
    cases this;exact(Array.getElem?_eq_some_iff.1 hb).1
  ·exact(hl b p hx).2.1
 have wa:∀ b,¬ ZQ gb b->(ιs lb gb).k b=none:=λb hb=>Rs λx hx=>by
  cases hk:x.K b with
  | none=>rfl
  | some p=>exact absurd ⟨x,hx,.inr ⟨p,hk⟩⟩ hb
 have j2:∀ b,F0 b->Fz (Y5 P w F0 lb gb N) w (ιs lb gb) (Jp xs).h b:=λb hb=>⟨(hF b hb).1,.inl hb,λid a9=>by
  rcases ιs_cases a9 with h | ⟨_,x,h,hx⟩
  ·exact absurd (List.mem_of_getElem? h) (hF b hb).2.1
  ·exact absurd ⟨x,List.mem_of_getElem? h,.inl hx⟩ (hF b hb).2.2,wa b (hF b hb).2.2⟩
 have wb:∀ id,id<lb.length\/(∃ j x,id=lb.length+j/\gb[j]? = some x)\/(cK xs).length+(dB xs).length<=id:=λid=>by
  by_cases h:id<lb.length
  ·exact .inl h
  ·by_cases h':id<lb.length+gb.length
   ·exact .inr (.inl ⟨id-lb.length,gb[id-lb.length],by omega,List.getElem?_eq_getElem (by omega)⟩)
   ·exact .inr (.inr (by omega))
 refine⟨ιs lb gb,⟨rfl,rfl,rfl,Nat.le_refl _,λ_ _ _=>rfl⟩,λs=>?_,?_,rfl,λid=>?_,λi j b hi hj=>?_,λi b hi=>?_,λi hi=>da i hi,λi b hi=>?_,λi b hi=>?_,λi x hi=>?_,λb id p iO=>?_⟩
 ·show VR _ _ _ _ _ (((dJ xs 0 (cK xs).length)[s]?).getD .u)
  rcases Nat.lt_or_ge s vs.size with hs | hs
  ·have:=L.val 0 (cK xs).length (Fz (Y5 P w F0 lb gb N) w (ιs lb gb) (Jp xs).h) (ιs lb gb) (Jp xs).h j2 (λi b hi=>by rw[Nat.zero_add];exact ιs_lt hi) (λi cs hi=>by simpa using hh i cs hi)
    (λj x hj=>by rw[<- h2];exact⟨(ιs_ge hj).1,(ιs_ge hj).2,hk j _ (L.fY j x hj).1⟩) s vs[s] (by simp[hs])
   rw[show(vs++Array.replicate (N-vs.size) undef).getD s undef=vs[s] by simp[Array.getD_eq_getD_getElem?,Array.getElem?_append,hs]];exact this
  ·rw[List.getElem?_eq_none (by rw[QRA];simp at h3;omega)];exact .u _
 ·simp[Y5]at h3 ⊢;omega
 ·rcases wb id with aW | ⟨j,x,rfl,hj⟩ | iL
  ·have hx:(cK xs)[id]? = some ((cK xs)[id]'(by omega)):=List.getElem?_eq_getElem (by omega);rw[hh id _ hx];obtain⟨hc,e,bm,hb,hd⟩:=L.bx id lb[id] _ (by simp) hx;refine .box lb[id] e bm _ (ιs_lt (by simp)).1 (ιs_lt (b:=lb[id]) (by simp)).2 hb hd.size hd.one (λk v x hk iU=>(hd.vr k v x hk iU).lift j2 ?_);have:=List.all_eq_true.1 hc x (List.mem_of_getElem? iU)
   cases x <;> simp_all [mj,AV.eD]
  ·obtain⟨g1,⟨e,sz,m,es,hB,hl⟩,g3,_⟩:=L.fY j x hj;rw[hk j _ g1];obtain⟨hι,hιo⟩:=ιs_ge (lb:=lb) hj;rw[hB]at g3 ⊢
   cases g3 with
   | slnil _ _ _ hz hi=>exact .slnil e sz m hz (hι.trans hi)
   | sl bk _ e0 _ _ _ cur hz hi hb eN hle cW bV hv =>
    refine .sl bk e e0 sz m es cur hz (hι.trans hi) hb (by rw[hιo];exact eN) (by rw[hιo];exact hle) cW bV (λi j' el d hx hd=>?_);obtain⟨v,k1,k2⟩:=hv i j' el d hx hd;refine⟨v,by rw[hιo];exact k1,?_⟩
    cases m with
    | dp g t H =>
     refine⟨k2.1,λdr=>(k2.2 dr).map _ λb q iO=>⟨?_,rfl⟩⟩;have iO:(x.K b).map (λp=>((0:Nat),p))=some (0,[(i,j')]++q):=iO;obtain⟨p,hp,hpe⟩:=Option.map_eq_some_iff.1 iO
     cases hpe;exact QXr L.i7 hj hp
    | _=>exact Rd.mono (λb hb=>⟨j2 b hb,rfl⟩) k2
  ·rw[(da id iL).1];exact .none
 ·rcases ιs_cases hi with h1 | ⟨h1,x,fO,hx⟩
  ·rcases ιs_cases hj with h2 | ⟨h2,y,kA,hy⟩
   ·exact(List.getElem?_inj (List.getElem?_eq_some_iff.1 h1).1 L.nd).1 (h1.trans h2.symm)
   ·exact absurd ⟨y,List.mem_of_getElem? kA,.inl hy⟩ (v9 b (List.mem_of_getElem? h1))
  ·rcases ιs_cases hj with h2 | ⟨h2,y,kA,hy⟩
   ·exact absurd ⟨x,List.mem_of_getElem? fO,.inl hx⟩ (v9 b (List.mem_of_getElem? h2))
   ·have:=L.i7 _ _ b x y fO kA (.inl hx) (.inl hy);omega
 ·rcases ιs_cases hi with h1 | ⟨h1,x,fO,hx⟩
  ·obtain⟨cs,dI⟩:=hex i b h1;obtain⟨_,e,bm,hb,_⟩:=L.bx i b cs h1 dI;exact⟨.inr ⟨.inl (List.mem_of_getElem? h1),cs,hh i cs dI⟩,(Array.getElem?_eq_some_iff.1 hb).1⟩
  ·have hg:ZQ gb b:=⟨x,List.mem_of_getElem? fO,.inl hx⟩
   exact⟨.inl (.inr hg),Fb b hg⟩
 ·rcases ιs_cases hi with h1 | ⟨h1,x,fO,hx⟩
  ·obtain⟨cs,dI⟩:=hex i b h1;rw[hh i cs dI];simp
  ·obtain⟨g1,⟨e,sz,m,es,hB,_⟩,_⟩:=L.fY _ _ fO;have:=hk _ _ g1;rw[show lb.length+(i-lb.length)=i by omega]at this;rw[this,hB];simp
 ·obtain⟨cs,dI⟩:=hex i b hi;exact⟨(ιs_lt hi).1,⟨cs,hh i cs dI⟩,rfl⟩
 ·simp only[Y5]at hi
  split at hi
  ·cases hi
  ·obtain⟨g1,⟨e,sz,m,es,hB,_⟩,_⟩:=L.fY _ _ hi;have h5:=hk _ _ g1;obtain⟨h6,h7⟩:=ιs_ge (lb:=lb) hi;rw[show lb.length+(i-lb.length)=i by omega]at h5 h6 h7;exact .inr ⟨h6,h7,by rw[h5,hB];exact⟨rfl,rfl,rfl,λh=>h,λh=>h⟩,λ_ _=>rfl⟩
 ·obtain⟨j,x,rfl,hj,hp⟩:=Fa iO;obtain⟨g1,⟨e,sz,m,es,hB,hl⟩,g3,g4⟩:=L.fY j x hj;obtain⟨q1,q2,q3,g,t,H,rfl⟩:=hl b p hp;refine⟨q1,⟨e,sz,g,t,H,es,by rw[hk j _ g1,hB]⟩,.inr ⟨x,List.mem_of_getElem? hj,.inr ⟨p,hp⟩⟩,q2,λi hi=>?_⟩
  rcases ιs_cases hi with h1 | ⟨h1,y,fO,hy⟩
  ·exact g4 b (.inr ⟨p,hp⟩) (List.mem_of_getElem? h1)
  ·have:=L.i7 _ _ b y x fO hj (.inl hy) (.inr ⟨p,hp⟩);rw[this,hj]at fO
   cases fO;exact q3 hy
theorem QIx{x:aR}{ids:List Nat}(h:x≠.none/\x≠.dead):x.rn ids≠.none/\x.rn ids≠.dead:=by
 cases x <;> simp_all [aR.rn]
theorem QIS{P:Program}{w:World}{F0:Nat->Prop}{lb:List Nat}{gb:List Hd}{N n m:Nat}(hn:n=lb.length)(hm:m=gb.length){U:Nat->Prop}{σ:St}{a:Act}{w':World}{ι:Io}
  (S:Sat (Y5 P w F0 lb gb N) U σ a w' ι) {ids:List Nat} (dU:ids.Nodup) (hP:∀ id,id∈ids->n+m<=id) {x:AV} {r:ie} (hr:zC n m ids σ x=some r) {v:Value}
  (hv:VR w' (Fz (Y5 P w F0 lb gb N) w' ι σ.h) ι σ.h v x) :
  ∃ ι',ix w F0 lb gb r v w' ι':=by
 unfold zC at hr
 split at hr
 rotate_left
 ·cases hr
 rename_i cC gs qF oB;have hr:=(Option.some.inj hr).symm;subst hr;obtain⟨hl,jT⟩:=Rn qF;obtain⟨i9,vC⟩:=E8 oB;have qG:gs.length=m:=i9;obtain⟨R,hR⟩:∃ R:ie,R=⟨x.rn ids,ids.map λid=>(σ.h id).rn ids,cC,true,gs⟩:=⟨_,rfl⟩
 rw[<- hR];have qH:R.hb.length=ids.length:=by rw[hR];simp
 obtain⟨π,hπ⟩:∃ π:Nat->Option Nat,π=λi=>if i<ids.length then ids[i]? else if i<ids.length+m then some (n+(i-ids.length)) else none:=⟨_,rfl⟩
 obtain⟨ι',hι'⟩:∃ ι':Io,ι'=⟨λi=>(π i).bind ι,λb=>match ι.k b with
   | some (y,p)=>if y∈ids then some (ids.idxOf y,p) else if n<=y/\y<n+m then some (ids.length+(y-n),p) else none
   | none=>none,λi=>((π i).map ι.o).getD 0⟩:=⟨_,rfl⟩
 have hπ1:∀ i id,ids[i]? = some id->π i=some id:=λi id hi=>by rw[hπ];simp only;rw[if_pos (List.getElem?_eq_some_iff.1 hi).1];exact hi
 have hπ2:∀ k,k<m->π (ids.length+k)=some (n+k):=λk hk=>by rw[hπ];simp only;rw[if_neg (by omega),if_pos (by omega),show ids.length+k-ids.length=k by omega]
 have hπc:∀ i y,π i=some y->(ids[i]? = some y)\/(∃ k,i=ids.length+k/\k<m/\y=n+k):=λi y hy=>by
  rw[hπ]at hy;simp only at hy
  split at hy
  ·exact .inl hy
  ·split at hy
   ·cases hy;exact .inr ⟨i-ids.length,by omega,by omega,rfl⟩
   ·cases hy
 have hιb:∀ i y,π i=some y->ι' i=ι y/\ι'.o i=ι.o y:=λi y hy=>by rw[hι'];simp[hy]
 have hιs:∀ i b,ι' i=some b->∃ y,π i=some y/\ι y=some b:=λi b hi=>by
  rw[hι']at hi;simp only at hi
  cases hx:π i with
  | none=>rw[hx]at hi;cases hi
  | some y=>rw[hx]at hi;exact⟨y,rfl,hi⟩
 have hπinj:∀ i j y,π i=some y->π j=some y->i=j:=λi j y hi hj=>by
  rcases hπc i y hi with h1 | ⟨k,rfl,h1,rfl⟩ <;> rcases hπc j _ hj with h2 | ⟨k',rfl,h2,h3⟩
  ·exact(List.getElem?_inj (List.getElem?_eq_some_iff.1 h1).1 dU).1 (h1.trans h2.symm)
  ·have:=hP y (List.mem_of_getElem? h1);omega
  ·have:=hP _ (List.mem_of_getElem? h2);omega
  ·omega
 have fj:∀ b i p,ι'.k b=some (i,p)↔∃ y,π i=some y/\ι.k b=some (y,p):=by
  intro b i p;rw[hι'];simp only;constructor
  ·intro h
   split at h
   rotate_left
   ·cases h
   rename_i y q hy
   split at h
   ·rename_i te
    cases h;exact⟨y,hπ1 _ _ (YG te),hy⟩
   ·split at h
    ·rename_i h1 h2
     cases h;exact⟨y,by rw[hπ2 _ (by omega)];congr 1;omega,hy⟩
    ·cases h
  ·rintro⟨y,hy,hk⟩
   simp only[hk]
   rcases hπc i y hy with h1 | ⟨k,rfl,h1,rfl⟩
   ·have dE:=List.mem_of_getElem? h1;rw[if_pos dE];have:ids.idxOf y=i:=(List.getElem?_inj (List.idxOf_lt_length_of_mem dE) dU).1 ((YG dE).trans h1.symm);rw[this]
   ·rw[if_neg (λdE=>by have:=hP _ dE;omega),if_pos ⟨by omega,by omega⟩];congr 2
    omega
 have Fc:∀ i id,ids[i]? = some id->R.h i=(σ.h id).rn ids:=λi id hi=>by rw[hR];simp[ie.h,hi]
 have kX:∀ i y,π i=some y->((R.hb++R.gv)[i]?).getD .none=(if i<ids.length then(σ.h y).rn ids else σ.h y):=λi y hy=>by
  rcases hπc i y hy with h1 | ⟨k,rfl,h1,rfl⟩
  ·have aW:=(List.getElem?_eq_some_iff.1 h1).1;rw[if_pos aW,List.getElem?_append_left (by rw[qH];exact aW)];exact Fc i y h1
  ·rw[if_neg (by omega),List.getElem?_append_right (by rw[qH];omega),qH,show ids.length+k-ids.length=k by omega,hR];simp only;have:k<gs.length:=by omega
   rw[List.getElem?_eq_getElem this];simp only[Option.getD_some];exact((vC k _ (List.getElem?_eq_getElem this)).1).symm
 have Fe:∀ i y,π i=some y->(((R.hb++R.gv)[i]?).getD .none).own=(σ.h y).own:=λi y hy=>by
  rw[kX i y hy]
  split
  ·cases σ.h y <;> rfl
  ·rfl
 have hgh:∀(k:Nat)(y:Hd)(B:aR),gb[k]? = some y->gs[k]? = some B->σ.h (n+k)=B/\(B = .dead\/(ι (n+k)=y.o/\ι.o (n+k)=y.base/\Yk y.B B/\∀ b,y.o=some b->w'.shape? b=w.shape? b)):=λk y B hk hB=>by
  obtain⟨h1,_⟩:=vC k B hB;refine⟨h1,?_⟩;have:=S.hand (n+k) y (by simp only[Y5];rw[if_neg (by omega),show n+k-lb.length=k by omega];exact hk);rw[h1]at this;exact this
 have j2:∀ b,Fz (Y5 P w F0 lb gb N) w' ι σ.h b->ml w w' F0 gb R ι' b:=by
  intro b ⟨g1,g2,g3,g4⟩;refine⟨g1,g2.imp (λh=>⟨by rw[hR],h⟩) (λh=>h),λi hi=>?_,?_⟩
  ·obtain⟨y,h1,h2⟩:=hιs i b hi;rw[Fe i y h1];exact g3 y h2
  ·rw[hι'];simp only[g4]
 have cQ:∀(k b:Nat),lb[k]? = some b->w'.shape? b=w.shape? b:=λk b hk=>(S.b8 k b hk).2.2;have j6:∀(k b:Nat),lb[k]? = some b->ι k=some b:=λk b hk=>(S.b8 k b hk).1;have wc:∀ i y,π i=some y->∀ k p,ι.k k=some (y,p)->ι'.k k=some (i,p):=λi y hy k p hk=>(fj k i p).2 ⟨y,hy,hk⟩;have tv:∀ i id,ids[i]? = some id->R.h i=(σ.h id).rn ids/\ι' i=ι id/\ι'.o i=ι.o id:=λi id hi=>⟨Fc i id hi,hιb i id (hπ1 i id hi)⟩
 refine⟨ι',S.dD.os,S.dD.tape,S.dD.output,S.dD.size,λk hk h1 h2=>S.dD.block k hk (λh=>h.elim h1 h2),by rw[show R.v=x.rn ids by rw[hR]];exact hv.rn j2 tv,λi hi=>?_,λi j b hi hj=>?_,λi b hi=>?_,λi b hi=>?_,λb i p hk=>?_,by rw[hR];exact hl.trans hn,λk b cs hk dI=>?_,by rw[hR];exact i9.trans hm,λk y B hk hB=>?_⟩
 ·have hx:ids[i]? = some ids[i]:=List.getElem?_eq_getElem (by omega);rw[Fc i _ hx];exact(S.fh ids[i]).rn j2 tv hx (wc i _ (hπ1 i _ hx))
 ·obtain⟨y,h1,h2⟩:=hιs i b hi;obtain⟨z,h3,h4⟩:=hιs j b hj;have:=S.inj y z b h2 h4;subst this;exact hπinj i j y h1 h3
 ·obtain⟨y,h1,h2⟩:=hιs i b hi;obtain⟨h3,h4⟩:=S.eg y b h2;have hyn:n<=y:=by
   rcases hπc i y h1 with h5 | ⟨k,rfl,h5,rfl⟩
   ·have:=hP y (List.mem_of_getElem? h5);omega
   ·omega
  refine⟨?_,h4,?_⟩
  ·rcases h3 with(h3 | h3) | ⟨h3,_⟩
   ·exact .inl h3
   ·exact .inr h3
   ·rcases h3 with h3 | h3
    ·exfalso;obtain⟨k,hk⟩:=List.getElem?_of_mem h3;have:=S.inj y k b h2 (j6 k b hk);subst this;have:=(List.getElem?_eq_some_iff.1 hk).1;omega
    ·exact .inr h3
  ·rw[qH,show R.gv=gs by rw[hR],qG]
   rcases hπc i y h1 with h5 | ⟨k,rfl,h5,rfl⟩
   ·have:=(List.getElem?_eq_some_iff.1 h5).1;omega
   ·omega
 ·obtain⟨y,h1,h2⟩:=hιs i b hi;rw[kX i y h1];have:=S.live y b h2
  split
  ·exact QIx this
  ·exact this
 ·obtain⟨y,h1,h2⟩:=(fj b i p).1 hk;have L:=S.df b y p h2;obtain⟨e,sz,g,t,H,es,iW⟩:=L.dp;refine⟨L.pn,⟨e,sz,g,t,H,es,?_⟩,L.fr,L.lt,λj hj=>?_⟩
  ·have:=kX i y h1;rw[iW]at this;have hs:(if i<ids.length then(aR.sl e sz (.dp g t H) es).rn ids else aR.sl e sz (.dp g t H) es) = .sl e sz (.dp g t H) es:=by split <;> rfl
   rw[hs]at this
   cases hx:(R.hb++R.gv)[i]? with
   | none=>rw[hx]at this;cases this
   | some B=>rw[hx]at this;simp only[Option.getD_some]at this;rw[this]
  ·obtain⟨z,_,h4⟩:=hιs j b hj;exact L.ne z h4
 ·have dI:cC[k]? = some cs:=by rw[hR]at dI;exact dI
  obtain⟨h1,h2⟩:=jT k cs dI;simp only[Nat.zero_add]at h1;refine⟨h2,cQ k b hk,?_⟩;have hb:=S.fh k;rw[h1]at hb
  cases hb with
  | box b' e bm _ hi _ hb hl h3 dR =>
   rw[j6 k b hk]at hi
   cases hi;refine⟨e,bm,hb,hl,h3,λj v y hj hy=>?_⟩;have h4:=List.all_eq_true.1 h2 y (List.mem_of_getElem? hy)
   cases y with
   | c d=>exact(dR j v _ hj hy).data j2
   | _=>simp[mj]at h4
 ·have hB:gs[k]? = some B:=by rw[hR]at hB;exact hB
  have jU:k<m:=by rw[<- qG];exact(List.getElem?_eq_some_iff.1 hB).1
  obtain⟨h1,h2 | ⟨h2,kA,h3,h4⟩⟩:=hgh k y B hk hB
  ·exact .inl h2
  ·refine .inr ⟨h3,?_,?_,?_,h4⟩
   ·rw[qH,(hιb _ _ (hπ2 k jU)).1];exact h2
   ·rw[qH,(hιb _ _ (hπ2 k jU)).2];exact kA
   ·have hb:=S.fh (n+k);rw[h1]at hb;rw[qH];obtain⟨q1,q2⟩:=hιb _ _ (hπ2 k jU)
    rcases(vC k B hB).2 with rfl | ⟨e,sz,mm,es,rfl⟩
    ·exact .dead
    ·cases hb with
     | slnil _ _ _ hz hi=>exact .slnil e sz mm hz (q1.trans hi)
     | sl bk _ e0 _ _ _ cur hz hi hb eN hle cW bV hv =>
      refine .sl bk e e0 sz mm es cur hz (q1.trans hi) hb (by rw[q2];exact eN) (by rw[q2];exact hle) cW bV (λi j el d hx hd=>?_);obtain⟨u,k1,k2⟩:=hv i j el d hx hd;refine⟨u,by rw[q2];exact k1,?_⟩
      cases mm with
      | dp g t H=>exact⟨k2.1,λdr=>(k2.2 dr).map _ λb q iO=>⟨wc _ _ (hπ2 k jU) b _ iO,rfl⟩⟩
      | _=>exact Rd.mono (λb hb=>⟨j2 b hb,rfl⟩) k2
end Go.Proofs.YtdplaepmjogjjaaGreat.Am
namespace Go.Proofs.YtdplaepmjogjjaaGreat.Am
open Go Go.RowKit
def one(f:FuncId)(dec:List AV->Option ie):ez:=⟨λ_=>[],λg xs=>if g=f then dec xs else none,false⟩
theorem ok_one{P:Program}{f:FuncId}{dec:List AV->Option ie}(h:∀ args r,dec args=some r->qi P f args r):JS P (one f dec):=λg args r hr=>by
 simp only[one]at hr
 split at hr
 ·rename_i hg;subst hg;exact h args r hr
 ·cases hr
theorem qi.plain{P:Program}{f:FuncId}{args:List AV}{x:Value}(h:qi P f args ⟨.c (.v x),[],[],true,[]⟩):qi P f args ⟨.c (.v x),[],[],false,[]⟩:=by
 intro w F0 vs lb gb hA hF;refine(h w F0 vs lb gb hA hF).mono ?_;rintro e w' ⟨v,ι,rfl,Q⟩
 refine⟨v,ι,rfl,?_⟩;have Ff:lb=[]:=List.eq_nil_of_length_eq_zero Q.EB.symm;subst Ff;have hgb:gb=[]:=List.eq_nil_of_length_eq_zero Q.EC.symm;subst hgb;have hv:=Q.val;have iy:VR w' (ml w w' F0 [] ⟨.c (.v x),[],[],false,[]⟩ ι) ι (ie.h ⟨.c (.v x),[],[],false,[]⟩) v (.c (.v x)):=by
  cases hv with
  | c v d hr=>cases hr with
   | v x h1=>exact .c _ _ (.v _ h1)
 exact⟨Q.os,Q.tape,Q.output,Q.size,Q.block,iy,λi hi=>absurd hi (Nat.not_lt_zero _),Q.inj,Q.eg,Q.live,Q.df,rfl,by simp,rfl,by simp⟩
def we(P:Program)(f:FuncId):Option (eB × List bn × Nat) :=
 match P.funcs[f]? with
 | some fn=>match fn.body with
  | some c=>match comp P fn.ntmps c,kz P fn.results.toList with
   | some ac,some rs=>some (ac,rs,fn.ntmps)
   | _,_=>none
  | none=>none
 | none=>none
end Go.Proofs.YtdplaepmjogjjaaGreat.Am
namespace Go.Proofs.YtdplaepmjogjjaaGreat.Am
open Go Go.RowKit Go.ChangeShapes Go.WideShapes Go.ChangeAt
theorem QK4{H:Type}{enc:TypeId × Value->H}{P:Program}{f:Func}{s:ChangeSpec}{apart fresh handsOn again:Bool}{W W':World}{args:Array Value}{v:Value}{ds gs:List (DataW H)}{before pa pv:List MemPlace}
  (hW:DataW.Whole enc P f.params.toList s.vars apart W args.toList ds gs before)
  (wh:∀(b:Nat)(sp:Nat->Bool)(hd:Bool),DataW.TrodAll enc P W' b sp hd f.resultTypes.toList (v.resultList f.resultTypes.size) (s.fn H (ds++gs)).results [])
  (oH:∀ sp:Nat->Bool,(∀ p∈before,sp p.block=true)->DataW.TrodAll enc P W' 0 sp true f.params.toList args.toList (s.fn H (ds++gs)).args pa)
  (ja:∀ sp:Nat->Bool,(∀ p∈before,sp p.block=true)->DataW.TrodVars enc P W' sp s.vars (s.fn H (ds++gs)).vars pv)
  (zf:before=pa++pv) (hB:Below W.heap.size W W')
  (cH:∀(j:Nat)(t:TypeId)(r:Value),f.resultTypes[j]? = some t->(v.resultList f.resultTypes.size)[j]? = some r->Value.okWide P W' .any 0 t r) :
  s.post enc P f apart fresh handsOn again W args v W':=by
 have aW:∀ p∈before,p.block<W.heap.size:=λp hp=>hW.lt p hp;have hold:∀ p∈before,(λb=>decide (b<W.heap.size)) p.block=true:=λp hp=>by simpa using aW p hp
 subst zf;refine⟨ds,gs,pa++pv,[],pa,pv,hW,wh _ _ _,oH _ hold,ja _ hold,hB.frame _,λ_=>?_⟩;obtain⟨_,_,_,_,_,hz,hn⟩:=hW;refine⟨cH,_,_,([]++pa)++pv,⟨[]++pa,pv,trodAll_append (oH _ (λ_ _=>rfl)) (wh _ _ _),ja _ (λ_ _=>rfl),rfl,?_,?_⟩,?_⟩
 ·intro b off hp;have ij:MemPlace.cell b off∈pa++pv:=by simpa using hp
  have h1:=aW _ ij;rw[hB.frozen (by exact h1)];exact hz b off ij
 ·intro ha;simpa using hn ha
 ·intro p hp _;simpa using hp
theorem QMU{P:Program}{f:FuncId}{vs:Array Value}{xs:List AV}{x:Value}{al:Bool}(h:qi P f xs ⟨.c (.v x),[],[],al,[]⟩){w:World}{F0:Nat->Prop}(hA:ew w F0 vs.toList xs [] [])(hF:∀ b,F0 b->b<w.heap.size) :
  Calls P f vs w λe w'=>e = .returned x/\Below w.heap.size w w':=by
 refine(h w F0 vs [] [] hA (λb hb=>⟨hF b hb,by simp,λ⟨_,hm,_⟩=>by simp at hm⟩)).mono ?_;rintro e w' ⟨v,ι,rfl,Q⟩
 have hv:=Q.val.int;subst hv;exact⟨rfl,Q.os,Q.tape,Q.output,Q.size,λk hk=>Q.block k hk (by simp) (λ⟨_,hm,_⟩=>by simp at hm)⟩
end Go.Proofs.YtdplaepmjogjjaaGreat.Am

set_option linter.all false
namespace Go.Proofs.YtdplaepmjogjjaaGreat.Am
open Go Go.RowKit
inductive CT where
 | int (k:IntKind)
 | bool
 | str
 | dF
 | sl (ts:List CT)
def zE(A:Type):List CT->Type->Type
 | [],_=>A
 | _::_,B=>A × B
mutual
@[reducible] def CT.den:CT->Type
 | .int _=>Int
 | .bool=>Bool
 | .str=>ByteArray
 | .dF=>Unit
 | .sl ts=>List (aS ts)
@[reducible] def aS:List CT->Type
 | []=>Unit
 | t::ts=>zE t.den ts (aS ts)
end
def hd{A:Type}:(ts:List CT)->{B:Type}->zE A ts B->A
 | [],_,x=>x
 | _::_,_,x=>x.1
def tl{A:Type}:(ts:List CT)->zE A ts (aS ts)->aS ts
 | [],_=>()
 | _::_,x=>x.2
def lM{A:Type}:(ts:List CT)->A->aS ts->zE A ts (aS ts)
 | [],a,_=>a
 | _::_,a,b=>(a,b)
mutual
def enc:(t:CT)->t.den->D
 | .int k,x=>.v (.int k x)
 | .bool,b=>.v (.bool b)
 | .str,s=>.v (.string s)
 | .dF,_=>.v (.pointer none)
 | .sl ts,l=>.sl ts.length (List.map (aV ts) l)
def aV:(ts:List CT)->aS ts->List D
 | [],_=>[]
 | t::ts,x=>enc t (hd ts x)::aV ts (tl ts x)
end
mutual
def CT.beq:CT->CT->Bool
 | .int k,.int k'=>decide (k=k')
 | .bool,.bool=>true
 | .str,.str=>true
 | .dF,.dF=>true
 | .sl a,.sl b=>CT.dh a b
 | _,_=>false
def CT.dh:List CT->List CT->Bool
 | [],[]=>true
 | x::xs,y::ys=>x.beq y&&CT.dh xs ys
 | _,_=>false
end
mutual
def CT.wi:(t:CT)->t.den
 | .int _=>(0:Int)
 | .bool=>false
 | .str=>⟨#[]⟩
 | .dF=>()
 | .sl ts=>([]:List (aS ts))
def aS.wi:(ts:List CT)->aS ts
 | []=>()
 | t::ts=>lM ts t.wi (aS.wi ts)
end
mutual
theorem CT.beq_eq:∀(a b:CT),a.beq b=true->a=b
 | .int k,.int k',h=>by simp[CT.beq]at h;rw[h]
 | .bool,.bool,_=>rfl
 | .str,.str,_=>rfl
 | .dF,.dF,_=>rfl
 | .sl a,.sl b,h=>by simp only[CT.beq]at h;rw[CT.bS a b h]
 | .int _,.bool,h=>by simp[CT.beq]at h
 | .int _,.str,h=>by simp[CT.beq]at h
 | .int _,.sl _,h=>by simp[CT.beq]at h
 | .bool,.int _,h=>by simp[CT.beq]at h
 | .bool,.str,h=>by simp[CT.beq]at h
 | .bool,.sl _,h=>by simp[CT.beq]at h
 | .str,.int _,h=>by simp[CT.beq]at h
 | .str,.bool,h=>by simp[CT.beq]at h
 | .str,.sl _,h=>by simp[CT.beq]at h
 | .sl _,.int _,h=>by simp[CT.beq]at h
 | .sl _,.bool,h=>by simp[CT.beq]at h
 | .sl _,.str,h=>by simp[CT.beq]at h
 | .int _,.dF,h=>by simp[CT.beq]at h
 | .dF,.int _,h=>by simp[CT.beq]at h
 | .bool,.dF,h=>by simp[CT.beq]at h
 | .dF,.bool,h=>by simp[CT.beq]at h
 | .str,.dF,h=>by simp[CT.beq]at h
 | .dF,.str,h=>by simp[CT.beq]at h
 | .sl _,.dF,h=>by simp[CT.beq]at h
 | .dF,.sl _,h=>by simp[CT.beq]at h
theorem CT.bS:∀(a b:List CT),CT.dh a b=true->a=b
 | [],[],_=>rfl
 | x::xs,y::ys,h=>by simp only[CT.dh,Bool.and_eq_true]at h;rw[CT.beq_eq x y h.1,CT.bS xs ys h.2]
 | [],_::_,h=>by simp[CT.dh]at h
 | _::_,[],h=>by simp[CT.dh]at h
end
inductive TV where
 | u
 | c (t:CT) (x:t.den)
 | n (ts:List CT)
 | r (ts:List CT) (id off len:Nat)
 | p (id i j:Nat)
 | q (ts:List CT) (x:aS ts) (j:Nat)
 | a (cs:List TV)
 | tp (vs:List TV)
 | bx (cs:List TV)
 | ow (e:TypeId) (ts:List CT) (m:Mo) (es:List (aS ts))
 | bs (ts:List CT) (x:List (aS ts)) (id g:Nat) (p:cD)
 | bq (ts:List CT) (x:aS ts) (j id g:Nat) (p:cD) (i:Nat)
 | g (b:Bool) (v:TV)
inductive az where
 | none
 | dead
 | box (cs:List TV)
 | sl (e:TypeId) (ts:List CT) (m:Mo) (es:List (aS ts))
def TV.aQ:TV->AV
 | .c t x=>.c (enc t x)
 | .n ts=>.n ts.length
 | .r ts id off len=>.r ts.length id off len
 | .p id i j=>.p id i j
 | .q ts x j=>.q (aV ts x) j
 | .ow e ts m es=>.ow e ts.length m (es.map (aV ts))
 | .bs ts x id v pt=>.b (.sl ts.length (x.map (aV ts))) id v pt
 | .bq ts x j id v pt i=>.bq (aV ts x) j id v pt i
 | _=>.u
def TV.ck:TV->AV
 | .a cs=>.a (cs.map TV.aQ)
 | x=>x.aQ
def TV.aA:TV->AV
 | .tp vs=>.t (vs.map TV.ck)
 | .bx cs=>.bx (cs.map TV.aQ)
 | .g b v=>bif b then v.aA else .t []
 | x=>x.ck
def az.aA:az->aR
 | .none=>.none
 | .dead=>.dead
 | .box cs=>.box (cs.map TV.aQ)
 | .sl e ts m es=>.sl e ts.length m (es.map (aV ts))
def cG:List (Nat × TV)->Nat->TV
 | [],_=>.u
 | (j,x)::r,i=>bif Nat.beq i j then x else cG r i
def dv:List (Nat × az)->Nat->az
 | [],_=>.none
 | (j,x)::r,i=>bif Nat.beq i j then x else dv r i
structure cq where
 t:List (Nat × TV)
 h:List (Nat × az)
 nx:Nat
def cq.T(σ:cq):Nat->TV:=cG σ.t
def cq.H(σ:cq):Nat->az:=dv σ.h
def cq.aA(σ:cq):St:=⟨λs=>(σ.T s).aA,λi=>(σ.H i).aA,σ.nx⟩
inductive bD where
 | s (i:Nat)
 | k (x:TV)
def bD.ev(T:Nat->TV):bD->TV
 | .s i=>T i
 | .k x=>x
def bD.er:bD->aX
 | .s i=>.s i
 | .k x=>.k x.aA
inductive d6 where
 | eG (x:bD)
 | pick (c x y:bD)
 | bin (op:BinOp) (x y:bD)
 | gE (n:Nat) (neg:Bool) (x y:bD)
 | ic (neg:Bool) (x y:bD)
 | not (x:bD)
 | neg (x:bD)
 | new (e:TypeId) (zs:List TV)
 | box (e:TypeId) (x:bD) (n:Nat)
 | load (x:bD) (n:Nat) (agg:Bool)
 | store (x v:bD) (n:Nat)
 | kl (x:bD) (off:Nat)
 | js (x i:bD) (ts:List CT)
 | kS (x:bD) (off n:Nat) (agg:Bool)
 | build (zs:List TV) (ps:List (Nat × Nat × bD))
 | bW (e:TypeId) (ts:List CT) (ps:List bD)
 | mk (e:TypeId) (ts:List CT) (zs:List TV) (n:bD)
 | fB (x:bD) (lo hi:Option bD) (ts:List CT)
 | len (x:bD)
 | app (s x:bD) (e:TypeId) (ts:List CT)
 | mm (mx:Bool) (x y:bD)
 | call (f:FuncId) (args:List bD)
 | ext (x:bD) (i:Nat)
 | conv (k:IntKind) (x:bD)
 | f9 (x:bD)
def Fg(p:Nat × Nat × bD):Nat × Nat × aX:=(p.1,p.2.1,p.2.2.er)
def oI:Option bD->Option aX
 | some x=>some x.er
 | none=>none
def d6.er:d6->ea
 | .eG x=>.eG x.er
 | .pick c x y=>.pick c.er x.er y.er
 | .bin op x y=>.bin op x.er y.er
 | .gE n g x y=>.gE n g x.er y.er
 | .ic g x y=>.ic g x.er y.er
 | .not x=>.not x.er
 | .neg x=>.neg x.er
 | .new e zs=>.new e (zs.map TV.aQ)
 | .box e x n=>.box e x.er n
 | .load x n agg=>.load x.er n agg
 | .store x v n=>.store x.er v.er n
 | .kl x off=>.kl x.er off
 | .js x i ts=>.js x.er i.er ts.length
 | .kS x off n agg=>.kS x.er off n agg
 | .build zs ps=>.build (zs.map TV.aQ) (ps.map Fg)
 | .bW e ts ps=>.bW e ts.length (ps.map bD.er)
 | .mk e ts zs n=>.mk e ts.length (zs.map TV.aQ) n.er
 | .fB x lo hi ts=>.fB x.er (oI lo) (oI hi) ts.length
 | .len x=>.len x.er
 | .app s x e ts=>.app s.er x.er e ts.length
 | .mm mx x y=>.mm mx x.er y.er
 | .call f args=>.call f (args.map bD.er)
 | .ext x i=>.ext x.er i
 | .conv k x=>.conv k x.er
 | .f9 x=>.f9 x.er
structure TE where
 pre:Option Prop
 val:TV
 fS:List (Nat × az)
def nj:Option Prop->Prop->Prop
 | none,k=>k
 | some p,k=>p/\k
def holds:Option Prop->Prop
 | none=>True
 | some p=>p
inductive Sh where
 | c (t:CT)
 | a (ts:List CT)
 | b (ts:List CT)
 | o (e:TypeId) (ts:List CT)
 | d (ts:List CT)
 | s (ts:List CT)
def Sh.md:Sh->AM
 | .o _ _=>.o
 | .d _=>.p
 | .s _=>.p
 | _=>.d
def gq(sg:List Sh):List AM:=sg.map Sh.md
def CT.flat:CT->Bool
 | .sl _=>false
 | _=>true
abbrev dw:Mo:=.dp 0 false []
def kB:Mo->Bool
 | .dp 0 false []=>true
 | _=>false
def oJ:List TV->Option (List CT)
 | []=>some []
 | .c t _::r=>match oJ r with
  | some ts=>some (t::ts)
  | none=>none
 | _=>none
def JE:List CT->List TV->Bool
 | [],[]=>true
 | t::ts,x::xs=>(match x with
  | .c t' _=>t'.beq t&&t'.flat
  | .ow e' b4 m _=>Nat.beq e' 0&&(CT.sl b4).beq t&&kB m
  | _=>false)&&JE ts xs
 | _,_=>false
def Sh.fits:Sh->TV->Bool
 | .c t,.c t' _=>t'.beq t
 | .a ts,.a cs=>match oJ cs with
  | some b4=>CT.dh b4 ts
  | none=>false
 | .b ts,.bx cs=>match oJ cs with
  | some b4=>CT.dh b4 ts
  | none=>false
 | .o e ts,.ow e' b4 .ow _=>Nat.beq e' e&&CT.dh b4 ts
 | .d ts,.ow e' b4 m _=>Nat.beq e' 0&&CT.dh b4 ts&&kB m
 | .s ts,.a cs=>JE ts cs
 | _,_=>false
def ZW:List Sh->List TV->Bool
 | [],[]=>true
 | s::ss,x::xs=>s.fits x&&ZW ss xs
 | _,_=>false
structure aB where
 v:TV
 hb:List az
 bx:List (List TV)
 al:Bool
 gv:List az
structure aI where
 f:FuncId
 sg:List Sh
 fn:List TV->Option (Option Prop × aB)
structure aF where
 rows:List aI
 dp:Bool:=false
def Jm:List aI->FuncId->Option aI
 | [],_=>none
 | r::rs,f=>bif Nat.beq r.f f then some r else Jm rs f
def tw{ts b4:List CT}(e:CT.dh ts b4=true)(l:List (aS ts)):List (aS b4):=CT.bS ts b4 e ▸ l
def zF{t t':CT}(e:t.beq t'=true)(x:t.den):t'.den:=CT.beq_eq t t' e ▸ x
def az.dn:az->Option Nat
 | .sl _ _ (.dp g _ []) _=>some g
 | _=>Option.none
def az.pR:az->Bool
 | .sl _ _ (.dp _ _ []) _=>true
 | _=>false
def az.nk(b:az)(g:Nat):Bool:=match b.dn with
 | some g'=>Nat.beq g' g
 | Option.none=>false
def TV.eD(h:Nat->az)(t:CT):TV->Option t.den
 | .c t' x=>if e:t'.beq t=true then some (zF e x) else none
 | .n ts=>match t with
  | .sl b4=>bif CT.dh ts b4 then some ([]:List (aS b4)) else none
  | _=>none
 | .r _ id off len=>match t with
  | .sl b4=>match h id with
   | .sl _ ts m es=>bif m.full then(if e:CT.dh ts b4=true then some (((tw e es).drop off).take len) else none) else none
   | _=>none
  | _=>none
 | .bs ts x id v _=>match t with
  | .sl b4=>bif (h id).nk v then(if e:CT.dh ts b4=true then some (tw e x) else none) else none
  | _=>none
 | _=>none
def TV.iE(h:Nat->az):TV->Option TV
 | .c t x=>some (.c t x)
 | .n ts=>some (.c (.sl ts) [])
 | .r _ id off len=>match h id with
  | .sl _ ts m es=>bif m.full then some (.c (.sl ts) ((es.drop off).take len)) else none
  | _=>none
 | .bs ts x id v _=>bif (h id).nk v then some (.c (.sl ts) x) else none
 | _=>none
def TV.kC(h:Nat->az):List TV->Option (List TV)
 | []=>some []
 | x::xs=>match x.iE h,TV.kC h xs with
  | some d,some ds=>some (d::ds)
  | _,_=>none
def aS.cells:(ts:List CT)->aS ts->List TV
 | [],_=>[]
 | t::ts,x=>.c t (hd ts x)::aS.cells ts (tl ts x)
def aS.of(h:Nat->az):(ts:List CT)->List TV->Option (aS ts)
 | [],xs=>match xs with
  | []=>some ()
  | _=>none
 | t::ts,xs=>match xs with
  | x::xs=>match x.eD h t,aS.of h ts xs with
   | some a,some b=>some (lM ts a b)
   | _,_=>none
  | []=>none
def TV.cells:TV->List TV
 | .a cs=>cs
 | x=>[x]
def TV.one:TV->Bool
 | .c _ _ | .n _ | .r .. | .p .. | .q .. | .bs .. | .bq ..=>true
 | _=>false
def TV.st:TV->Bool
 | .a _=>true
 | x=>x.one
def TV.bR:TV->List Nat
 | .r _ id _ _=>[id]
 | .bs _ _ id _ _=>[id]
 | _=>[]
def TV.fD:TV->List Nat
 | .r _ id _ _=>[id]
 | _=>[]
def TV.cR:List TV->List Nat
 | []=>[]
 | x::xs=>x.fD++TV.cR xs
def TV.db:TV->List Nat
 | .a cs=>TV.cR cs
 | .g b v=>bif b then v.db else []
 | x=>x.fD
def TV.bM:List TV->List Nat
 | []=>[]
 | x::xs=>x.bR++TV.bM xs
def TV.refs:TV->List Nat
 | .a cs=>TV.bM cs
 | .g b v=>bif b then v.refs else []
 | x=>x.bR
def TV.b8:TV->List Nat
 | .p id _ _=>[id]
 | .g b v=>bif b then v.b8 else []
 | _=>[]
def Fh:az->az
 | .sl e ts _ es=>.sl e ts .fz es
 | b=>b
def kD(h:Nat->az):List Nat->List (Nat × az)
 | []=>[]
 | id::ids=>(id,Fh (h id))::kD h ids
def qI(agg:Bool)(cs:List TV):Option TV :=
 if agg then some (.a cs) else match cs with
  | [x]=>bif x.one then some x else none
  | _=>none
def az.alive:az->Bool
 | .box _=>true
 | .sl ..=>true
 | _=>false
def tx:List TV->Option (List Int)
 | []=>some []
 | .c (.int .i64) x::r=>match tx r with
  | some l=>some (x::l)
  | none=>none
 | _=>none
def Fi:TV->Option Int
 | .c (.int _) x=>some x
 | _=>none
def qJ(T:Nat->TV)(m:Int):Option bD->Option Int
 | some l=>Fi (l.ev T)
 | none=>some m
def nm(h:Nat->az):TV->Option TV
 | .a cs=>match TV.kC h cs with
  | some ds=>some (.a ds)
  | none=>none
 | .p id 0 0=>match h id with
  | .box cs=>match TV.bM cs with
   | []=>match TV.kC h cs with
    | some ds=>some (.bx ds)
    | none=>none
   | _=>none
  | _=>none
 | x=>x.iE h
def wj(h:Nat->az):List TV->Option (List TV)
 | []=>some []
 | x::xs=>match nm h x,wj h xs with
  | some d,some ds=>some (d::ds)
  | _,_=>none
def gO:Option Prop->Option Prop->Option Prop
 | none,q=>q
 | some p,none=>some p
 | some p,some q=>some (p/\q)
def Fj(h:Nat->az):TV->Option (Option Prop × TV)
 | .r ts id 0 len=>match h id with
  | .sl e b4 .ow es=>bif CT.dh b4 ts then some (some (len=es.length),.ow e b4 .ow es) else none
  | _=>none
 | _=>none
def zG(h:Nat->az):TV->Option (Option Prop × TV)
 | .c t x=>bif t.flat then some (none,.c t x) else none
 | .r ts id 0 len=>match h id with
  | .sl _ b4 (.dp _ _ []) es=>bif CT.dh b4 ts then some (some (len=es.length),.ow 0 b4 dw es) else none
  | _=>none
 | _=>none
def wm(h:Nat->az):List TV->Option (Option Prop × List TV)
 | []=>some (none,[])
 | x::xs=>match zG h x,wm h xs with
  | some (p,d),some (q,ds)=>some (gO p q,d::ds)
  | _,_=>none
def zH(h:Nat->az):TV->Option (Option Prop × TV)
 | .a cs=>match wm h cs with
  | some (p,ds)=>some (p,.a ds)
  | none=>none
 | .r ts id off len=>zG h (.r ts id off len)
 | _=>none
def zI(h:Nat->az):AM->TV->Option (Option Prop × TV)
 | .d,x=>match nm h x with
  | some d=>some (none,d)
  | none=>none
 | .o,x=>Fj h x
 | .p,x=>zH h x
def oK(h:Nat->az):List AM->List TV->Option (Option Prop × List TV)
 | [],xs=>match wj h xs with
  | some ds=>some (none,ds)
  | none=>none
 | m::ms,xs=>match xs with
  | []=>some (none,[])
  | x::xs=>match zI h m x,oK h ms xs with
   | some (p,d),some (q,ds)=>some (gO p q,d::ds)
   | _,_=>none
def qK:List AM->List TV->List TV
 | [],_=>[]
 | m::ms,xs=>match xs with
  | []=>[]
  | x::xs=>bif m.h then x::qK ms xs else qK ms xs
def oL:List AM->List TV->List TV
 | [],xs=>xs
 | m::ms,xs=>match xs with
  | []=>[]
  | x::xs=>bif m.h then oL ms xs else x::oL ms xs
def Rt:az->az->az
 | .sl e _ (.dp g _ _) _,.sl _ ts (.dp _ _ []) es=>.sl e ts (.dp (g+1) false []) es
 | .sl _ _ (.dp _ _ _) _,_=>.dead
 | _,B=>B
def zJ(h:Nat->az):List Nat->List az->List (Nat × az)
 | id::ids,x::xs=>(id,Rt (h id) x)::zJ h ids xs
 | _,_=>[]
def zK:List Nat->List Nat->Bool
 | [],_=>true
 | x::xs,ys=>(ys.all λy=>!Nat.beq x y)&&zK xs ys
def TV.l8(b:Nat):TV->TV
 | .r ts id off len=>.r ts (id+b) off len
 | .p id i j=>.p (id+b) i j
 | .c t x=>.c t x
 | .n ts=>.n ts
 | .q ts x j=>.q ts x j
 | _=>.u
def TV.kT(b:Nat):TV->TV
 | .a cs=>.a (cs.map (TV.l8 b))
 | x=>x.l8 b
def TV.sh(b:Nat):TV->TV
 | .tp vs=>.tp (vs.map (TV.kT b))
 | .g d v=>.g d (v.sh b)
 | x=>x.kT b
def az.sh(b:Nat):az->az
 | .box cs=>.box (cs.map (TV.l8 b))
 | x=>x
def zL(b:Nat):List az->List (Nat × az)
 | []=>[]
 | x::xs=>(b,x)::zL (b+1) xs
def zM:List Nat->List (List TV)->List (Nat × az)
 | id::ids,cs::cC=>(id,.box cs)::zM ids cC
 | _,_=>[]
def wq(T:Nat->TV):List TV->List (Nat × Nat × bD)->Option (List TV)
 | cs,[]=>some cs
 | cs,(off,n,x)::r =>
  bif Nat.beq (x.ev T).cells.length n&&Nat.ble (off+n) cs.length&&(x.ev T).st then wq T (bw cs off (x.ev T).cells) r else none
def wu(h:Nat->az)(T:Nat->TV)(ts:List CT):List bD->Option (List (aS ts))
 | []=>some []
 | x::r=>match aS.of h ts (x.ev T).cells,wu h T ts r with
  | some e,some es=>some (e::es)
  | _,_=>none
def oM:List Nat->Bool
 | []=>true
 | x::xs=>!(xs.elem x)&&oM xs
def iF(l:List TV)(j n:Nat):Option (List TV):=bif Nat.ble (j+n) l.length then some ((l.drop j).take n) else none
def qL(op:BinOp):TV->TV->Option TE
 | .c (.int k) x,.c (.int k') y =>
  match op with
  | .shl=>some ⟨some ((0:Int)<=y),.c (.int k) (k.wrap (x*2 ^ (min (Int.toNat y) k.bits))),[]⟩
  | .shr=>some ⟨some ((0:Int)<=y),.c (.int k) (Int.fdiv x (2 ^ (min (Int.toNat y) k.bits))),[]⟩
  | op=>if k=k' then(match op with
   | .add=>some ⟨none,.c (.int k) (k.wrap (x+y)),[]⟩
   | .sub=>some ⟨none,.c (.int k) (k.wrap (x-y)),[]⟩
   | .mul=>some ⟨none,.c (.int k) (k.wrap (x*y)),[]⟩
   | .quo=>some ⟨some (¬ (y:Int)=0),.c (.int k) (k.wrap (Int.tdiv x y)),[]⟩
   | .rem=>some ⟨some (¬ (y:Int)=0),.c (.int k) (Int.tmod x y),[]⟩
   | .and=>some ⟨none,.c (.int k) (k.wrap ((BitVec.ofInt k.bits x &&& BitVec.ofInt k.bits y).toNat)),[]⟩
   | .or=>some ⟨none,.c (.int k) (k.wrap ((BitVec.ofInt k.bits x ||| BitVec.ofInt k.bits y).toNat)),[]⟩
   | .xor=>some ⟨none,.c (.int k) (k.wrap ((BitVec.ofInt k.bits x ^^^ BitVec.ofInt k.bits y).toNat)),[]⟩
   | .eql=>some ⟨none,.c .bool ((x:Int)==y),[]⟩
   | .neq=>some ⟨none,.c .bool ((x:Int) != y),[]⟩
   | .lss=>some ⟨none,.c .bool (decide ((x:Int)<y)),[]⟩
   | .leq=>some ⟨none,.c .bool (decide ((x:Int)<=y)),[]⟩
   | .gtr=>some ⟨none,.c .bool (decide ((x:Int)>y)),[]⟩
   | .geq=>some ⟨none,.c .bool (decide ((x:Int)>=y)),[]⟩
   | _=>none) else none
 | .c .str x,.c .str y=>match op with
  | .eql=>some ⟨none,.c .bool (ByteArray.toList x==ByteArray.toList y),[]⟩
  | .neq=>some ⟨none,.c .bool (!(ByteArray.toList x==ByteArray.toList y)),[]⟩
  | _=>none
 | _,_=>none
def dZ{α:Type}(b:Bool)(x y:α):α:=match b with
 | true=>x
 | false=>y
def gt(ts:List CT)(l:List (aS ts))(i:Nat):aS ts:=l.getD i (aS.wi ts)
def aS.cd(id g i:Nat):Nat->(ts:List CT)->aS ts->List TV
 | _,[],_=>[]
 | j,t::ts,x=>(match t,hd ts x with
  | .sl us,l=>TV.bs us l id g [(i,j)]
  | t,v=>.c t v)::aS.cd id g i (j+1) ts (tl ts x)
def aS.cZ(m:Mo)(id i:Nat)(ts:List CT)(x:aS ts):List TV:=match m with
 | .dp g _ _=>aS.cd id g i 0 ts x
 | _=>aS.cells ts x
def aS.bQ(id g:Nat)(p:cD)(i:Nat):Nat->(ts:List CT)->aS ts->List TV
 | _,[],_=>[]
 | j,t::ts,x=>(match t,hd ts x with
  | .sl us,l=>TV.bs us l id g (p++[(i,j)])
  | t,v=>.c t v)::aS.bQ id g p i (j+1) ts (tl ts x)
def TV.eG(h:Nat->az)(id g i j:Nat):TV->Option (Option Prop)
 | .c t _=>bif t.flat then some none else none
 | .n _=>some none
 | .r _ b7 _ _=>bif !(Nat.beq b7 id)&&(h b7).pR then some none else none
 | .bs _ _ b7 g' pt=>match pt with
  | [(i',j')]=>bif Nat.beq b7 id&&Nat.beq g' g&&Nat.beq j' j then some (some (i'=i)) else none
  | _=>none
 | _=>none
def TV.dy(h:Nat->az)(id g i:Nat):Nat->List TV->Option (Option Prop)
 | _,[]=>some none
 | j,x::xs=>match x.eG h id g i j,TV.dy h id g i (j+1) xs with
  | some P,some Q=>some (gO P Q)
  | _,_=>none
def zN(h:Nat->az)(b:Nat)(T:Nat->TV):Nat->List bD->Option (Option Prop)
 | _,[]=>some none
 | i,x::r=>match TV.dy h b 0 i 0 (x.ev T).cells,zN h b T (i+1) r with
  | some p,some q=>some (gO p q)
  | _,_=>none
def jI:List Nat->List (Nat × az)
 | []=>[]
 | id::ids=>(id,.dead)::jI ids
def TV.pl:TV->Bool
 | .c t _=>t.flat
 | .n _=>true
 | _=>false
def az.kE:az->Bool
 | .sl _ _ (.dp _ _ _) _=>true
 | _=>false
def TV.iS(h:Nat->az)(ts:List CT):TV->Bool
 | .r _ idx _ _=>!(h idx).kE||ts.all CT.flat
 | .bs ..=>ts.all CT.flat
 | _=>true
def TV.dH(h:Nat->az)(id len:Nat)(ts:List CT):TV->Option (Option Prop)
 | .r _ idx off _=>bif (h idx).kE then(bif Nat.beq idx id then some (some (len<=off)) else some none) else bif ts.all CT.flat then some none else none
 | _=>bif ts.all CT.flat then some none else none
def TV.dc(h:Nat->az):TV->List Nat
 | .r _ idx _ _=>bif (h idx).kE then [idx] else []
 | _=>[]
def qM:TV->Bool
 | .c t _=>t.flat
 | _=>false
def Fk(Γ:aF)(h:Nat->az)(b:Nat)(f:FuncId)(id g i j:Nat)(xs:List TV):Option TE :=
 match h id with
 | .sl e ts (.dp g0 t []) es=>match(aS.cells ts (gt ts es i))[j]? with
  | some (.c (.sl us) l)=>match Jm Γ.rows f with
   | some row=>bif ZW row.sg (.ow 0 us dw l::xs)&&Nat.beq g0 g&&xs.all qM&&!us.isEmpty then(match row.fn (.ow 0 us dw l::xs) with
    | some (pre,⟨v,[],[],_,[.sl _ lN (.dp _ _ []) eO]⟩)=>match aS.of (λ_=>.none) ts (bw (aS.cells ts (gt ts es i)) j [.c (.sl lN) eO]) with
     | some x=>bif CT.dh lN us then some ⟨gO (some (i<es.length)) pre,v.sh b,[(b,.dead),(id,.sl e ts (.dp (g+1) t []) (es.set i x))]⟩ else none
     | none=>none
    | _=>none) else none
   | none=>none
  | _=>none
 | _=>none
def Fl(ms:List AM)(xs:List TV):Option (Nat × Nat × Nat × Nat × List TV) :=
 match ms,xs with
 | .p::ms,.bs _ _ id g [(i,j)]::r=>if ms.all (λm=>!m.h)=true then some (id,g,i,j,r) else none
 | _,_=>none
def Fm(Γ:aF)(h:Nat->az)(b:Nat)(f:FuncId)(xs:List TV)(row:aI):Option TE :=
 match oK h (gq row.sg) xs with
   | some (p0,vs)=>bif ZW row.sg vs then(match row.fn vs with
    | some (pre,r)=>bif Nat.ble r.hb.length 16&&((r.bx.isEmpty&&r.gv.isEmpty)||r.al)&&oM ((oL (gq row.sg) xs).flatMap TV.b8) &&
       oM ((qK (gq row.sg) xs).flatMap TV.refs)&&zK ((qK (gq row.sg) xs).flatMap TV.refs) ((oL (gq row.sg) xs).flatMap TV.refs) then
      some ⟨gO p0 pre,r.v.sh b,zL b (r.hb.map (az.sh b))++zM ((oL (gq row.sg) xs).flatMap TV.b8) r.bx++zJ h ((qK (gq row.sg) xs).flatMap TV.refs) r.gv ++
       (if r.al then kD h ((oL (gq row.sg) xs).flatMap TV.refs) else [])⟩ else none
    | none=>none) else none
   | none=>none
def Zl(Γ:aF)(T:Nat->TV)(h:Nat->az)(b:Nat):d6->Option TE
 | .eG x=>some ⟨none,x.ev T,[]⟩
 | .pick c x y=>match c.ev T,x.ev T,y.ev T with
  | .c .bool c,.c .bool x,.c .bool y=>some ⟨none,.c .bool (bif c then x else y),[]⟩
  | _,_,_=>none
 | .bin op x y=>qL op (x.ev T) (y.ev T)
 | .gE n neg x y=>match x.ev T,y.ev T with
  | .a xs,.a ys=>match tx xs,tx ys with
   | some l,some m=>bif Nat.beq l.length n&&Nat.beq m.length n then some ⟨none,.c .bool (dZ neg (!decide (l=m)) (decide (l=m))),[]⟩ else none
   | _,_=>none
  | _,_=>none
 | .ic neg x y=>match x.ev T,y.ev T with
  | .c .bool x,.c .bool y=>some ⟨none,.c .bool (dZ neg (!((x:Bool)==y)) ((x:Bool)==y)),[]⟩
  | _,_=>none
 | .not x=>match x.ev T with
  | .c .bool c=>some ⟨none,.c .bool (!c),[]⟩
  | _=>none
 | .neg x=>match x.ev T with
  | .c (.int k) n=>some ⟨none,.c (.int k) (k.wrap (0-n)),[]⟩
  | _=>none
 | .new _ zs=>some ⟨none,.p b 0 0,[(b,.box zs)]⟩
 | .box _ x n=>bif Nat.beq (x.ev T).cells.length n&&(x.ev T).st then some ⟨none,.p b 0 0,[(b,.box (x.ev T).cells)]⟩ else none
 | .load x n agg=>match x.ev T with
  | .p id i j=>match h id with
   | .box cs=>match i with
    | 0=>match iF cs j n with
     | some l=>match qI agg l with
      | some v=>some ⟨none,v,[]⟩
      | none=>none
     | none=>none
    | _=>none
   | .sl _ ts m es=>bif m.full then(match iF (aS.cZ m id i ts (gt ts es i)) j n with
    | some l=>match qI agg l with
     | some v=>some ⟨some (i<es.length),v,[]⟩
     | none=>none
    | none=>none) else none
   | _=>none
  | .bq ts x j id g p i=>bif (h id).nk g then(match iF (aS.bQ id g p i 0 ts x) j n with
   | some l=>match qI agg l with
    | some v=>some ⟨none,v,[]⟩
    | none=>none
   | none=>none) else none
  | .q ts x j=>match iF (aS.cells ts x) j n with
   | some l=>match qI agg l with
    | some v=>some ⟨none,v,[]⟩
    | none=>none
   | none=>none
  | _=>none
 | .store x v n=>bif Nat.beq (v.ev T).cells.length n&&(v.ev T).st then(match x.ev T with
  | .p id i j=>match h id with
   | .box cs=>match i with
    | 0=>bif Nat.ble (j+n) cs.length then some ⟨none,.u,[(id,.box (bw cs j (v.ev T).cells))]⟩ else none
    | _=>none
   | .sl e ts .ow es=>match aS.of h ts (bw (aS.cells ts (gt ts es i)) j (v.ev T).cells) with
    | some x=>bif Nat.ble (j+n) ts.length&&!((v.ev T).refs.elem id) then some ⟨some (i<es.length),.u,(id,.sl e ts .ow (es.set i x))::kD h (v.ev T).refs⟩ else none
    | none=>none
   | .sl e ts (.dp g t []) es=>match aS.of h ts (bw (aS.cells ts (gt ts es i)) j (v.ev T).cells) with
    | some x=>match TV.dy h id g i j (v.ev T).cells with
     | some q=>bif Nat.ble (j+n) ts.length&&oM (v.ev T).db then some ⟨gO (some (i<es.length)) q,.u,(id,.sl e ts (.dp (g+1) t []) (es.set i x))::jI (v.ev T).db⟩ else none
     | none=>none
    | none=>none
   | _=>none
  | _=>none) else none
 | .kl x off=>match x.ev T with
  | .p id i j=>bif (h id).alive then some ⟨none,.p id i (j+off),[]⟩ else none
  | .q ts x j=>some ⟨none,.q ts x (j+off),[]⟩
  | .bq ts x j id g p i=>bif (h id).nk g then some ⟨none,.bq ts x (j+off) id g p i,[]⟩ else none
  | _=>none
 | .js x i ts=>match i.ev T with
  | .c (.int _) i=>match x.ev T with
   | .c (.sl b4) l=>bif CT.dh b4 ts then some ⟨some ((0:Int)<=i/\Int.toNat i<List.length l),.q b4 (gt b4 l (Int.toNat i)) 0,[]⟩ else none
   | .r b4 id off len=>bif CT.dh b4 ts&&(h id).alive then some ⟨some ((0:Int)<=i/\Int.toNat i<len),.p id (off+Int.toNat i) 0,[]⟩ else none
   | .bs b4 l id g p=>bif CT.dh b4 ts&&(h id).nk g then some ⟨some ((0:Int)<=i/\Int.toNat i<List.length l),.bq b4 (gt b4 l (Int.toNat i)) 0 id g p (Int.toNat i),[]⟩ else none
   | _=>none
  | _=>none
 | .kS x off n agg=>match x.ev T with
  | .a cs=>match iF cs off n with
   | some l=>match qI agg l with
    | some v=>some ⟨none,v,[]⟩
    | none=>none
   | none=>none
  | _=>none
 | .build zs ps=>match wq T zs ps with
  | some cs=>some ⟨none,.a cs,[]⟩
  | none=>none
 | .bW e ts ps=>match wu h T ts ps with
  | some es=>match Γ.dp with
   | true=>match zN h b T 0 ps with
    | some q=>bif oM (ps.flatMap λx=>(x.ev T).db) then some ⟨q,.r ts b 0 es.length,(b,.sl e ts (.dp 0 true []) es)::jI (ps.flatMap λx=>(x.ev T).db)⟩ else none
    | none=>none
   | false=>some ⟨none,.r ts b 0 es.length,(b,.sl e ts .ow es)::kD h (ps.flatMap λx=>(x.ev T).refs)⟩
  | none=>none
 | .mk e ts zs n=>match n.ev T,aS.of h ts zs with
  | .c (.int _) n,some z=>bif !Γ.dp||zs.all TV.pl then some ⟨some ((0:Int)<=n/\n<=ca),.r ts b 0 (Int.toNat n),[(b,.sl e ts (dZ Γ.dp (.dp 0 true []) .ow) (List.replicate (Int.toNat n) z))]⟩ else none
  | _,_=>none
 | .fB x lo hi ts =>
  match qJ T 0 lo with
  | some lo=>match x.ev T with
   | .c (.sl b4) l=>match qJ T (List.length l) hi with
    | some hi=>bif CT.dh b4 ts then some ⟨some (0<=lo/\lo<=hi/\hi<=List.length l),.c (.sl b4) (List.take (hi.toNat-lo.toNat) (List.drop lo.toNat l)),[]⟩ else none
    | none=>none
   | .r b4 id off len=>match qJ T len hi with
    | some hi=>bif CT.dh b4 ts&&(h id).alive then some ⟨some (0<=lo/\lo<=hi/\hi<=len),.r b4 id (off+lo.toNat) (hi.toNat-lo.toNat),[]⟩ else none
    | none=>none
   | .n _=>match qJ T 0 hi with
    | some hi=>some ⟨some (lo=0/\hi=0),.n ts,[]⟩
    | none=>none
   | _=>none
  | none=>none
 | .len x=>match x.ev T with
  | .c (.sl _) l=>some ⟨none,.c (.int .i64) (List.length l:Int),[]⟩
  | .n _=>some ⟨none,.c (.int .i64) (0:Int),[]⟩
  | .r _ id _ len=>bif (h id).alive then some ⟨none,.c (.int .i64) (len:Int),[]⟩ else none
  | .bs _ l id g _=>bif (h id).nk g then some ⟨none,.c (.int .i64) (List.length l:Int),[]⟩ else none
  | _=>none
 | .app s x e ts=>match(x.ev T).eD h (.sl ts) with
  | some xs=>match s.ev T with
   | .n _=>match Γ.dp with
    | true=>match(x.ev T).dH h b 0 ts with
     | some q=>some ⟨gO (some (List.length xs<=ca)) q,.r ts b 0 (List.length xs),jI ((x.ev T).dc h)++[(b,.sl e ts (.dp 0 true []) xs)]⟩
     | none=>none
    | false=>bif (x.ev T).iS h ts then some ⟨some (List.length xs<=ca),.r ts b 0 (List.length xs),[(b,.sl e ts .ow xs)]⟩ else none
   | .r _ id 0 len=>match h id with
    | .sl e' b4 .ow es=>if q:CT.dh b4 ts=true then(bif Nat.beq e' e&&(x.ev T).iS h ts then
      some ⟨some ((len=es.length\/len+List.length xs<=es.length)/\len+List.length xs<=ca),.r ts b 0 (len+List.length xs),[(id,.dead),(b,.sl e ts .ow ((tw q es).take len++xs))]⟩ else none) else none
    | .sl e' b4 (.dp _ true []) es=>if q:CT.dh b4 ts=true then(bif Nat.beq e' e then(match(x.ev T).dH h id len ts with
      | some r=>some ⟨gO (some ((len=es.length\/len+List.length xs<=es.length)/\len+List.length xs<=ca)) r,.r ts b 0 (len+List.length xs),(id,.dead)::jI ((x.ev T).dc h)++[(b,.sl e ts (.dp 0 true []) ((tw q es).take len++xs))]⟩
      | none=>none) else none) else none
    | _=>none
   | _=>none
  | none=>none
 | .mm mx x y=>match x.ev T,y.ev T with
  | .c (.int k) x,.c (.int _) y=>some ⟨none,.c (.int k) (dZ mx (if(x:Int)<y then y else x) (if(y:Int)<x then y else x)),[]⟩
  | _,_=>none
 | .call f args=>match Jm Γ.rows f with
  | some row=>match Fl (gq row.sg) (args.map λx=>x.ev T) with
   | some (id,g,i,j,r)=>Fk Γ h b f id g i j r
   | none=>Fm Γ h b f (args.map λx=>x.ev T) row
  | none=>none
 | .ext x i=>match x.ev T with
  | .tp vs=>match vs[i]? with
   | some v=>bif v.st then some ⟨none,v,[]⟩ else none
   | none=>none
  | _=>none
 | .conv k x=>match x.ev T with
  | .c (.int _) n=>some ⟨none,.c (.int k) (k.wrap n),[]⟩
  | _=>none
 | .f9 x=>match x.ev T with
  | .p id i j=>bif (h id).alive then some ⟨none,.p id i j,[]⟩ else none
  | .q ts x j=>some ⟨none,.q ts x j,[]⟩
  | .bq ts x j id g p i=>bif (h id).nk g then some ⟨none,.bq ts x j id g p i,[]⟩ else none
  | _=>none
end Go.Proofs.YtdplaepmjogjjaaGreat.Am
namespace Go.Proofs.YtdplaepmjogjjaaGreat.Am
open Go Go.RowKit
@[simp] theorem Fo{ts:List CT}(e:CT.dh ts ts=true)(l:List (aS ts)):tw e l=l:=rfl
@[simp] theorem QYQ{t:CT}(e:t.beq t=true)(x:t.den):zF e x=x:=rfl
theorem az.bH{e:TypeId}{ts:List CT}{m:Mo}{es:List (aS ts)}:(az.sl e ts m es).aA = .sl e ts.length m (es.map (aV ts)):=rfl
theorem az.eL{cs:List TV}:(az.box cs).aA = .box (cs.map TV.aQ):=rfl
theorem az.jb:az.dead.aA = .dead:=rfl
theorem Zu(T:Nat->TV)(o:bD):o.er.ev (λs=>(T s).aA)=(o.ev T).aA:=by cases o <;> rfl
theorem qN{x:TV}(h:x.one=true):x.aA=x.aQ:=by cases x <;> first | rfl | simp[TV.one]at h
theorem Fp{x:TV}(h:x.st=true):x.aA.st=true:=by cases x <;> first | rfl | simp[TV.st,TV.one]at h
theorem wv{x:TV}(h:x.st=true):x.aA.cells=x.cells.map TV.aQ:=by cases x <;> first | rfl | simp[TV.st,TV.one]at h
theorem QIp{x:TV}:x.aQ.bR=x.bR:=by cases x <;> rfl
theorem QHq{x:TV}:x.aQ.fD=x.fD:=by cases x <;> rfl
theorem Ru:∀ {xs:List TV},AV.cR (xs.map TV.aQ)=TV.cR xs
 | []=>rfl
 | x::xs=>by simp only[List.map_cons,AV.cR,TV.cR,QHq,Ru (xs:=xs)]
theorem Fq:∀ {xs:List TV},AV.bM (xs.map TV.aQ)=TV.bM xs
 | []=>rfl
 | x::xs=>by simp only[List.map_cons,AV.bM,TV.bM,QIp,Fq (xs:=xs)]
theorem zO:∀ {x:TV},x.aA.refs=x.refs
 | .a cs=>Fq
 | .g true v=>zO (x:=v)
 | .g false v=>rfl
 | .u=>rfl
 | .c _ _=>rfl
 | .n _=>rfl
 | .r ..=>rfl
 | .p ..=>rfl
 | .q ..=>rfl
 | .tp _=>rfl
 | .bx _=>rfl
 | .ow ..=>rfl
 | .bs ..=>rfl
 | .bq ..=>rfl
theorem Fs:∀ {x:TV},x.aA.db=x.db
 | .a cs=>Ru
 | .g true v=>Fs (x:=v)
 | .g false v=>rfl
 | .u=>rfl
 | .c _ _=>rfl
 | .n _=>rfl
 | .r ..=>rfl
 | .p ..=>rfl
 | .q ..=>rfl
 | .tp _=>rfl
 | .bx _=>rfl
 | .ow ..=>rfl
 | .bs ..=>rfl
 | .bq ..=>rfl
theorem Rv:∀ {x:TV},x.aA.b8=x.b8
 | .a cs=>rfl
 | .g true v=>Rv (x:=v)
 | .g false v=>rfl
 | .u=>rfl
 | .c _ _=>rfl
 | .n _=>rfl
 | .r ..=>rfl
 | .p ..=>rfl
 | .q ..=>rfl
 | .tp _=>rfl
 | .bx _=>rfl
 | .ow ..=>rfl
 | .bs ..=>rfl
 | .bq ..=>rfl
theorem QFF{h:Nat->az}{t:CT}{x:TV}{d:t.den}(e:x.eD h t=some d):x.one=true:=by
 cases x <;> first | rfl | simp[TV.eD]at e
theorem QX{α:Type}{b:Bool}{x:Option α}{y:α}(h:(bif b then x else none)=some y):b=true/\x=some y:=by
 cases b with
 | true=>exact⟨rfl,h⟩
 | false=>cases h
theorem QRh(b:az):b.aA.dn=b.dn:=by
 cases b with
 | sl e ts m es =>
  cases m with
  | dp g t H=>cases H <;> rfl
  | _=>rfl
 | _=>rfl
theorem QIh(b:az):b.aA.pR=b.pR:=by
 cases b with
 | sl e ts m es =>
  cases m with
  | dp g t H=>cases H <;> rfl
  | _=>rfl
 | _=>rfl
theorem qO{b:az}{g:Nat}(h:b.nk g=true):b.aA.dn=some g:=by
 rw[QRh];unfold az.nk at h
 cases hx:b.dn with
 | none=>rw[hx]at h;cases h
 | some g'=>rw[hx]at h;rw[Nat.eq_of_beq_eq_true h]
theorem Rw{h:Nat->az}{t:CT}{x:TV}{d:t.den}(e:x.eD h t=some d):x.aQ.d (λi=>(h i).aA)=some (enc t d):=by
 cases x with
 | c t' x =>
  simp only[TV.eD]at e
  split at e
  ·rename_i q;obtain rfl:=CT.beq_eq _ _ q
   cases e;rfl
  ·cases e
 | n ts =>
  cases t with
  | sl b4 =>
   simp only[TV.eD]at e;obtain⟨q,e⟩:=QX e;obtain rfl:=CT.bS _ _ q
   cases e;simp[TV.aQ,AV.d,enc]
  | _=>simp[TV.eD]at e
 | r ts id off len =>
  cases t with
  | sl b4 =>
   simp only[TV.eD]at e
   split at e
   rotate_left
   ·cases e
   rename_i hh;obtain⟨hf,e⟩:=QX e
   split at e
   rotate_left
   ·cases e
   rename_i q;obtain rfl:=CT.bS _ _ q
   cases e;simp only[TV.aQ,AV.d,hh,az.aA,Fo,enc,List.map_take,List.map_drop,hf,if_true]
  | _=>simp[TV.eD]at e
 | bs ts l id g p =>
  cases t with
  | sl b4 =>
   simp only[TV.eD]at e;obtain⟨hv,e⟩:=QX e
   split at e
   rotate_left
   ·cases e
   rename_i q;obtain rfl:=CT.bS _ _ q
   cases e;simp only[TV.aQ,AV.d,qO hv,Fo,enc,if_true]
  | _=>simp[TV.eD]at e
 | _=>simp[TV.eD]at e
theorem wx{A:Type}(ts:List CT)(a:A)(b:aS ts):hd ts (lM ts a b)=a:=by cases ts <;> rfl
theorem wy{A:Type}(ts:List CT)(a:A)(b:aS ts):tl ts (lM ts a b)=b:=by cases ts <;> rfl
theorem tz{h:Nat->az}:∀(ts:List CT)(xs:List TV)(d:aS ts),aS.of h ts xs=some d->AV.ds (λi=>(h i).aA) (xs.map TV.aQ)=some (aV ts d)/\xs.length=ts.length
 | [],xs,d,e=>by
  cases xs with
  | nil=>exact⟨rfl,rfl⟩
  | cons x xs=>cases(show(none:Option (aS []))=some d from e)
 | t::ts,xs,d,e=>by
  cases xs with
  | nil=>cases(show(none:Option (aS (t::ts)))=some d from e)
  | cons x xs =>
   have e:(match x.eD h t,aS.of h ts xs with | some a,some b=>some (lM ts a b) | _,_=>none)=some d:=e
   split at e
   rotate_left
   ·cases e
   rename_i a b ha hb
   cases e;have h1:=Rw (t:=t) ha;obtain⟨h2,h3⟩:=tz ts xs b hb;rw[aV,wx,wy];simp only[List.map_cons,AV.ds,h1,h2,List.length_cons,h3,and_self]
theorem qP:∀(ts:List CT)(x:aS ts),(aV ts x).length=ts.length
 | [],x=>by rw[aV];rfl
 | t::ts,x=>by rw[aV,List.length_cons,List.length_cons,qP ts]
theorem oN:∀(ts:List CT)(x:aS ts),(aS.cells ts x).map TV.aQ=(aV ts x).map AV.c
 | [],x=>by rw[aV,aS.cells];rfl
 | t::ts,x=>by rw[aV,aS.cells,List.map_cons,List.map_cons,oN ts];rfl
theorem wz{α β:Type}(f:α->β)(l:List α)(j:Nat)(xs:List α):(bw l j xs).map f=bw (l.map f) j (xs.map f):=by
 simp[bw]
theorem Rx{h:Nat->az}{x y:TV}(e:x.iE h=some y):x.one=true/\∃ t d,y = .c t d/\x.aQ.d (λi=>(h i).aA)=some (enc t d):=by
 cases x with
 | c t x=>simp only[TV.iE,Option.some.injEq]at e;subst e;exact⟨rfl,t,x,rfl,rfl⟩
 | n ts=>simp only[TV.iE,Option.some.injEq]at e;subst e;exact⟨rfl,.sl ts,[],rfl,by simp[TV.aQ,AV.d,enc]⟩
 | r ts id off len =>
  simp only[TV.iE]at e
  split at e
  rotate_left
  ·cases e
  rename_i hh;obtain⟨hf,e⟩:=QX e;simp only[Option.some.injEq]at e;subst e;exact⟨rfl,_,_,rfl,by simp only[TV.aQ,AV.d,hh,az.aA,enc,List.map_take,List.map_drop,hf,if_true]⟩
 | bs ts l id g p =>
  simp only[TV.iE]at e;obtain⟨hv,e⟩:=QX e;simp only[Option.some.injEq]at e;subst e;exact⟨rfl,_,_,rfl,by simp only[TV.aQ,AV.d,qO hv,enc,if_true]⟩
 | _=>simp[TV.iE]at e
theorem Ft{h:Nat->az}:∀ {xs ys:List TV},TV.kC h xs=some ys->∃ ds,AV.ds (λi=>(h i).aA) (xs.map TV.aQ)=some ds/\ys.map TV.aQ=ds.map AV.c
 | [],ys,e=>by simp only[TV.kC,Option.some.injEq]at e;subst e;exact⟨[],rfl,rfl⟩
 | x::xs,ys,e=>by
  simp only[TV.kC]at e
  split at e
  rotate_left
  ·cases e
  rename_i a b ha hb;simp only[Option.some.injEq]at e;subst e;obtain⟨_,t,d,rfl,h2⟩:=Rx ha;obtain⟨ds,h3,h4⟩:=Ft hb;exact⟨enc t d::ds,by simp only[List.map_cons,AV.ds,h2,h3],by simp only[List.map_cons,h4,TV.aQ]⟩
theorem Ry{h:Nat->az}{x y:TV}(e:nm h x=some y):x.aA.arg (λi=>(h i).aA)=some y.aA:=by
 unfold nm at e
 split at e
 ·rename_i cs
  split at e
  rotate_left
  ·cases e
  rename_i ds cn;simp only[Option.some.injEq]at e;subst e;obtain⟨d,h1,h2⟩:=Ft cn;simp only[TV.aA,TV.ck,AV.arg,h1,h2]
 ·rename_i id
  split at e
  rotate_left
  ·cases e
  rename_i cs hh
  split at e
  rotate_left
  ·cases e
  rename_i hr
  split at e
  rotate_left
  ·cases e
  rename_i ds cn;simp only[Option.some.injEq]at e;subst e;obtain⟨d,h1,h2⟩:=Ft cn;show(match(h id).aA with
   | .box cs=>if AV.bM cs=[] then(match AV.ds (λi=>(h i).aA) cs with
    | some ds=>some (AV.bx (ds.map .c))
    | none=>none) else none
   | _=>none)=some (TV.aA (.bx ds))
  rw[hh];show(if AV.bM (cs.map TV.aQ)=[] then(match AV.ds (λi=>(h i).aA) (cs.map TV.aQ) with
    | some ds=>some (AV.bx (ds.map .c))
    | none=>none) else none)=some (TV.aA (.bx ds))
  rw[if_pos (by rw[Fq,hr]),h1];simp only[TV.aA,h2]
 ·obtain⟨h1,t,d,rfl,h2⟩:=Rx e;rw[qN h1]
  cases x with
  | c t' x=>simp only[TV.aQ,AV.d,Option.some.injEq]at h2;simp only[TV.aQ,AV.arg,TV.aA,TV.ck,h2]
  | n ts=>simp only[TV.aQ,AV.d,Option.some.injEq]at h2;simp only[TV.aQ,AV.arg,TV.aA,TV.ck,h2]
  | r ts id off len=>simp only[TV.aQ]at h2;simp only[TV.aQ,AV.arg,TV.aA,TV.ck,h2]
  | bs ts l id g p=>simp only[TV.aQ]at h2;simp only[TV.aQ,AV.arg,TV.aA,TV.ck,h2]
  | _=>simp[TV.iE]at e
theorem Rz{h:Nat->az}:∀ {xs ys:List TV},wj h xs=some ys->AV.gZ (λi=>(h i).aA) (xs.map TV.aA)=some (ys.map TV.aA)
 | [],ys,e=>by simp only[wj,Option.some.injEq]at e;subst e;rfl
 | x::xs,ys,e=>by
  simp only[wj]at e
  split at e
  rotate_left
  ·cases e
  rename_i a b ha hb;simp only[Option.some.injEq]at e;subst e;simp only[List.map_cons,AV.gZ,Ry ha,Rz hb]
theorem RA(b:az):(Fh b).aA=jt b.aA:=by cases b <;> rfl
def dK(p:Nat × az):Nat × aR:=(p.1,p.2.aA)
theorem zP(h:Nat->az):∀(ids:List Nat),(kD h ids).map dK=eT (λi=>(h i).aA) ids
 | []=>rfl
 | id::ids=>by simp only[kD,eT,List.map_cons,dK,RA,zP h ids]
theorem wA(b:az):b.aA.alive=b.alive:=by cases b <;> rfl
theorem wB{l m:List TV}{j n:Nat}(e:iF l j n=some m):cut (l.map TV.aQ) j n=some (m.map TV.aQ):=by
 unfold iF at e;obtain⟨q,e⟩:=QX e;simp only[Option.some.injEq]at e;subst e;have q:=Nat.le_of_ble_eq_true q;unfold cut;rw[if_pos (by simpa using q)];simp[List.map_take,List.map_drop]
theorem wC{agg:Bool}{cs:List TV}{v:TV}(e:qI agg cs=some v):JL agg (cs.map TV.aQ)=some v.aA:=by
 unfold qI at e;unfold JL
 cases agg with
 | true=>simp only[if_true,Option.some.injEq]at e ⊢;subst e;rfl
 | false =>
  simp only[Bool.false_eq_true,if_false]at e ⊢
  split at e
  ·rename_i x;obtain⟨q,e⟩:=QX e;simp only[Option.some.injEq]at e;subst e;simp only[List.map_cons,List.map_nil,qN q]
  ·cases e
theorem Fu:∀ {xs:List TV} {l:List Int},tx xs=some l->od (xs.map TV.aQ)=some l
 | [],l,e=>by simp only[tx,Option.some.injEq]at e;subst e;rfl
 | x::xs,l,e=>by
  unfold tx at e
  split at e
  ·rename_i h;cases h
  ·rename_i n r h
   cases h
   split at e
   rotate_left
   ·cases e
   rename_i l' h';simp only[Option.some.injEq]at e;subst e;simp only[List.map_cons,TV.aQ,enc,od,Fu h']
  ·cases e
theorem QRz{x:TV}{n:Int}(e:Fi x=some n):sT x.aA=some n:=by
 unfold Fi at e
 split at e
 ·cases e;rfl
 ·cases e
theorem zQ{T:Nat->TV}{m:Int}{o:Option bD}{n:Int}(e:qJ T m o=some n):Yg (aX.ev λs=>(T s).aA) m (oI o)=some n:=by
 cases o with
 | none=>simpa[qJ,Yg,oI]using e
 | some l=>simp only[qJ]at e;simp only[Yg,oI,Zu];exact QRz e
theorem Fv(b:Nat)(x:TV):(x.l8 b).aQ=x.aQ.l8 b:=by cases x <;> rfl
theorem QIA(b:Nat)(x:TV):(x.kT b).ck=x.ck.kT b:=by
 cases x with
 | a cs=>simp only[TV.kT,TV.ck,AV.kT,List.map_map];congr 2;funext y;exact Fv b y
 | _=>rfl
theorem Fw(b:Nat):∀(x:TV),(x.sh b).aA=x.aA.sh b
 | .tp vs=>by simp only[TV.sh,TV.aA,AV.sh,List.map_map];congr 2;funext y;exact QIA b y
 | .a cs=>by simp only[TV.sh,TV.kT,TV.aA,TV.ck,AV.sh,AV.kT,List.map_map];congr 2;funext y;exact Fv b y
 | .g true v=>Fw b v
 | .g false v=>rfl
 | .u=>rfl
 | .c _ _=>rfl
 | .n _=>rfl
 | .r ..=>rfl
 | .p ..=>rfl
 | .q ..=>rfl
 | .bx _=>rfl
 | .ow ..=>rfl
 | .bs ..=>rfl
 | .bq ..=>rfl
theorem QU4(b:Nat)(x:az):(x.sh b).aA=x.aA.sh b:=by
 cases x with
 | box cs=>simp only[az.sh,az.aA,aR.sh,List.map_map];congr 2;funext y;exact Fv b y
 | _=>rfl
def aB.aA(r:aB):ie:=⟨r.v.aA,r.hb.map az.aA,r.bx.map (·.map TV.aQ),r.al,r.gv.map az.aA⟩
theorem RB(b:Nat):∀(l:List az)(k:Nat),(zL k (l.map (az.sh b))).map dK=YJ k ((l.map az.aA).map (aR.sh b))
 | [],_=>rfl
 | x::xs,k=>by simp only[List.map_cons,zL,YJ,dK,QU4,RB b xs (k+1)]
theorem RC:∀(ids:List Nat)(cC:List (List TV)),(zM ids cC).map dK=YY ids (cC.map (·.map TV.aQ))
 | [],[]=>rfl
 | [],_::_=>rfl
 | _::_,[]=>rfl
 | id::ids,cs::cC=>by simp only[zM,YY,List.map_cons,dK,az.aA,RC ids cC]
theorem QUo(B0 B:az):(Rt B0 B).aA=Jx B0.aA B.aA:=by
 cases B0 with
 | sl e ts m es =>
  cases m with
  | dp g t H =>
   cases B with
   | sl e1 tA m1 eO =>
    cases m1 with
    | dp g1 t1 H1 =>
     cases H1 with
     | nil=>rfl
     | cons=>rfl
    | _=>rfl
   | _=>rfl
  | _=>rfl
 | _=>rfl
theorem RD(h:Nat->az):∀(ids:List Nat)(cC:List az),(zJ h ids cC).map dK=Yr (λi=>(h i).aA) ids (cC.map az.aA)
 | [],[]=>rfl
 | [],_::_=>rfl
 | _::_,[]=>rfl
 | id::ids,cs::cC=>by simp only[zJ,Yr,List.map_cons,dK,RD h ids cC,QUo]
theorem nn{p q:Option Prop}(h:holds (gO p q)):holds p/\holds q:=by
 cases p <;> cases q <;> simp_all [gO,holds]
theorem QTS{h:Nat->az}{x y:TV}{p:Option Prop}(e:Fj h x=some (p,y))(hp:holds p):x.aA.g7 (λi=>(h i).aA)=some y.aA:=by
 unfold Fj at e
 split at e
 ·rename_i ts id len
  split at e
  ·rename_i e0 b4 es hh;have q:CT.dh b4 ts=true:=by
    cases hq:CT.dh b4 ts with
    | true=>rfl
    | false=>rw[hq]at e;cases e
   rw[q]at e
   cases e;obtain rfl:=CT.bS _ _ q;have hp:len=es.length:=hp;subst hp;show(AV.r b4.length id 0 es.length).g7 (λi=>(h i).aA)=some (AV.ow e0 b4.length .ow (es.map (aV b4)));have b9:(λi=>(h i).aA) id = .sl e0 b4.length .ow (es.map (aV b4)):=by show(h id).aA=_;rw[hh];rfl
   have key:∀(H:Nat->aR)(e:TypeId)(es:List (List D))(n:Nat),H id = .sl e n .ow es->(AV.r n id 0 es.length).g7 H=some (.ow e n .ow es):=by
    intro H e es n hH;simp[AV.g7,hH]
   have:=key (λi=>(h i).aA) e0 (es.map (aV b4)) b4.length b9;rw[List.length_map]at this;exact this
  ·cases e
 ·cases e
theorem wD{t:CT}{x:t.den}(h:t.flat=true):∃ v,enc t x = .v v:=by
 cases t with
 | sl ts=>simp[CT.flat]at h
 | _=>exact⟨_,rfl⟩
theorem RE{h:Nat->az}{x y:TV}{p:Option Prop}(e:zG h x=some (p,y))(hp:holds p):x.aQ.dN (λi=>(h i).aA)=some y.aQ/\x.aA=x.aQ/\y.aA=y.aQ:=by
 unfold zG at e
 split at e
 ·rename_i t v;obtain⟨hf,e⟩:=QX e
  cases e;obtain⟨v',iy⟩:=wD (x:=v) hf;refine⟨?_,rfl,rfl⟩;simp only[TV.aQ,iy,AV.dN]
 ·rename_i ts id len
  split at e
  ·rename_i e0 b4 g t es hh;have q:CT.dh b4 ts=true:=by
    cases hq:CT.dh b4 ts with
    | true=>rfl
    | false=>rw[hq]at e;cases e
   rw[q]at e
   cases e;obtain rfl:=CT.bS _ _ q;have hp:len=es.length:=hp;subst hp;refine⟨?_,rfl,rfl⟩;show(AV.r b4.length id 0 es.length).dN (λi=>(h i).aA)=some (AV.ow 0 b4.length dw (es.map (aV b4)));have b9:(λi=>(h i).aA) id = .sl e0 b4.length (.dp g t []) (es.map (aV b4)):=by show(h id).aA=_;rw[hh];rfl
   have key:∀(H:Nat->aR)(e:TypeId)(es:List (List D))(n:Nat),H id = .sl e n (.dp g t []) es->(AV.r n id 0 es.length).dN H=some (.ow 0 n dw es):=by
    intro H e es n hH;simp[AV.dN,hH]
   have:=key (λi=>(h i).aA) e0 (es.map (aV b4)) b4.length b9;rw[List.length_map]at this;exact this
  ·cases e
 ·cases e
theorem RF{h:Nat->az}:∀ {xs ys:List TV} {p:Option Prop},wm h xs=some (p,ys)->holds p->AV.fp (λi=>(h i).aA) (xs.map TV.aQ)=some (ys.map TV.aQ)
 | [],ys,p,e,hp=>by simp only[wm,Option.some.injEq,Prod.mk.injEq]at e;obtain⟨rfl,rfl⟩:=e;rfl
 | x::xs,ys,p,e,hp=>by
  simp only[wm]at e
  split at e
  ·rename_i p1 d q ds h1 h2;simp only[Option.some.injEq,Prod.mk.injEq]at e;obtain⟨rfl,rfl⟩:=e;obtain⟨eS,fg⟩:=nn hp;simp only[List.map_cons,AV.fp,(RE h1 eS).1,RF h2 fg]
  ·cases e
theorem QMk{h:Nat->az}{x y:TV}{p:Option Prop}(e:zH h x=some (p,y))(hp:holds p):x.aA.iq (λi=>(h i).aA)=some y.aA:=by
 unfold zH at e
 split at e
 ·rename_i cs
  split at e
  ·rename_i p' ds h1
   cases e;simp only[TV.aA,TV.ck,AV.iq,RF h1 hp]
  ·cases e
 ·obtain⟨h1,h2,h3⟩:=RE e hp;rw[h3];exact h1
 ·cases e
theorem QWU{h:Nat->az}{m:AM}{x y:TV}{p:Option Prop}(e:zI h m x=some (p,y))(hp:holds p):x.aA.fT (λi=>(h i).aA) m=some y.aA:=by
 cases m with
 | d =>
  simp only[zI]at e
  split at e
  ·rename_i d h1;cases e;exact Ry h1
  ·cases e
 | o=>exact QTS e hp
 | p=>exact QMk e hp
theorem RG{h:Nat->az}:∀ {ms:List AM} {xs ys:List TV} {p:Option Prop},oK h ms xs=some (p,ys)->holds p->AV.dT (λi=>(h i).aA) ms (xs.map TV.aA)=some (ys.map TV.aA)
 | [],xs,ys,p,e,hp=>by
  simp only[oK]at e
  split at e
  ·rename_i ds cn;simp only[Option.some.injEq,Prod.mk.injEq]at e;obtain⟨rfl,rfl⟩:=e;exact Rz cn
  ·cases e
 | m::ms,[],ys,p,e,hp=>by
  simp only[oK,Option.some.injEq,Prod.mk.injEq]at e;obtain⟨rfl,rfl⟩:=e;rfl
 | m::ms,x::xs,ys,p,e,hp=>by
  simp only[oK]at e
  split at e
  ·rename_i p1 d q ds h1 h2;simp only[Option.some.injEq,Prod.mk.injEq]at e;obtain⟨rfl,rfl⟩:=e;obtain⟨eS,fg⟩:=nn hp;simp only[List.map_cons,AV.dT,QWU h1 eS,RG h2 fg]
  ·cases e
theorem RH:∀(ms:List AM)(xs:List TV),cI ms (xs.map TV.aA)=(qK ms xs).map TV.aA
 | [],_=>rfl
 | _::_,[]=>rfl
 | m::ms,x::xs=>by cases m <;> simp only[List.map_cons,cI,qK,AM.h,Bool.false_eq_true,if_true,if_false,cond_true,cond_false,RH ms xs]
theorem RI:∀(ms:List AM)(xs:List TV),cl ms (xs.map TV.aA)=(oL ms xs).map TV.aA
 | [],_=>rfl
 | _::_,[]=>rfl
 | m::ms,x::xs=>by cases m <;> simp only[List.map_cons,cl,oL,AM.h,Bool.false_eq_true,if_true,if_false,cond_true,cond_false,RI ms xs]
theorem QJw(xs:List TV):(xs.map TV.aA).flatMap AV.refs=xs.flatMap TV.refs:=by
 rw[List.flatMap_map];congr 1;funext x;exact zO
theorem QPp(xs:List TV):(xs.map TV.aA).flatMap AV.b8=xs.flatMap TV.b8:=by
 rw[List.flatMap_map];congr 1;funext x;exact Rv
theorem RJ:∀ {xs ys:List Nat},zK xs ys=true->∀ id,id∈xs->id∉ys
 | [],_,_,id,hm=>by simp at hm
 | x::xs,ys,h,id,hm=>by
  simp only[zK,Bool.and_eq_true]at h
  rcases List.mem_cons.1 hm with rfl | hm
  ·intro hy;have:=List.all_eq_true.1 h.1 id hy;rw[Nat.beq_refl]at this;simp at this
  ·exact RJ h.2 id hm
theorem wE:∀ {l:List Nat},oM l=true->l.Nodup
 | [],_=>List.nodup_nil
 | x::xs,h=>by
  simp only[oM,Bool.and_eq_true,Bool.not_eq_true']at h;exact List.nodup_cons.2 ⟨by simpa using h.1,wE h.2⟩
theorem RK{T:Nat->TV}:∀ {ps:List (Nat × Nat × bD)} {zs cs:List TV},wq T zs ps=some cs->JV (aX.ev λs=>(T s).aA) (zs.map TV.aQ) (ps.map Fg)=some (cs.map TV.aQ)
 | [],zs,cs,e=>by simp only[wq,Option.some.injEq]at e;subst e;rfl
 | (off,n,x)::r,zs,cs,e=>by
  simp only[wq]at e;obtain⟨q,e⟩:=QX e;simp only[Bool.and_eq_true]at q;obtain⟨⟨q1,q2⟩,q3⟩:=q;have q1:=Nat.eq_of_beq_eq_true q1;have q2:=Nat.le_of_ble_eq_true q2;have:=RK e;simp only[List.map_cons,Fg,JV,Zu,wv q3,List.length_map,Fp q3,q1,q2,and_self,if_true];rw[wz]at this;exact this
theorem wF{h:Nat->az}{ts:List CT}{a:aS ts}(x:TV)(hx:x.st=false):¬ aS.of h ts x.cells=some a:=by
 intro e;have hc:x.cells=[x]:=by cases x <;> first | rfl | simp[TV.st,TV.one]at hx
 rw[hc]at e
 cases ts with
 | nil=>cases(show(none:Option (aS []))=some a from e)
 | cons t ts =>
  have:x.eD h t=none:=by cases x <;> first | rfl | simp[TV.st,TV.one]at hx
  have e:(match x.eD h t,aS.of h ts []with | some a,some b=>some (lM ts a b) | _,_=>none)=some a:=e;rw[this]at e
  cases e
theorem RN{h:Nat->az}{T:Nat->TV}{ts:List CT}:∀ {ps:List bD} {es:List (aS ts)},wu h T ts ps=some es->
  elems (λi=>(h i).aA) (aX.ev λs=>(T s).aA) ts.length (ps.map bD.er)=some (es.map (aV ts))
 | [],es,e=>by simp only[wu,Option.some.injEq]at e;subst e;rfl
 | x::r,es,e=>by
  simp only[wu]at e
  split at e
  rotate_left
  ·cases e
  rename_i a b ha hb;simp only[Option.some.injEq]at e;subst e;obtain⟨h1,h2⟩:=tz ts _ _ ha;have iN:(x.ev T).st=true:=by
   cases hx:x.ev T with
   | u=>rw[hx]at ha;exact absurd ha (wF _ rfl)
   | tp vs=>rw[hx]at ha;exact absurd ha (wF _ rfl)
   | bx vs=>rw[hx]at ha;exact absurd ha (wF _ rfl)
   | ow e us m vs=>rw[hx]at ha;exact absurd ha (wF _ rfl)
   | g c vs=>rw[hx]at ha;exact absurd ha (wF _ rfl)
   | _=>rfl
  simp only[List.map_cons,elems,Zu,wv iN,h1,RN hb,qP,if_true]
theorem QVB{T:Nat->TV}(ps:List bD):((ps.map bD.er).flatMap λx=>(aX.ev (λs=>(T s).aA) x).refs)=ps.flatMap λx=>(x.ev T).refs:=by
 induction ps with
 | nil=>rfl
 | cons x ps ih=>simp only[List.map_cons,List.flatMap_cons,ih,Zu,zO]
theorem QRl{T:Nat->TV}(ps:List bD):(ps.map bD.er).map (aX.ev λs=>(T s).aA)=(ps.map λx=>x.ev T).map TV.aA:=by
 simp only[List.map_map];congr 1
 funext x
 exact Zu T x
theorem QNY{op:BinOp}{x y:TV}{e:TE}(he:qL op x y=some e)(hp:holds e.pre):∃ a b v,x.aA = .c (.v a)/\y.aA = .c (.v b)/\mH op a b=some v/\e.val.aA = .c (.v v)/\e.fS=[]:=by
 unfold qL at he
 split at he
 ·rename_i k x k' y;refine⟨.int k x,.int k' y,?_⟩
  cases op <;> simp only at he <;> first
   | (cases he;simp only[holds]at hp;exact⟨_,rfl,rfl,by simp only[mH];rw[if_neg (by omega)],rfl,rfl⟩)
   | (split at he <;> first
    | (cases he;done)
    | (rename_i hk;subst hk;first
     | (cases he;simp only[holds]at hp;exact⟨_,rfl,rfl,by simp only[mH,if_true];rw[if_neg hp],rfl,rfl⟩)
     | (cases he;exact⟨_,rfl,rfl,by simp only[mH,if_true],rfl,rfl⟩)
     | cases he))
 ·rename_i x y;refine⟨.string x,.string y,?_⟩
  cases op <;> simp only at he <;> first
   | (cases he;exact⟨_,rfl,rfl,by simp only[mH],rfl,rfl⟩)
   | cases he
 ·cases he
theorem wG:∀(ids:List Nat),(jI ids).map dK=iR ids
 | []=>rfl
 | id::ids=>by simp only[jI,iR,List.map_cons,dK,wG ids];rfl
theorem QRv{h:Nat->az}{id g i j:Nat}{x:TV}{p:Option Prop}(e:x.eG h id g i j=some p)(hp:holds p):x.aQ.eG (λi=>(h i).aA) id g i j=true:=by
 unfold TV.eG at e
 split at e
 ·rename_i t v;obtain⟨hf,_⟩:=QX e;obtain⟨v',iy⟩:=wD (x:=v) hf;simp only[TV.aQ,iy,AV.eG]
 ·rfl
 ·rename_i ts b7 off len;obtain⟨hf,_⟩:=QX e;simp only[TV.aQ,AV.eG,QIh];exact hf
 ·rename_i ts l b7 g' pt
  split at e
  ·rename_i i' j';obtain⟨hf,e⟩:=QX e
   cases e;simp only[Bool.and_eq_true]at hf;have hj:=Nat.eq_of_beq_eq_true hf.2;have hi:i'=i:=hp;subst hj;subst hi;simp only[TV.aQ,AV.eG,hf.1.1,hf.1.2,Bool.and_self,Bool.true_and,decide_eq_true_eq]
  ·cases e
 ·cases e
theorem Fx{h:Nat->az}{id g i:Nat}:∀ {xs:List TV} {j:Nat} {p:Option Prop},TV.dy h id g i j xs=some p->holds p->AV.dy (λi=>(h i).aA) id g i j (xs.map TV.aQ)=true
 | [],j,p,e,hp=>rfl
 | x::xs,j,p,e,hp=>by
  simp only[TV.dy]at e
  split at e
  ·rename_i P Q h1 h2
   cases e;obtain⟨eS,fg⟩:=nn hp;simp only[List.map_cons,AV.dy,QRv h1 eS,Fx h2 fg,Bool.and_self]
  ·cases e
theorem QP5{h:Nat->az}{id g i j:Nat}{x:TV}{p:Option Prop}(e:TV.dy h id g i j x.cells=some p):x.st=true:=by
 cases x with
 | u=>simp[TV.cells,TV.dy,TV.eG]at e
 | tp vs=>simp[TV.cells,TV.dy,TV.eG]at e
 | bx vs=>simp[TV.cells,TV.dy,TV.eG]at e
 | ow a b c d=>simp[TV.cells,TV.dy,TV.eG]at e
 | g b v=>simp[TV.cells,TV.dy,TV.eG]at e
 | _=>rfl
theorem RO{h:Nat->az}{b:Nat}{T:Nat->TV}:∀ {ps:List bD} {i:Nat} {p:Option Prop},zN h b T i ps=some p->holds p->gF (λi=>(h i).aA) b (aX.ev λs=>(T s).aA) i (ps.map bD.er)=true
 | [],i,p,e,hp=>rfl
 | x::r,i,p,e,hp=>by
  simp only[zN]at e
  split at e
  ·rename_i P Q h1 h2
   cases e;obtain⟨eS,fg⟩:=nn hp;have iN:=QP5 h1;simp only[List.map_cons,gF,Zu,wv iN,Fx h1 eS,RO h2 fg,Bool.and_self]
  ·cases e
theorem QVJ{T:Nat->TV}(ps:List bD):((ps.map bD.er).flatMap λx=>(aX.ev (λs=>(T s).aA) x).db)=ps.flatMap λx=>(x.ev T).db:=by
 induction ps with
 | nil=>rfl
 | cons x ps ih=>simp only[List.map_cons,List.flatMap_cons,ih,Zu,Fs]
theorem RP:∀(ts:List CT)(x:aS ts),ts.all CT.flat=true->(aV ts x).all D.pl=true
 | [],x,_=>by rw[aV];rfl
 | t::ts,x,h=>by
  rw[List.all_cons,Bool.and_eq_true]at h;rw[aV,List.all_cons,RP ts _ h.2,Bool.and_true];obtain⟨v,hv⟩:=wD (x:=hd ts x) h.1;rw[hv];rfl
theorem np{ts:List CT}{xs:List (aS ts)}(h:ts.all CT.flat=true):mG (xs.map (aV ts))=true:=by
 unfold mG;rw[List.all_map,List.all_eq_true];intro x _;exact RP ts x h
theorem wH{b:az}:b.kE=true↔∃ e sz g t H es,b.aA = .sl e sz (.dp g t H) es:=by
 cases b with
 | sl e ts m es =>
  cases m with
  | dp g t H=>exact⟨λ_=>⟨_,_,_,_,_,_,rfl⟩,λ_=>rfl⟩
  | _=>exact⟨λh=>(by cases h),λ⟨_,_,_,_,_,_,h⟩=>(by cases h)⟩
 | _=>exact⟨λh=>(by cases h),λ⟨_,_,_,_,_,_,h⟩=>(by cases h)⟩
theorem RQ{h:Nat->az}{ts:List CT}{xs:List (aS ts)}{x:TV}(hx:x.one=true)(e:x.iS h ts=true):x.aA.iS (λi=>(h i).aA) (xs.map (aV ts))=true:=by
 rw[qN hx]
 cases x with
 | r us id off len =>
  simp only[TV.iS,Bool.or_eq_true,Bool.not_eq_true']at e;simp only[TV.aQ,AV.iS]
  split
  ·rename_i hh
   rcases e with e | e
   ·rw[wH.2 ⟨_,_,_,_,_,_,hh⟩]at e;cases e
   ·exact np e
  ·rfl
 | bs us l id g p=>exact np e
 | _=>first | rfl | simp[TV.one]at hx
theorem RR{h:Nat->az}{id len:Nat}{ts:List CT}{xs:List (aS ts)}{x:TV}{p:Option Prop}(hx:x.one=true)(e:x.dH h id len ts=some p)(hp:holds p):x.aA.dH (λi=>(h i).aA) id len (xs.map (aV ts))=true:=by
 rw[qN hx]
 cases x with
 | r us idx off l =>
  simp only[TV.dH]at e
  cases hd:(h idx).kE with
  | true =>
   rw[hd]at e;obtain⟨_,_,_,_,_,_,hh⟩:=wH.1 hd;simp only[TV.aQ,AV.dH,hh]
   cases hb:Nat.beq idx id with
   | false=>simp
   | true =>
    simp only[cond_true,hb]at e
    cases e;have hp:len<=off:=hp;simp[Nat.ble_eq_true_of_le hp]
  | false =>
   rw[hd]at e;simp only[cond_false]at e;obtain⟨hf,_⟩:=QX e;simp only[TV.aQ,AV.dH]
   split
   ·rename_i hh;rw[wH.2 ⟨_,_,_,_,_,_,hh⟩]at hd;cases hd
   ·exact np hf
 | bs us l b7 g p =>
  simp only[TV.dH]at e;exact np (QX e).1
 | c t v =>
  simp only[TV.dH]at e;exact np (QX e).1
 | n us =>
  simp only[TV.dH]at e;exact np (QX e).1
 | p a b c =>
  simp only[TV.dH]at e;exact np (QX e).1
 | q a b c =>
  simp only[TV.dH]at e;exact np (QX e).1
 | bq a b c d f g i =>
  simp only[TV.dH]at e;exact np (QX e).1
 | _=>simp[TV.one]at hx
theorem QLH{h:Nat->az}{x:TV}(hx:x.one=true):x.aA.dc (λi=>(h i).aA)=x.dc h:=by
 rw[qN hx]
 cases x with
 | r us idx off l =>
  simp only[TV.aQ,AV.dc,TV.dc]
  cases hd:(h idx).kE with
  | true =>
   obtain⟨_,_,_,_,_,_,hh⟩:=wH.1 hd;rw[hh];rfl
  | false =>
   split
   ·rename_i hh;rw[wH.2 ⟨_,_,_,_,_,_,hh⟩]at hd;cases hd
   ·rfl
 | _=>first | rfl | simp[TV.one]at hx
theorem RS{id g i:Nat}:∀(ts:List CT)(x:aS ts)(j:Nat),(aS.cd id g i j ts x).map TV.aQ=cd id g i j (aV ts x)
 | [],x,j=>by rw[aV,aS.cd];rfl
 | t::ts,x,j=>by
  cases t <;> (rw[aV];simp only[aS.cd,enc,cd,List.map_cons,RS ts,TV.aQ])
theorem RT{id g i:Nat}{p:cD}:∀(ts:List CT)(x:aS ts)(j:Nat),(aS.bQ id g p i j ts x).map TV.aQ=bQ id g p i j (aV ts x)
 | [],x,j=>by rw[aV,aS.bQ];rfl
 | t::ts,x,j=>by
  cases t <;> (rw[aV];simp only[aS.bQ,enc,bQ,List.map_cons,RT ts,TV.aQ])
theorem QN2{m:Mo}{id i:Nat}(ts:List CT)(x:aS ts):(aS.cZ m id i ts x).map TV.aQ=cZ m id i 0 (aV ts x):=by
 cases m with
 | dp g t H=>exact RS ts x 0
 | _=>exact oN ts x
theorem RU{id g i:Nat}:∀(n j:Nat)(l:List D),(cd id g i j l).drop n=cd id g i (j+n) (l.drop n)
 | 0,j,l=>rfl
 | n+1,j,[]=>by simp[cd]
 | n+1,j,d::l=>by simp only[cd,List.drop_succ_cons];rw[RU n (j+1) l];congr 1;omega
theorem RV{id g i:Nat}:∀(n j:Nat)(l:List D),(cd id g i j l).take n=cd id g i j (l.take n)
 | 0,j,l=>by simp[cd]
 | n+1,j,[]=>by simp[cd]
 | n+1,j,d::l=>by simp only[cd,List.take_succ_cons];rw[RV n (j+1) l]
theorem RW{id g i:Nat}{p:cD}:∀(n j:Nat)(l:List D),(bQ id g p i j l).drop n=bQ id g p i (j+n) (l.drop n)
 | 0,j,l=>rfl
 | n+1,j,[]=>by simp[bQ]
 | n+1,j,d::l=>by simp only[bQ,List.drop_succ_cons];rw[RW n (j+1) l];congr 1;omega
theorem RX{id g i:Nat}{p:cD}:∀(n j:Nat)(l:List D),(bQ id g p i j l).take n=bQ id g p i j (l.take n)
 | 0,j,l=>by simp[bQ]
 | n+1,j,[]=>by simp[bQ]
 | n+1,j,d::l=>by simp only[bQ,List.take_succ_cons];rw[RX n (j+1) l]
theorem QQP{m:Mo}{id i j n:Nat}{l:List D}{c:List AV}(h:cut (cZ m id i 0 l) j n=some c):∃ l',cut l j n=some l'/\c=cZ m id i j l':=by
 unfold cut at h
 split at h
 rotate_left
 ·cases h
 rename_i hle
 cases h;rw[OG]at hle;refine⟨_,if_pos hle,?_⟩
 cases m with
 | dp g t H=>simp only[cZ];rw[RU,RV,Nat.zero_add]
 | _=>simp only[cZ,List.map_take,List.map_drop]
theorem QVp{id g i j n:Nat}{p:cD}{l:List D}{c:List AV}(h:cut (bQ id g p i 0 l) j n=some c):∃ l',cut l j n=some l'/\c=bQ id g p i j l':=by
 unfold cut at h
 split at h
 rotate_left
 ·cases h
 rename_i hle
 cases h;rw[DQ]at hle;exact⟨_,if_pos hle,by rw[RW,RX,Nat.zero_add]⟩
end Go.Proofs.YtdplaepmjogjjaaGreat.Am
namespace Go.Proofs.YtdplaepmjogjjaaGreat.Am
open Go Go.RowKit
structure iG(Γ:aF)(ΓA:ez):Prop where
 md:∀ f row,Jm Γ.rows f=some row->ΓA.md f=gq row.sg
 fn:∀ f row vs pre r,Jm Γ.rows f=some row->ZW row.sg vs=true->row.fn vs=some (pre,r)->holds pre->ΓA f (vs.map TV.aA)=some r.aA
 dp:ΓA.dp=Γ.dp
theorem tB{ts:List CT}{l:List (aS ts)}{i:Nat}(h:i<l.length):l[i]? = some (gt ts l i):=by
 unfold gt;rw[List.getElem?_eq_getElem h,List.getD_eq_getElem?_getD,List.getElem?_eq_getElem h];rfl
theorem RY{x:TV}(h:x.st=true):x.ck=x.aA:=by cases x <;> first | rfl | simp[TV.st,TV.one]at h
theorem Fy{h:Nat->aR}:∀(xs ys:List AV)(ds:List D),AV.ds h (xs++ys)=some ds->∃ d1 d2,AV.ds h xs=some d1/\AV.ds h ys=some d2/\ds=d1++d2
 | [],ys,ds,e=>⟨[],ds,rfl,e,rfl⟩
 | x::xs,ys,ds,e=>by
  simp only[List.cons_append,AV.ds]at e
  split at e
  rotate_left
  ·cases e
  rename_i a b ha hb;simp only[Option.some.injEq]at e;subst e;obtain⟨d1,d2,h1,h2,h3⟩:=Fy xs ys b hb;exact⟨a::d1,d2,by simp only[AV.ds,ha,h1],h2,by rw[h3];rfl⟩
theorem RZ{h:Nat->aR}:∀(ds:List D),AV.ds h (ds.map AV.c)=some ds
 | []=>rfl
 | d::ds=>by simp only[List.map_cons,AV.ds,AV.d,RZ ds]
theorem FA{h:Nat->aR}{l:List D}{j:Nat}{xs:List AV}{r:List D}(e:AV.ds h (bw (l.map AV.c) j xs)=some r)(_hj:j+xs.length<=l.length) :
  ∃ ds,AV.ds h xs=some ds/\r=bw l j ds:=by
 unfold bw at e;rw[<- List.map_take,<- List.map_drop]at e;obtain⟨d1,d2,h1,h2,rfl⟩:=Fy _ _ _ e;obtain⟨d3,d4,h3,h4,rfl⟩:=Fy _ _ _ h1;rw[RZ]at h2 h3
 cases h2
 cases h3;refine⟨d4,h4,?_⟩;unfold bw;rw[(AV.dW h4).1]
section
variable {Γ:aF} {ΓA:ez} (hΓ:iG Γ ΓA) {T:Nat->TV} {h:Nat->az} {b:Nat}
def TE.aA(e:TE):fi:=⟨e.val.aA,e.fS.map dK⟩
theorem QRd{m:Mo}{id i j n:Nat}{ts:List CT}{x:aS ts}{l:List TV}(h:iF (aS.cZ m id i ts x) j n=some l):∃ l',cut (aV ts x) j n=some l'/\l.map TV.aQ=cZ m id i j l':=by
 have h2:=wB h;rw[QN2]at h2;exact QQP h2
theorem QIq{id g i j n:Nat}{p:cD}{ts:List CT}{x:aS ts}{l:List TV}(h:iF (aS.bQ id g p i 0 ts x) j n=some l):∃ l',cut (aV ts x) j n=some l'/\l.map TV.aQ=bQ id g p i j l':=by
 have h2:=wB h;rw[RT]at h2;exact QVp h2
theorem R0{x:bD}{n:Nat}{agg:Bool}{e:TE}(he:Zl Γ T h b (.load x n agg)=some e)(hp:holds e.pre):Qw ΓA (aX.ev λs=>(T s).aA) (λi=>(h i).aA) b (d6.er (.load x n agg))=some e.aA:=by
 simp only[Zl]at he;simp only[d6.er,Qw,Zu]
 split at he
 ·rename_i id i j hx;rw[hx];show(match(h id).aA with
   | .box cs=>_
   | .sl _ _ m es=>_
   | _=>_)=_
  split at he
  ·rename_i cs hh;rw[hh]
   split at he
   ·split at he
    ·rename_i l hl
     split at he
     ·rename_i v hv
      cases he;have:=wC hv;simp only[az.bH,az.eL,if_true,wB hl,this];rfl
     ·cases he
    ·cases he
   ·cases he
  ·rename_i e' ts m es hh;rw[hh];obtain⟨hf,he⟩:=QX he
   split at he
   ·rename_i l hl
    split at he
    ·rename_i v hv
     cases he;simp only[holds]at hp;have h1:=tB hp;have:=wC hv;obtain⟨l',k1,k2⟩:=QRd hl;rw[k2]at this;simp only[az.bH,az.eL,List.getElem?_map,h1,Option.map_some,k1,this,hf,if_true];rfl
    ·cases he
   ·cases he
  ·cases he
 ·rename_i ts x' j id g p i hx;rw[hx];obtain⟨FB,he⟩:=QX he
  split at he
  ·rename_i l hl
   split at he
   ·rename_i v hv
    cases he;have:=wC hv;obtain⟨l',k1,k2⟩:=QIq hl;rw[k2]at this;simp only[TV.aA,TV.ck,TV.aQ,qO FB,if_true,k1,this];rfl
   ·cases he
  ·cases he
 ·rename_i ts x' j hx;rw[hx]
  split at he
  ·rename_i l hl
   split at he
   ·rename_i v hv
    cases he;have:=wC hv;have h2:=wB hl;rw[oN]at h2;unfold cut at h2
    split at h2
    rotate_left
    ·cases h2
    rename_i hle;simp only[Option.some.injEq]at h2;simp only[List.length_map]at hle;simp only[TV.aA,TV.ck,TV.aQ,cut,hle,if_true];rw[<- h2]at this;simp only[List.map_drop,List.map_take];rw[this];rfl
   ·cases he
  ·cases he
 ·cases he
theorem QHR{x v:bD}{n:Nat}{e:TE}(he:Zl Γ T h b (.store x v n)=some e)(hp:holds e.pre) :
  Qw ΓA (aX.ev λs=>(T s).aA) (λi=>(h i).aA) b (d6.er (.store x v n))=some e.aA:=by
 simp only[Zl]at he;obtain⟨q,he⟩:=QX he;simp only[Bool.and_eq_true]at q;obtain⟨q1,q2⟩:=q;have q1:=Nat.eq_of_beq_eq_true q1;simp only[d6.er,Qw,Zu,wv q2,List.length_map,q1,Fp q2,and_self,if_true]
 split at he
 rotate_left
 ·cases he
 rename_i id i j hx;rw[hx];show(match(h id).aA with
  | .box cs=>_
  | .sl e sz .ow es=>_
  | .sl e sz (.dp g t []) es=>_
  | _=>_)=_
 split at he
 ·rename_i cs hh;rw[hh]
  split at he
  ·obtain⟨q3,he⟩:=QX he
   cases he;have q3:=Nat.le_of_ble_eq_true q3;simp only[az.bH,az.eL,List.length_map,q3,and_self,if_true,<- wz];rfl
  ·cases he
 ·rename_i e' ts es hh;rw[hh]
  split at he
  rotate_left
  ·cases he
  rename_i y hy;obtain⟨q3,he⟩:=QX he
  cases he;simp only[Bool.and_eq_true,Bool.not_eq_true']at q3;obtain⟨q3,q4⟩:=q3;have q3:=Nat.le_of_ble_eq_true q3;have q4:id∉(v.ev T).refs:=by simpa using q4
  simp only[holds]at hp;have h1:=tB hp;obtain⟨h2,h3⟩:=tz ts _ y hy;rw[wz,oN]at h2;obtain⟨ds,h5,h6⟩:=FA h2 (by simp[qP,q1,q3]);simp only[az.bH,az.eL,List.getElem?_map,h1,Option.map_some,h5,qP,q3,zO,q4,not_false_eq_true,and_self,if_true];simp only[TE.aA,List.map_cons,dK,zP,az.bH,az.eL,h6,List.map_set];rfl
 ·rename_i e' ts g t es hh;rw[hh]
  split at he
  rotate_left
  ·cases he
  rename_i y hy
  split at he
  rotate_left
  ·cases he
  rename_i q hq;obtain⟨q3,he⟩:=QX he
  cases he;simp only[Bool.and_eq_true]at q3;obtain⟨q3,q4⟩:=q3;have q3:=Nat.le_of_ble_eq_true q3;have q4:=wE q4;obtain⟨eS,fg⟩:=nn hp;simp only[holds]at eS;have h1:=tB eS;obtain⟨h2,h3⟩:=tz ts _ y hy;rw[wz,oN]at h2;obtain⟨ds,h5,h6⟩:=FA h2 (by simp[qP,q1,q3]);simp only[az.bH,az.eL,List.getElem?_map,h1,Option.map_some,h5,qP,q3,Fx hq fg,Fs,q4,and_self,if_true];simp only[TE.aA,List.map_cons,dK,wG,az.bH,az.eL,h6,List.map_set];rfl
 ·cases he
theorem QHO{x i:bD}{ts:List CT}{e:TE}(he:Zl Γ T h b (.js x i ts)=some e)(hp:holds e.pre) :
  Qw ΓA (aX.ev λs=>(T s).aA) (λi=>(h i).aA) b (d6.er (.js x i ts))=some e.aA:=by
 simp only[Zl]at he;simp only[d6.er,Qw,Zu]
 split at he
 rotate_left
 ·cases he
 rename_i k n hi;rw[hi]
 split at he
 ·rename_i b4 l hx;obtain⟨q,eH⟩:=QX he;clear he;obtain rfl:=CT.bS _ _ q
  cases eH;simp only[holds]at hp;rw[hx];have h1:=tB (ts:=b4) (l:=l) hp.2;show(if(0:Int)<=n then(if b4.length=b4.length then(match(List.map (aV b4) l)[n.toNat]? with | some e=>some (⟨AV.q e 0,[]⟩:fi) | none=>none) else none) else none)=_;rw[if_pos hp.1,if_pos rfl,List.getElem?_map,h1];rfl
 ·rename_i b4 id off len hx;obtain⟨q,eH⟩:=QX he;clear he;simp only[Bool.and_eq_true]at q;obtain rfl:=CT.bS _ _ q.1
  cases eH;simp only[holds]at hp;rw[hx];show(if(0:Int)<=n then(if b4.length=b4.length/\n.toNat<len/\((h id).aA).alive=true then some (⟨AV.p id (off+n.toNat) 0,[]⟩:fi) else none) else none)=_;rw[if_pos hp.1,wA,if_pos ⟨rfl,hp.2,q.2⟩];rfl
 ·rename_i b4 l id g p hx;obtain⟨q,eH⟩:=QX he;clear he;simp only[Bool.and_eq_true]at q;obtain rfl:=CT.bS _ _ q.1
  cases eH;simp only[holds]at hp;rw[hx];have h1:=tB (ts:=b4) (l:=l) hp.2;show(if(0:Int)<=n then(if b4.length=b4.length/\((h id).aA).dn=some g then(match(List.map (aV b4) l)[n.toNat]? with | some e=>some (⟨AV.bq e 0 id g p n.toNat,[]⟩:fi) | none=>none) else none) else none)=_;rw[if_pos hp.1,if_pos ⟨rfl,qO q.2⟩,List.getElem?_map,h1];rfl
 ·cases he
theorem QO3{x:bD}{lo hi:Option bD}{ts:List CT}{e:TE}(he:Zl Γ T h b (.fB x lo hi ts)=some e)(hp:holds e.pre) :
  Qw ΓA (aX.ev λs=>(T s).aA) (λi=>(h i).aA) b (d6.er (.fB x lo hi ts))=some e.aA:=by
 simp only[Zl]at he;simp only[d6.er,Qw,Zu]
 split at he
 rotate_left
 ·cases he
 rename_i l0 g8;rw[zQ g8]
 split at he
 ·rename_i b4 l hx
  split at he
  rotate_left
  ·cases he
  rename_i h0 jx;obtain⟨q,eH⟩:=QX he;clear he;obtain rfl:=CT.bS _ _ q
  cases eH;simp only[holds]at hp;rw[hx];have jx:=zQ jx;show(match Yg (aX.ev λs=>(T s).aA) ((List.map (aV b4) l).length:Int) (oI hi) with
   | some hi=>if b4.length=b4.length/\0<=l0/\l0<=hi/\hi<=(List.map (aV b4) l).length then some (⟨AV.c (.sl b4.length (((List.map (aV b4) l).drop l0.toNat).take (hi.toNat-l0.toNat))),[]⟩:fi) else none
   | none=>none)=_
  rw[List.length_map,jx];simp only;rw[if_pos ⟨trivial,hp.1,hp.2.1,hp.2.2⟩,<- List.map_drop,<- List.map_take];rfl
 ·rename_i b4 id off len hx
  split at he
  rotate_left
  ·cases he
  rename_i h0 jx;obtain⟨q,eH⟩:=QX he;clear he;simp only[Bool.and_eq_true]at q;obtain rfl:=CT.bS _ _ q.1
  cases eH;simp only[holds]at hp;rw[hx];have jx:=zQ jx;show(match Yg (aX.ev λs=>(T s).aA) (len:Int) (oI hi) with
   | some hi=>if b4.length=b4.length/\0<=l0/\l0<=hi/\hi<=len/\((h id).aA).alive=true then some (⟨AV.r b4.length id (off+l0.toNat) (hi.toNat-l0.toNat),[]⟩:fi) else none
   | none=>none)=_
  rw[jx];simp only;rw[wA,if_pos ⟨trivial,hp.1,hp.2.1,hp.2.2,q.2⟩];rfl
 ·rename_i b4 hx
  split at he
  rotate_left
  ·cases he
  rename_i h0 jx
  cases he;simp only[holds]at hp;rw[hx];have jx:=zQ jx;show(match Yg (aX.ev λs=>(T s).aA) 0 (oI hi) with
   | some hi=>if l0=0/\hi=0 then some (⟨AV.n ts.length,[]⟩:fi) else none
   | none=>none)=_
  rw[jx];simp only;rw[if_pos hp];rfl
 ·cases he
include hΓ in
theorem QX6{s x:bD}{e0:TypeId}{ts:List CT}{e:TE}(he:Zl Γ T h b (.app s x e0 ts)=some e)(hp:holds e.pre) :
  Qw ΓA (aX.ev λs=>(T s).aA) (λi=>(h i).aA) b (d6.er (.app s x e0 ts))=some e.aA:=by
 simp only[Zl]at he;simp only[d6.er,Qw,Zu,hΓ.dp]
 split at he
 rotate_left
 ·cases he
 rename_i xs hx;have h3:=QFF (t:=.sl ts) hx;have h1:(x.ev T).aA.fo (λi=>(h i).aA) ts.length=some (xs.map (aV ts)):=by
  have h2:=Rw (t:=.sl ts) hx;rw[qN h3]
  cases hv:x.ev T with
  | c t y =>
   rw[hv]at h2;simp only[TV.aQ,AV.d,Option.some.injEq]at h2;simp only[TV.aQ,AV.fo,h2,enc,if_true]
  | n b4 =>
   rw[hv]at h2;simp only[TV.aQ,AV.d,Option.some.injEq,enc,D.sl.injEq]at h2;simp only[TV.aQ,AV.fo,<- h2.2]
  | r b4 id off len =>
   rw[hv]at h2 hx;simp only[TV.aQ,AV.d]at h2;simp only[TV.aQ,AV.fo]
   cases hh:h id with
   | sl e iP m es =>
    rw[hh]at h2;simp only[az.bH]at h2
    split at h2
    rotate_left
    ·cases h2
    rename_i hf;simp only[Option.some.injEq,enc,D.sl.injEq]at h2;simp only[az.bH,h2.1,h2.2,hf,and_self,if_true]
   | none=>rw[hh]at h2;cases h2
   | dead=>rw[hh]at h2;cases h2
   | box cs=>rw[hh]at h2;cases h2
  | bs b4 l id g p =>
   rw[hv]at h2;simp only[TV.aQ,AV.d]at h2
   split at h2
   rotate_left
   ·cases h2
   rename_i hf;simp only[Option.some.injEq,enc,D.sl.injEq]at h2;simp only[TV.aQ,AV.fo,h2.1,h2.2,hf,and_self,if_true]
  | _=>rw[hv]at h3;simp[TV.one]at h3 <;> (rw[hv]at hx;simp[TV.eD]at hx)
 rw[h1];simp only;have oO:=QLH (h:=h) h3
 split at he
 ·rename_i b4 hs;rw[hs]
  split at he
  ·rename_i iW
   split at he
   rotate_left
   ·cases he
   rename_i q hq
   cases he;obtain⟨eS,fg⟩:=nn hp;simp only[holds]at eS;show(if(xs.map (aV ts)).length<=ca then(if Γ.dp=true then(if((x.ev T).aA.dH (λi=>(h i).aA) b 0 (xs.map (aV ts)))=true then some (⟨.r ts.length b 0 (xs.map (aV ts)).length,iR ((x.ev T).aA.dc (λi=>(h i).aA))++[(b,.sl e0 ts.length (.dp 0 true []) (xs.map (aV ts)))]⟩:fi) else none) else _) else none)=_;rw[List.length_map,if_pos eS,if_pos iW,if_pos (RR h3 hq fg),oO];simp only[TE.aA,List.map_append,wG];rfl
  ·rename_i iW;obtain⟨cH,he⟩:=QX he
   cases he;simp only[holds]at hp;show(if(xs.map (aV ts)).length<=ca then(if Γ.dp=true then _ else if((x.ev T).aA.iS (λi=>(h i).aA) (xs.map (aV ts)))=true then some (⟨.r ts.length b 0 (xs.map (aV ts)).length,[(b,.sl e0 ts.length .ow (xs.map (aV ts)))]⟩:fi) else none) else none)=_;rw[List.length_map,if_pos hp,if_neg (by rw[iW];simp),if_pos (RQ h3 cH)];rfl
 ·rename_i b4 id len hs;rw[hs]
  split at he
  ·rename_i e' iP es hh
   split at he
   rotate_left
   ·cases he
   rename_i q;obtain rfl:=CT.bS _ _ q;obtain⟨q2,he⟩:=QX he;simp only[Bool.and_eq_true]at q2;obtain⟨q2,q3⟩:=q2;have q2:=Nat.eq_of_beq_eq_true q2;subst q2
   cases he;simp only[holds]at hp;show(match(h id).aA with
    | .sl e2 bc .ow es=>if e2=e'/\bc=iP.length/\(len=es.length\/len+(xs.map (aV iP)).length<=es.length)/\len+(xs.map (aV iP)).length<=ca/\((x.ev T).aA.iS (λi=>(h i).aA) (xs.map (aV iP)))=true then
      some (⟨.r iP.length b 0 (len+(xs.map (aV iP)).length),[(id,.dead),(b,.sl e' iP.length .ow (es.take len++xs.map (aV iP)))]⟩:fi) else none
    | .sl e2 bc (.dp _ true []) es=>_
    | _=>none)=_
   rw[hh];simp only[az.bH];rw[if_pos ⟨trivial,trivial,by simpa using hp.1,by simpa using hp.2,RQ h3 q3⟩,<- List.map_take,<- List.map_append,List.length_map];rfl
  ·rename_i e' iP g es hh
   split at he
   rotate_left
   ·cases he
   rename_i q;obtain rfl:=CT.bS _ _ q;obtain⟨q2,he⟩:=QX he;have q2:=Nat.eq_of_beq_eq_true q2;subst q2
   split at he
   rotate_left
   ·cases he
   rename_i q3 wI
   cases he;obtain⟨eS,fg⟩:=nn hp;simp only[holds]at eS;show(match(h id).aA with
    | .sl e2 bc .ow es=>_
    | .sl e2 bc (.dp _ true []) es=>if e2=e'/\bc=iP.length/\(len=es.length\/len+(xs.map (aV iP)).length<=es.length)/\len+(xs.map (aV iP)).length<=ca/\((x.ev T).aA.dH (λi=>(h i).aA) id len (xs.map (aV iP)))=true then
      some (⟨.r iP.length b 0 (len+(xs.map (aV iP)).length),(id,aR.dead)::iR ((x.ev T).aA.dc (λi=>(h i).aA))++[(b,aR.sl e' iP.length (.dp 0 true []) (es.take len++xs.map (aV iP)))]⟩:fi) else none
    | _=>none)=_
   rw[hh];simp only[az.bH];rw[if_pos ⟨trivial,trivial,by simpa using eS.1,by simpa using eS.2,RR h3 wI fg⟩,<- List.map_take,<- List.map_append,List.length_map,oO];simp only[TE.aA,List.map_append,List.map_cons,List.map_nil,List.cons_append,wG,dK,az.jb,az.bH,TV.aA,TV.ck,TV.aQ,Fo]
  ·cases he
 ·cases he
theorem QKM{x:TV}(h:qM x=true):ir x.aA=true/\x.aA=x.aQ:=by
 cases x with
 | c t v =>
  obtain⟨v',iy⟩:=wD (x:=v) h;refine⟨?_,rfl⟩;simp only[TV.aA,TV.ck,TV.aQ,iy,ir]
 | _=>simp[qM]at h
theorem QHS{ms:List AM}{xs:List TV}{id g i j:Nat}{r:List TV}(h:Fl ms xs=some (id,g,i,j,r)):pS ms (xs.map TV.aA)=some (id,g,i,j,r.map TV.aA)/\∃ ts l,xs = .bs ts l id g [(i,j)]::r:=by
 unfold Fl at h
 split at h
 rotate_left
 ·cases h
 split at h
 ·rename_i ej
  cases h;refine⟨?_,_,_,rfl⟩;simp only[List.map_cons,TV.aA,TV.ck,TV.aQ,pS,ej,if_true]
 ·cases h
theorem QIN{h:Nat->az}{ms:List AM}{xs ys:List TV}{p:Option Prop}(hm:oK h ms xs=some (p,ys)):pS ms (xs.map TV.aA)=none:=by
 cases ms with
 | nil=>rfl
 | cons m ms =>
  cases xs with
  | nil=>cases m <;> rfl
  | cons x xs =>
   cases m with
   | p =>
    simp only[oK,zI]at hm
    split at hm
    rotate_left
    ·cases hm
    rename_i p1 d q ds h1 h2;unfold zH at h1
    split at h1
    ·rfl
    ·rfl
    ·cases h1
   | _=>rfl
theorem QOw{α:Type}{l:List α}{j:Nat}{a:α}(h:j<l.length):bw l j [a]=l.set j a:=by
 have hg:=mP (l:=l) (xs:=[a]) (j:=j) (by simp;omega);apply List.ext_getElem?;intro k;rw[hg k,List.getElem?_set];by_cases h1:k<j
 ·rw[if_pos h1,if_neg (by omega)]
 ·rw[if_neg h1];by_cases h2:j=k
  ·subst h2;simp[h]
  ·rw[if_neg (by simp;omega),if_neg h2]
include hΓ in
theorem QPJ{f:FuncId}{X:List TV}{row:aI}(jJ:Jm Γ.rows f=some row){e:TE}(he:Fm Γ h b f X row=some e)(hp:holds e.pre) :
  pS (gq row.sg) (X.map TV.aA)=none/\u1 ΓA (λi=>(h i).aA) b f (X.map TV.aA)=some e.aA:=by
 unfold Fm at he
 split at he
 rotate_left
 ·cases he
 rename_i p0 vs qm;refine⟨QIN qm,?_⟩;obtain⟨q,he⟩:=QX he
 split at he
 rotate_left
 ·cases he
 rename_i pre r hr;obtain⟨q2,he⟩:=QX he
 cases he;obtain⟨gH,hp⟩:=nn hp;simp only[Bool.and_eq_true]at q2;obtain⟨⟨⟨⟨q3,q4⟩,q5⟩,q6⟩,q7⟩:=q2;have q3:=Nat.le_of_ble_eq_true q3;have h0:=hΓ.md f row jJ;have h1:=RG qm gH;have h2:=hΓ.fn f row vs pre r jJ q hr hp;unfold u1;simp only[h0,RH,RI,QJw,QPp];simp only[h1,h2,aB.aA];have q4':(((r.bx.map (·.map TV.aQ)).isEmpty&&(r.gv.map az.aA).isEmpty)||r.al)=true:=by rw[List.isEmpty_map,List.isEmpty_map];exact q4
 rw[if_pos ⟨by rw[List.length_map];exact q3,q4',wE q5,wE q6,RJ q7⟩];simp only[TE.aA,List.map_append,Fw,RB,RC,RD];congr 3
 split
 ·exact(zP h _).symm
 ·rfl
include hΓ in
theorem QFE{f:FuncId}{id g i j:Nat}{rest:List TV}{e:TE}(he:Fk Γ h b f id g i j rest=some e)(hp:holds e.pre) :
  u0 ΓA (λi=>(h i).aA) b f id g i j (rest.map TV.aA)=some e.aA:=by
 unfold Fk at he
 split at he
 rotate_left
 ·cases he
 rename_i e0 ts g0 t es hh
 split at he
 rotate_left
 ·cases he
 rename_i us l di
 split at he
 rotate_left
 ·cases he
 rename_i row jJ;obtain⟨q,he⟩:=QX he;simp only[Bool.and_eq_true,Bool.not_eq_true']at q;obtain⟨⟨⟨q1,q2⟩,q3⟩,q4⟩:=q;have q2:=Nat.eq_of_beq_eq_true q2;subst q2
 split at he
 rotate_left
 ·cases he
 rename_i pre v al e1 lN g1 t1 eO hr
 split at he
 rotate_left
 ·cases he
 rename_i x' oG;obtain⟨q5,eH⟩:=QX he;clear he;obtain rfl:=CT.bS _ _ q5
 cases eH;obtain⟨eS,fg⟩:=nn hp;have eS:i<es.length:=eS;have h1:=tB eS;have h2:=hΓ.fn f row _ pre _ jJ q1 hr fg;have R1:(aV ts (gt ts es i))[j]? = some (.sl lN.length (l.map (aV lN))):=by
  have:=congrArg (λz=>z[j]?) (oN ts (gt ts es i));simp only[List.getElem?_map,di,Option.map_some,TV.aQ]at this
  cases hx:(aV ts (gt ts es i))[j]? with
  | none=>rw[hx]at this;cases this
  | some d=>rw[hx]at this;simp only[Option.map_some,Option.some.injEq,AV.c.injEq]at this;rw[<- this];rw[enc]
 have mf:j<(aV ts (gt ts es i)).length:=(List.getElem?_eq_some_iff.1 R1).1;obtain⟨h3,_⟩:=tz ts _ x' oG;rw[wz,oN]at h3;obtain⟨ds,h5,h6⟩:=FA h3 (by simp;omega);simp only[List.map_cons,List.map_nil,TV.aQ,AV.ds,AV.d,Option.some.injEq]at h5;subst h5;rw[QOw mf]at h6;have bU:(rest.map TV.aA).all ir=true:=by
  rw[List.all_map,List.all_eq_true];intro y hy;exact(QKM (List.all_eq_true.1 q3 y hy)).1
 have hus:0<lN.length:=by
  cases lN with
  | nil=>cases q4
  | cons=>simp
 unfold u0;have hhe:(λi=>(h i).aA) id = .sl e0 ts.length (.dp g0 t []) (es.map (aV ts)):=by show(h id).aA=_;rw[hh];rfl
 simp only[hhe,List.getElem?_map,h1,Option.map_some,R1];have kA:ΓA f (AV.ow 0 lN.length dw (l.map (aV lN))::rest.map TV.aA)=some ⟨v.aA,[],[],al,[.sl e1 lN.length (.dp g1 t1 []) (eO.map (aV lN))]⟩:=h2;simp only[kA,hus,bU,and_self,if_true];simp only[TE.aA,Fw,List.map_cons,List.map_nil,dK,az.bH,List.map_set,h6,enc];rfl
include hΓ in
theorem QX2{f:FuncId}{args:List bD}{e:TE}(he:Zl Γ T h b (.call f args)=some e)(hp:holds e.pre) :
  Qw ΓA (aX.ev λs=>(T s).aA) (λi=>(h i).aA) b (d6.er (.call f args))=some e.aA:=by
 simp only[Zl]at he
 split at he
 rotate_left
 ·cases he
 rename_i row jJ;have h0:=hΓ.md f row jJ;simp only[d6.er,Qw,QRl,h0]
 split at he
 ·rename_i id g i j r hn;obtain⟨k1,_⟩:=QHS hn;rw[k1];exact QFE hΓ he hp
 ·obtain⟨k1,k2⟩:=QPJ hΓ jJ he hp;rw[k1];exact k2
include hΓ in
theorem FC{op:d6}{e:TE}(he:Zl Γ T h b op=some e)(hp:holds e.pre):Qw ΓA (aX.ev λs=>(T s).aA) (λi=>(h i).aA) b op.er=some e.aA:=by
 cases op with
 | load x n agg=>exact R0 he hp
 | store x v n=>exact QHR he hp
 | js x i ts=>exact QHO he hp
 | fB x lo hi ts=>exact QO3 he hp
 | app s x e ts=>exact QX6 hΓ he hp
 | call f args=>exact QX2 hΓ he hp
 | eG x=>simp only[Zl]at he;cases he;simp only[d6.er,Qw,Zu];rfl
 | pick c x y =>
  simp only[Zl]at he;simp only[d6.er,Qw,Zu]
  split at he
  ·rename_i cb xb yb hc hx hy
   cases he;rw[hc,hx,hy]
   cases cb <;> rfl
  ·cases he
 | bin op x y =>
  simp only[Zl]at he;simp only[d6.er,Qw,Zu];obtain⟨a,c,v,h1,h2,h3,h4,h5⟩:=QNY he hp;rw[h1,h2];simp only[h3,TE.aA,h4,h5,List.map_nil]
 | gE n g x y =>
  simp only[Zl]at he;simp only[d6.er,Qw,Zu]
  split at he
  rotate_left
  ·cases he
  rename_i xs ys hx hy
  split at he
  rotate_left
  ·cases he
  rename_i l m hl hm;obtain⟨q,he⟩:=QX he
  cases he;simp only[Bool.and_eq_true]at q;rw[hx,hy];simp only[TV.aA,TV.ck,Fu hl,Fu hm];rw[if_pos ⟨Nat.eq_of_beq_eq_true q.1,Nat.eq_of_beq_eq_true q.2⟩]
  cases g <;> rfl
 | ic g x y =>
  simp only[Zl]at he;simp only[d6.er,Qw,Zu]
  split at he
  ·rename_i xb yb hx hy
   cases he;rw[hx,hy]
   cases g <;> rfl
  ·cases he
 | not x =>
  simp only[Zl]at he;simp only[d6.er,Qw,Zu]
  split at he
  ·rename_i xb hx
   cases he;rw[hx];rfl
  ·cases he
 | neg x =>
  simp only[Zl]at he;simp only[d6.er,Qw,Zu]
  split at he
  ·rename_i k n hx
   cases he;rw[hx];rfl
  ·cases he
 | new t zs=>simp only[Zl]at he;cases he;rfl
 | box t x n =>
  simp only[Zl]at he;simp only[d6.er,Qw,Zu];obtain⟨q,he⟩:=QX he
  cases he;simp only[Bool.and_eq_true]at q;simp only[wv q.2,List.length_map,Nat.eq_of_beq_eq_true q.1,Fp q.2,and_self,if_true];rfl
 | kl x off =>
  simp only[Zl]at he;simp only[d6.er,Qw,Zu]
  split at he
  ·rename_i id i j hx;obtain⟨q,he⟩:=QX he
   cases he;rw[hx];show(if((h id).aA).alive=true then some (⟨AV.p id i (j+off),[]⟩:fi) else none)=_;rw[wA,if_pos q];rfl
  ·rename_i ts y j hx
   cases he;rw[hx];rfl
  ·rename_i ts y j id g p i hx;obtain⟨q,he⟩:=QX he
   cases he;rw[hx];show(if((h id).aA).dn=some g then some (⟨.bq (aV ts y) (j+off) id g p i,[]⟩:fi) else none)=_;rw[if_pos (qO q)];rfl
  ·cases he
 | kS x off n agg =>
  simp only[Zl]at he;simp only[d6.er,Qw,Zu]
  split at he
  rotate_left
  ·cases he
  rename_i cs hx
  split at he
  rotate_left
  ·cases he
  rename_i l hl
  split at he
  rotate_left
  ·cases he
  rename_i v hv
  cases he;rw[hx];simp only[TV.aA,TV.ck,wB hl,wC hv];rfl
 | build zs ps =>
  simp only[Zl]at he;simp only[d6.er,Qw]
  split at he
  ·rename_i cs dI
   cases he;rw[RK dI];rfl
  ·cases he
 | bW t ts ps =>
  simp only[Zl]at he;simp only[d6.er,Qw,hΓ.dp]
  split at he
  rotate_left
  ·cases he
  rename_i es gi;rw[RN gi]
  split at he
  ·rename_i iW
   split at he
   rotate_left
   ·cases he
   rename_i q hq;obtain⟨q2,he⟩:=QX he
   cases he;simp only[iW,if_true,QVJ,RO hq hp,wE q2,and_self];simp only[TE.aA,List.map_cons,dK,wG,az.bH,List.length_map];rfl
  ·rename_i iW
   cases he;simp only[iW,Bool.false_eq_true,if_false];simp only[TE.aA,List.map_cons,dK,zP,QVB,az.bH,List.length_map];rfl
 | mk t ts zs n =>
  simp only[Zl]at he;simp only[d6.er,Qw,Zu,hΓ.dp]
  split at he
  rotate_left
  ·cases he
  rename_i k m z hn hz;obtain⟨q,he⟩:=QX he
  cases he;simp only[holds]at hp;obtain⟨h1,h2⟩:=tz ts _ _ hz;have gz:Γ.dp=true->(aV ts z).all D.pl=true:=by
   intro hd;rw[hd]at q;simp only[Bool.not_true,Bool.false_or]at q;rw[List.all_eq_true];intro d hd;obtain⟨i,hi⟩:=List.getElem?_of_mem hd;have cn:=AV.dW h1;have tC:i<(zs.map TV.aQ).length:=by rw[<- cn.1];exact(List.getElem?_eq_some_iff.1 hi).1
   obtain⟨d',h5,h6⟩:=cn.2 i _ (List.getElem?_eq_getElem tC);rw[hi]at h5
   cases h5;have FD:(zs[i]'(by simpa using tC)).pl=true:=List.all_eq_true.1 q _ (List.getElem_mem _);simp only[List.getElem_map]at h6;generalize zs[i]'(by simpa using tC)=y at FD h6
   cases y with
   | c t v =>
    obtain⟨v',iy⟩:=wD (x:=v) FD;simp only[TV.aQ,AV.d,iy,Option.some.injEq]at h6;subst h6;rfl
   | n ts =>
    simp only[TV.aQ,AV.d,Option.some.injEq]at h6;subst h6;rfl
   | _=>simp[TV.pl]at FD
  rw[hn,h1];show(if(0:Int)<=m/\m<=ca/\(aV ts z).length=ts.length/\(Γ.dp=true->(aV ts z).all D.pl=true) then some (⟨.r ts.length b 0 m.toNat,[(b,.sl t ts.length (if Γ.dp=true then .dp 0 true [] else .ow) (List.replicate m.toNat (aV ts z)))]⟩:fi) else none)=_;rw[if_pos ⟨hp.1,hp.2,qP _ _,gz⟩];simp only[TE.aA,List.map_cons,dK,az.bH,List.map_nil,List.map_replicate]
  cases Γ.dp <;> rfl
 | len x =>
  simp only[Zl]at he;simp only[d6.er,Qw,Zu]
  split at he
  ·rename_i ts l hx
   cases he;rw[hx];show some (⟨.c (.v (.int .i64 ((List.map (aV ts) l).length:Int))),[]⟩:fi)=_;rw[List.length_map];rfl
  ·rename_i ts hx
   cases he;rw[hx];rfl
  ·rename_i ts id off len hx;obtain⟨q,he⟩:=QX he
   cases he;rw[hx];show(if((h id).aA).alive=true then some (⟨.c (.v (.int .i64 (len:Int))),[]⟩:fi) else none)=_;rw[wA,if_pos q];rfl
  ·rename_i ts l id g p hx;obtain⟨q,he⟩:=QX he
   cases he;rw[hx];show(if((h id).aA).dn=some g then some (⟨.c (.v (.int .i64 ((l.map (aV ts)).length:Int))),[]⟩:fi) else none)=_;rw[if_pos (qO q),List.length_map];rfl
  ·cases he
 | mm mx x y =>
  simp only[Zl]at he;simp only[d6.er,Qw,Zu]
  split at he
  ·rename_i k xb k' yb hx hy
   cases he;rw[hx,hy]
   cases mx <;> rfl
  ·cases he
 | ext x i =>
  simp only[Zl]at he;simp only[d6.er,Qw,Zu]
  split at he
  rotate_left
  ·cases he
  rename_i vs hx
  split at he
  rotate_left
  ·cases he
  rename_i v hv;obtain⟨q,he⟩:=QX he
  cases he;rw[hx];show(match(vs.map TV.ck)[i]? with | some v=>some (⟨v,[]⟩:fi) | none=>none)=_;rw[List.getElem?_map,hv];simp only[Option.map_some,TE.aA,RY q,List.map_nil]
 | conv k x =>
  simp only[Zl]at he;simp only[d6.er,Qw,Zu]
  split at he
  ·rename_i k' n hx
   cases he;rw[hx];rfl
  ·cases he
 | f9 x =>
  simp only[Zl]at he;simp only[d6.er,Qw,Zu]
  split at he
  ·rename_i id i j hx;obtain⟨q,he⟩:=QX he
   cases he;rw[hx];show(if((h id).aA).alive=true then some (⟨AV.p id i j,[]⟩:fi) else none)=_;rw[wA,if_pos q];rfl
  ·rename_i ts y j hx
   cases he;rw[hx];rfl
  ·rename_i ts y j id g p i hx;obtain⟨q,he⟩:=QX he
   cases he;rw[hx];show(if((h id).aA).dn=some g then some (⟨.bq (aV ts y) j id g p i,[]⟩:fi) else none)=_;rw[if_pos (qO q)];rfl
  ·cases he
end
end Go.Proofs.YtdplaepmjogjjaaGreat.Am
namespace Go.Proofs.YtdplaepmjogjjaaGreat.Am
open Go Go.RowKit
inductive bA where
 | op (d:Option Nat) (o:d6)
 | bt (s:Nat) (w:Bool) (ss:List bA) (d:Nat) (x:bD)
 | gw (s:Nat) (w:Bool) (ss:List bA) (d2:Nat) (o:d6) (d:Nat) (x:bD)
mutual
def bA.len:bA->Nat
 | .op _ _=>1
 | .bt _ _ ss _ _=>cU ss+1
 | .gw _ _ ss _ _ _ _=>cU ss+2
def cU:List bA->Nat
 | []=>0
 | x::xs=>x.len+cU xs
end
def YF(w:Bool)(s:Nat)(x:bD):d6:=if w then .pick (.s s) x (.k (.c .bool false)) else .pick (.s s) (.k (.c .bool true)) x
mutual
def bA.er(g:Option (Nat × Bool))(i:Nat):bA->List AO
 | .op d o=>[⟨d,o.er,g,16*i⟩]
 | .bt s w ss d x=>ik (some (s,w)) i ss++[⟨some d,(YF w s x).er,g,16*(i+cU ss)⟩]
 | .gw s w ss d2 o d x=>ik (some (s,w)) i ss++[⟨some d2,o.er,some (s,w),16*(i+cU ss)⟩,⟨some d,(YF w s x).er,g,16*(i+(cU ss+1))⟩]
def ik(g:Option (Nat × Bool))(i:Nat):List bA->List AO
 | []=>[]
 | x::xs=>x.er g i++ik g (i+x.len) xs
end
mutual
def bA.fI:bA->List Nat
 | .op (some d) _=>[d]
 | .op none _=>[]
 | .bt _ _ ss d _=>Q9 ss++[d]
 | .gw _ _ ss d2 _ d _=>Q9 ss++[d2]++[d]
def Q9:List bA->List Nat
 | []=>[]
 | x::xs=>x.fI++Q9 xs
end
mutual
def bA.lO:bA->List Nat->Bool
 | .op (some _) _,_=>true
 | .op none _,_=>false
 | .bt s _ ss _ _,ds=>ds.elem s&&!((Q9 ss).elem s)&&nq ss ds
 | .gw _ _ _ _ _ _ _,_=>false
def nq:List bA->List Nat->Bool
 | [],_=>true
 | x::r,ds=>x.lO ds&&nq r (x.fI++ds)
end
def qQ:Option Prop->Option Prop->Option Prop
 | none,q=>q
 | some p,none=>some p
 | some p,some q=>some (p/\q)
def nr(b:Bool):Option Prop->Option Prop
 | none=>none
 | some p=>some (b=true->p)
def tD(g:Bool)(t1:Nat->TV):List Nat->List (Nat × TV)->List (Nat × TV)
 | [],t=>t
 | d::ds,t=>(d,.g g (t1 d))::tD g t1 ds t
abbrev Log:=List (List Nat × List Nat)
mutual
def bA.fJ(Γ:aF)(h:List (Nat × az))(nx i:Nat):bA->List (Nat × TV)->Option (Option Prop × List (Nat × TV) × Log)
 | .op d o,t=>match Zl Γ (cG t) (dv h) (nx+16*i) o with
  | some ⟨pre,v,[]⟩=>match d with
   | some d=>some (pre,(d,v)::t,[(acc (aX.ev λs=>(cG t s).aA) o.er,[])])
   | none=>none
  | _=>none
 | .bt s w ss d x,t=>match cG t s with
  | .c .bool b=>bif nq ss []&&!((Q9 ss).elem s) then(match Y6 Γ h nx i ss t with
   | some (p,t1,l)=>match x.ev (cG t1) with
    | .c .bool v=>some (nr (dZ w b (!b)) p,(d,.c .bool (dZ w (b&&v) (b||v)))::tD (dZ w b (!b)) (cG t1) (Q9 ss) t,l++[([],[])])
    | _=>none
   | none=>none) else none
  | _=>none
 | .gw _ _ _ _ _ _ _,_=>none
def Y6(Γ:aF)(h:List (Nat × az))(nx i:Nat):List bA->List (Nat × TV)->Option (Option Prop × List (Nat × TV) × Log)
 | [],t=>some (none,t,[])
 | x::xs,t=>match x.fJ Γ h nx i t with
  | some (p,t1,l)=>match Y6 Γ h nx (i+x.len) xs t1 with
   | some (q,t2,m)=>some (qQ p q,t2,l++m)
   | none=>none
  | none=>none
end
def cq.app(σ:cq)(d:Option Nat)(v:TV)(bl:List (Nat × az)):cq :=
 ⟨match d with | some d=>(d,v)::σ.t | none=>σ.t,bl.reverse++σ.h,σ.nx⟩
def wJ(g:Bool):TV->TV->Option TV
 | .c t x,.c t' y=>if e:t'.beq t=true then some (.c t (cond g x (zF e y))) else none
 | _,_=>none
def Ju(g:Bool):List TV->List TV->Option (List TV)
 | [],[]=>some []
 | x::xs,y::ys=>match wJ g x y with
  | some z=>match Ju g xs ys with
   | some zs=>some (z::zs)
   | none=>none
  | none=>none
 | _,_=>none
def YT(g:Bool)(h:List (Nat × az)):List (Nat × az)->Option (List (Nat × az))
 | []=>some []
 | (i,.box cs)::r=>match dv h i with
  | .box fX=>match Ju g cs fX with
   | some zs=>match YT g h r with
    | some r'=>some ((i,.box zs)::r')
    | none=>none
   | none=>none
  | _=>none
 | _::_=>none
def FE(Γ:aF)(i s:Nat)(w:Bool)(ss:List bA)(d2:Nat)(o:d6)(d:Nat)(x:bD)(σ:cq):Option (Option Prop × cq × Log) :=
 match cG σ.t s with
 | .c .bool b=>bif (nq ss []&&!((Q9 ss).elem s))&&!(Nat.beq s d2) then(match Y6 Γ σ.h σ.nx i ss σ.t with
  | some (p,t1,l)=>match Zl Γ (cG t1) (dv σ.h) (σ.nx+16*(i+cU ss)) o with
   | some ⟨pre,v,bl⟩=>match YT (dZ w b (!b)) σ.h bl with
    | some il=>match x.ev (cG ((d2,v)::t1)) with
     | .c .bool xv=>some (nr (dZ w b (!b)) (qQ p pre),⟨(d,.c .bool (dZ w (b&&xv) (b||xv)))::tD (dZ w b (!b)) (cG ((d2,v)::t1)) (Q9 ss++[d2]) σ.t,il.reverse++σ.h,σ.nx⟩,
       l++[(acc (aX.ev λs=>(cG t1 s).aA) o.er,bl.map Prod.fst),([],[])])
     | _=>none
    | none=>none
   | none=>none
  | none=>none) else none
 | _=>none
def ia(Γ:aF):Nat->List bA->cq->Option (Option Prop × cq × Log)
 | _,[],σ=>some (none,σ,[])
 | i,.op d o::r,σ=>match Zl Γ σ.T σ.H (σ.nx+16*i) o with
  | some ⟨pre,v,bl⟩=>match ia Γ (i+1) r (σ.app d v bl) with
   | some (q,σ',m)=>some (qQ pre q,σ',(acc (aX.ev λs=>(σ.T s).aA) o.er,bl.map Prod.fst)::m)
   | none=>none
  | none=>none
 | i,.bt s w ss d x::r,σ=>match(bA.bt s w ss d x).fJ Γ σ.h σ.nx i σ.t with
  | some (p,t1,l)=>match ia Γ (i+(cU ss+1)) r ⟨t1,σ.h,σ.nx⟩ with
   | some (q,σ',m)=>some (qQ p q,σ',l++m)
   | none=>none
  | none=>none
 | i,.gw s w ss d2 o d x::r,σ=>match FE Γ i s w ss d2 o d x σ with
  | some (p,σ1,l)=>match ia Γ (i+(cU ss+2)) r σ1 with
   | some (q,σ',m)=>some (qQ p q,σ',l++m)
   | none=>none
  | none=>none
theorem wK{p q:Option Prop}:holds (qQ p q)↔holds p/\holds q:=by
 cases p <;> cases q <;> simp[qQ,holds]
theorem R2{b:Bool}{p:Option Prop}:holds (nr b p)↔(b=true->holds p):=by
 cases p <;> simp[nr,holds]
theorem FF{j d:Nat}(h:¬ j=d):Nat.beq j d=false:=by
 cases hb:Nat.beq j d with
 | true=>exact absurd (Nat.eq_of_beq_eq_true hb) h
 | false=>rfl
theorem Ja(d:Nat)(v:TV)(t:List (Nat × TV)):cG ((d,v)::t)=bI (cG t) d v:=by
 funext j
 simp only[cG,bI];by_cases h:j=d
 ·subst h;simp
 ·rw[if_neg h,FF h];rfl
theorem qR(d:Nat)(v:az)(t:List (Nat × az)):dv ((d,v)::t)=bI (dv t) d v:=by
 funext j
 simp only[dv,bI];by_cases h:j=d
 ·subst h;simp
 ·rw[if_neg h,FF h];rfl
theorem QG6(T:Nat->TV)(d:Nat)(v:TV):(λs=>(bI T d v s).aA)=bI (λs=>(T s).aA) d v.aA:=by
 funext s;simp only[bI];split <;> rfl
theorem QRO(T:Nat->az)(d:Nat)(v:az):(λs=>(bI T d v s).aA)=bI (λs=>(T s).aA) d v.aA:=by
 funext s;simp only[bI];split <;> rfl
theorem FG:∀(bl:List (Nat × az))(h:List (Nat × az)),(λi=>(dv (bl.reverse++h) i).aA)=bp (λi=>(dv h i).aA) (bl.map dK)
 | [],h=>rfl
 | (d,v)::bl,h=>by
  rw[List.reverse_cons,List.append_assoc,List.singleton_append,FG bl ((d,v)::h),List.map_cons,dK,bp,qR,QRO]
theorem FH(σ:cq)(d:Option Nat)(v:TV)(bl:List (Nat × az)):(σ.app d v bl).aA=σ.aA.app d ⟨v.aA,bl.map dK⟩:=by
 unfold cq.app cq.aA St.app cq.T cq.H;simp only[FG,cN]
 cases d with
 | none=>rfl
 | some d=>simp only[Ja,QG6]
theorem R3(bl:List (Nat × az)):keys (bl.map dK)=bl.map Prod.fst:=by
 simp[keys,dK,List.map_map,Function.comp_def]
theorem J4{Γ:ez}:∀(l m:List AO)(σ:St),ZD Γ (l++m) σ=match ZD Γ l σ with
  | some (σ',a)=>match ZD Γ m σ' with
   | some (σ'',b)=>some (σ'',a++b)
   | none=>none
  | none=>none
 | [],m,σ=>by
  simp only[List.nil_append,ZD]
  cases ZD Γ m σ with
  | none=>rfl
  | some x=>obtain⟨a,b⟩:=x;rfl
 | o::l,m,σ=>by
  simp only[List.cons_append,ZD]
  cases Zt Γ o σ with
  | none=>rfl
  | some x =>
   obtain⟨σ',a,w⟩:=x;simp only[J4 l m σ']
   cases ZD Γ l σ' with
   | none=>rfl
   | some x =>
    obtain⟨σ2,b⟩:=x;simp only
    cases ZD Γ m σ2 with
    | none=>rfl
    | some y=>obtain⟨σ3,c⟩:=y;rfl
def mu(t:Nat->AV)(s:Nat)(w:Bool):Prop:=t s = .t []\/∃ c,t s = .c (.v (.bool c))/\c≠w
def cE(ds:List Nat)(t:Nat->AV):Nat->AV:=λj=>if j∈ds then .t [] else t j
theorem FI{Γ:ez}{d:Option Nat}{op:ea}{s:Nat}{w:Bool}{off:Nat}{σ:St}(h:mu σ.t s w) :
  Zt Γ ⟨d,op,some (s,w),off⟩ σ=some (⟨cN σ.t d (.t []),σ.h,σ.nx⟩,[],[]):=by
 unfold Zt
 rcases h with h | ⟨c,h,hc⟩
 ·simp only[h]
 ·simp only[h,if_neg hc]
theorem zR(a b:List Nat)(t:Nat->AV):cE (a++b) t=cE b (cE a t):=by
 funext j
 simp only[cE,List.mem_append];by_cases h1:j∈b
 ·simp[h1]
 ·by_cases h2:j∈a <;> simp[h1,h2]
theorem wL(d:Nat)(t:Nat->AV):bI t d (.t [])=cE [d] t:=by
 funext j
 simp only[cE,bI,List.mem_singleton]
theorem mu.cE{t:Nat->AV}{s:Nat}{w:Bool}(h:mu t s w)(ds:List Nat)(hs:s∉ds):mu (cE ds t) s w:=by
 have:Am.cE ds t s=t s:=by simp[Am.cE,hs]
 unfold mu;rw[this];exact h
theorem wM{Γ:ez}{h:Nat->aR}{nx:Nat}:∀(ss:List bA)(ds:List Nat)(i s:Nat)(w:Bool)(t:Nat->AV),nq ss ds=true->(∀ d,d∈ds->t d = .t [])->mu t s w->s∉Q9 ss->
  ∃ l:Log,ZD Γ (ik (some (s,w)) i ss) ⟨t,h,nx⟩=some (⟨cE (Q9 ss) t,h,nx⟩,l)/\l.length=cU ss/\∀ x,x∈l->x=([],[])
 | [],ds,i,s,w,t,hk,cn,ho,hs=>by
  refine⟨[],?_,rfl,by simp⟩;show some (_,_)=_;have:cE [] t=t:=by funext j;simp[cE]
  rw[Q9,this]
 | .op (some d) o::r,ds,i,s,w,t,hk,cn,ho,hs=>by
  simp only[nq,bA.lO,bA.fI,List.singleton_append,Bool.true_and]at hk;simp only[Q9,bA.fI,List.mem_append,not_or,List.mem_singleton]at hs;have iQ:mu (bI t d (.t [])) s w:=by rw[wL];exact ho.cE [d] (by simpa using hs.1)
  obtain⟨l,h1,h2,h3⟩:=wM (Γ:=Γ) (h:=h) (nx:=nx) r (d::ds) (i+1) s w (bI t d (.t [])) hk (λd' dC=>by
   simp only[bI]
   split
   ·rfl
   ·rename_i dM
    rcases List.mem_cons.1 dC with rfl | dC
    ·exact absurd rfl dM
    ·exact cn d' dC) iQ hs.2
  refine⟨([],[])::l,?_,by simp[cU,bA.len,h2,Nat.add_comm],by simpa using h3⟩;simp only[ik,bA.er,bA.len,List.singleton_append,ZD,FI (σ:=⟨t,h,nx⟩) ho,cN,h1,Q9,bA.fI];rw[wL,<- zR];rfl
 | .bt s2 w2 ss d x::r,ds,i,s,w,t,hk,cn,ho,hs=>by
  simp only[nq,bA.lO,bA.fI,Bool.and_eq_true,Bool.not_eq_true']at hk;obtain⟨⟨⟨k1,k2⟩,k3⟩,k4⟩:=hk;have k1:s2∈ds:=by simpa using k1
  have k2:s2∉Q9 ss:=by simpa using k2
  simp only[Q9,bA.fI,List.mem_append,not_or,List.mem_singleton]at hs;obtain⟨l1,h1,h2,h3⟩:=wM (Γ:=Γ) (h:=h) (nx:=nx) ss ds i s2 w2 t k3 cn (.inl (cn s2 k1)) k2;have mY:mu (cE (Q9 ss) t) s w:=ho.cE _ hs.1.1;have oh:mu (bI (cE (Q9 ss) t) d (.t [])) s w:=by rw[wL];exact mY.cE [d] (by simpa using hs.1.2)
  obtain⟨l2,h4,h5,h6⟩:=wM (Γ:=Γ) (h:=h) (nx:=nx) r ((Q9 ss++[d])++ds) (i+(cU ss+1)) s w (bI (cE (Q9 ss) t) d (.t [])) k4 (λd' dC=>by
   simp only[bI]
   split
   ·rfl
   ·rename_i dM;simp only[cE]
    split
    ·rfl
    ·rename_i hn;simp only[List.mem_append,List.mem_singleton]at dC
     rcases dC with(dC | dC) | dC
     ·exact absurd dC hn
     ·exact absurd dC dM
     ·exact cn d' dC) oh hs.2
  refine⟨l1++[([],[])]++l2,?_,by simp[cU,bA.len,h2,h5];omega,λy hy=>?_⟩
  ·simp only[ik,bA.er,bA.len,List.append_assoc,J4,h1,List.singleton_append,ZD,FI (σ:=⟨cE (Q9 ss) t,h,nx⟩) mY,cN,h4,Q9,bA.fI];rw[wL,<- zR,<- zR];rfl
  ·rcases List.mem_append.1 hy with hy | hy
   ·rcases List.mem_append.1 hy with hy | hy
    ·exact h3 y hy
    ·simpa using hy
   ·exact h6 y hy
 | .op none o::r,ds,i,s,w,t,hk,cn,ho,hs=>by simp[nq,bA.lO]at hk
 | .gw _ _ _ _ _ _ _::r,ds,i,s,w,t,hk,cn,ho,hs=>by simp[nq,bA.lO]at hk
theorem tE(g:Bool)(t1:Nat->TV):∀(ds:List Nat)(t:List (Nat × TV))(j:Nat),cG (tD g t1 ds t) j=if j∈ds then .g g (t1 j) else cG t j
 | [],t,j=>by simp[tD]
 | d::ds,t,j=>by
  simp only[tD,Ja,bI];by_cases h:j=d
  ·subst h;simp
  ·rw[if_neg h,tE g t1 ds t j];simp[h]
mutual
theorem R4{Γ:aF}{h:List (Nat × az)}{nx:Nat}:∀(x:bA){i:Nat}{t t1:List (Nat × TV)}{p:Option Prop}{l:Log},x.fJ Γ h nx i t=some (p,t1,l)->∀ j,j∉x.fI->cG t1 j=cG t j
 | .op d o,i,t,t1,p,l,e,j,hj=>by
  rw[bA.fJ]at e
  split at e
  ·split at e
   ·cases e
    simp only[bA.fI,List.mem_singleton]at hj
    rw[Ja]
    simp[bI,hj]
   ·cases e
  ·cases e
 | .bt s w ss d x,i,t,t1,p,l,e,j,hj=>by
  rw[bA.fJ]at e
  split at e
  rotate_left
  ·cases e
  obtain⟨_,e⟩:=QX e
  split at e
  rotate_left
  ·cases e
  split at e
  rotate_left
  ·cases e
  cases e
  simp only[bA.fI,List.mem_append,List.mem_singleton,not_or]at hj
  rw[Ja]
  simp only[bI,hj.2,if_false]
  rw[tE,if_neg hj.1]
 | .gw _ _ _ _ _ _ _,i,t,t1,p,l,e,j,hj=>by rw[bA.fJ]at e;cases e
theorem FJ{Γ:aF}{h:List (Nat × az)}{nx:Nat}:∀(ss:List bA){i:Nat}{t t1:List (Nat × TV)}{p:Option Prop}{l:Log},Y6 Γ h nx i ss t=some (p,t1,l)->∀ j,j∉Q9 ss->cG t1 j=cG t j
 | [],i,t,t1,p,l,e,j,hj=>by rw[Y6]at e;cases e;rfl
 | x::xs,i,t,t1,p,l,e,j,hj=>by
  rw[Y6]at e
  split at e
  rotate_left
  ·cases e
  rename_i h1
  split at e
  rotate_left
  ·cases e
  rename_i h2
  cases e
  simp only[Q9,List.mem_append,not_or]at hj
  rw[FJ xs h2 j hj.2,R4 x h1 j hj.1]
end
def YD(l' l:List (List Nat × List Nat)):Prop:=l'.length=l.length/\∀(k:Nat)(a:List Nat × List Nat),l'[k]? = some a->a=([],[])\/l[k]? = some a
theorem YD.refl(l:Log):YD l l:=⟨rfl,λ_ _ h=>.inr h⟩
theorem YD.off{l' l:Log}(h:l'.length=l.length)(h2:∀ x,x∈l'->x=([],[])):YD l' l:=⟨h,λ_ a ha=>.inl (h2 a (List.mem_of_getElem? ha))⟩
theorem YD.append{a a' b b':Log}(h:YD a' a)(h2:YD b' b):YD (a'++b') (a++b):=by
 refine⟨by simp[h.1,h2.1],λk x hk=>?_⟩;rw[List.getElem?_append]at hk ⊢;rw[h.1]at hk
 split at hk
 ·rename_i aW;rw[if_pos aW];exact(h.2 k x hk)
 ·rename_i aW;rw[if_neg aW];exact(h2.2 _ x hk)
theorem QQl{l' l:Log}{U:List (Nat × Nat)}(h:YD l' l)(hn:sU l U=true):sU l' U=true:=by
 unfold sU at hn ⊢;rw[List.all_eq_true]at hn ⊢;rintro⟨i,j⟩ qA
 have:=hn (i,j) qA;simp only at this ⊢
 split
 rotate_left
 ·rfl
 rename_i a w a' w' h1 h2
 rcases h.2 i _ h1 with e1 | e1
 ·cases e1;simp[JH]
 ·rcases h.2 j _ h2 with e2 | e2
  ·cases e2;simp[JH]
  ·rw[e1,e2]at this;exact this
mutual
theorem QHV{Γ:aF}{h:List (Nat × az)}{nx:Nat}:∀(x:bA){i:Nat}{t t1:List (Nat × TV)}{p:Option Prop}{l:Log},x.fJ Γ h nx i t=some (p,t1,l)->l.length=x.len
 | .op d o,i,t,t1,p,l,e=>by
  rw[bA.fJ]at e
  split at e
  ·split at e
   ·cases e;rfl
   ·cases e
  ·cases e
 | .bt s w ss d x,i,t,t1,p,l,e=>by
  rw[bA.fJ]at e
  split at e
  rotate_left
  ·cases e
  obtain⟨_,e⟩:=QX e
  split at e
  rotate_left
  ·cases e
  rename_i hr
  split at e
  rotate_left
  ·cases e
  cases e
  simp[bA.len,FK ss hr]
 | .gw _ _ _ _ _ _ _,i,t,t1,p,l,e=>by rw[bA.fJ]at e;cases e
theorem FK{Γ:aF}{h:List (Nat × az)}{nx:Nat}:∀(ss:List bA){i:Nat}{t t1:List (Nat × TV)}{p:Option Prop}{l:Log},Y6 Γ h nx i ss t=some (p,t1,l)->l.length=cU ss
 | [],i,t,t1,p,l,e=>by rw[Y6]at e;cases e;rfl
 | x::xs,i,t,t1,p,l,e=>by
  rw[Y6]at e
  split at e
  rotate_left
  ·cases e
  rename_i h1
  split at e
  rotate_left
  ·cases e
  rename_i h2
  cases e
  simp[cU,QHV x h1,FK xs h2]
end
theorem R5{Γ:aF}{h:List (Nat × az)}{nx:Nat}{ss:List bA}{i:Nat}{t t1:List (Nat × TV)}{p:Option Prop}{l:Log}(e:Y6 Γ h nx i ss t=some (p,t1,l)):l.length=cU ss:=FK ss e
section
variable {Γ:aF} {ΓA:ez} (hΓ:iG Γ ΓA) {h:List (Nat × az)} {nx:Nat}
def qS(g:Option (Nat × Bool))(t:List (Nat × TV)):Prop:=match g with
 | none=>True
 | some (s,w)=>cG t s = .c .bool w
def jc(g:Option (Nat × Bool))(ds:List Nat):Prop:=match g with
 | none=>True
 | some (s,_)=>s∉ds
theorem qS.next{g:Option (Nat × Bool)}{t t1:List (Nat × TV)}{ds:List Nat}(h:qS g t)(ho:jc g ds)(hk:∀ j,j∉ds->cG t1 j=cG t j):qS g t1:=by
 cases g with
 | none=>trivial
 | some x=>obtain⟨s,w⟩:=x;exact(hk s ho).trans h
theorem wN{op:ea}{d:Option Nat}{g:Option (Nat × Bool)}{off:Nat}{t:List (Nat × TV)}(hg:qS g t) :
  Zt ΓA ⟨d,op,g,off⟩ (cq.aA ⟨t,h,nx⟩)=match Qw ΓA (aX.ev λs=>(cG t s).aA) (λi=>(dv h i).aA) (nx+off) op with
   | some e=>some ((cq.aA ⟨t,h,nx⟩).app d e,acc (aX.ev λs=>(cG t s).aA) op,keys e.fS)
   | none=>none:=by
 unfold Zt
 cases g with
 | none=>rfl
 | some x =>
  obtain⟨s,w⟩:=x;have:(cq.aA ⟨t,h,nx⟩).t s = .c (.v (.bool w)):=by
   show(cG t s).aA=_;rw[show cG t s = .c .bool w from hg];rfl
  simp only[this,if_true];rfl
include hΓ in
mutual
theorem R6:∀(x:bA){i:Nat}{g:Option (Nat × Bool)}{t t1:List (Nat × TV)}{p:Option Prop}{l:Log},x.fJ Γ h nx i t=some (p,t1,l)->holds p->qS g t->jc g x.fI->
  ∃ l',ZD ΓA (x.er g i) (cq.aA ⟨t,h,nx⟩)=some (cq.aA ⟨t1,h,nx⟩,l')/\YD l' l
 | .op d o,i,g,t,t1,p,l,e,hp,hg,ho=>by
  rw[bA.fJ]at e
  split at e
  rotate_left
  ·cases e
  rename_i pre v he
  split at e
  rotate_left
  ·cases e
  rename_i d
  cases e;have h1:=FC hΓ he hp;refine⟨[(acc (aX.ev λs=>(cG t s).aA) o.er,[])],?_,.refl _⟩;simp only[bA.er,ZD,wN (ΓA:=ΓA) hg,h1,TE.aA,List.map_nil,keys];congr 2
  have:=FH ⟨t,h,nx⟩ (some d) v [];simp only[List.map_nil]at this;exact this.symm
 | .bt s w ss d x,i,g,t,t1,p,l,e,hp,hg,ho=>by
  rw[bA.fJ]at e
  split at e
  rotate_left
  ·cases e
  rename_i b hb;obtain⟨q,e⟩:=QX e;simp only[Bool.and_eq_true,Bool.not_eq_true']at q;have q2:s∉Q9 ss:=by simpa using q.2
  split at e
  rotate_left
  ·cases e
  rename_i p' t1 l1 hr
  split at e
  rotate_left
  ·cases e
  rename_i v hv
  cases e;have mY:jc g (Q9 ss):=by
   cases g with
   | none=>trivial
   | some y=>obtain⟨sg,wg⟩:=y;simp only[jc,bA.fI,List.mem_append,not_or]at ho ⊢;exact ho.1
  have da:=FJ ss hr;rw[R2]at hp;by_cases j4:(dZ w b (!b))=true
  ·have kY:b=w:=by cases b <;> cases w <;> simp[dZ]at j4 ⊢
   obtain⟨l',h1,h2⟩:=FL ss (g:=some (s,w)) hr (hp j4) (by show cG t s=_;rw[hb,kY]) q2;have kW:qS g t1:=hg.next mY da;have mr:cG t1 s = .c .bool b:=by rw[da s q2,hb]
   refine⟨l'++[(acc (aX.ev λs=>(cG t1 s).aA) (YF w s x).er,[])],?_,h2.append ⟨rfl,λk a ha=>?_⟩⟩
   ·simp only[bA.er,J4,h1,ZD,wN (ΓA:=ΓA) kW];have hd:Qw ΓA (aX.ev λs=>(cG t1 s).aA) (λi=>(dv h i).aA) (nx+16*(i+cU ss)) (YF w s x).er=some ⟨.c (.v (.bool (dZ w (b&&v) (b||v)))),[]⟩:=by
     subst kY;have e1:(bD.s s).ev (cG t1) = .c .bool b:=mr
     cases b
     ·simp only[YF,Bool.false_eq_true,if_false,d6.er,Qw,Zu,e1,hv];rfl
     ·simp only[YF,if_true,d6.er,Qw,Zu,e1,hv];rfl
    simp only[hd,keys,List.map_nil];congr 2
    rw[j4];unfold St.app cq.aA cq.T cq.H;simp only[cN,bp];congr 1
    funext j
    rw[Ja,bI,bI]
    split
    ·rfl
    ·rw[tE]
     split
     ·rfl
     ·rename_i hj;rw[da j hj]
   ·cases k with
    | zero =>
     left;simp only[List.getElem?_cons_zero,Option.some.injEq]at ha;rw[<- ha]
     cases w <;> rfl
    | succ k=>simp at ha
  ·have ns:(dZ w b (!b))=false:=by simpa using j4
   have kY:b≠w:=by rintro rfl;cases b <;> simp[dZ]at j4
   obtain⟨l',h1,h2,h3⟩:=wM (Γ:=ΓA) (h:=λi=>(dv h i).aA) (nx:=nx) ss [] i s w (λs=>(cG t s).aA) q.1 (by simp) (.inr ⟨b,by show(cG t s).aA=_;rw[hb];rfl,kY⟩) q2;have qz:∀ s',s'∉Q9 ss->cE (Q9 ss) (λs=>(cG t s).aA) s'=(cG t s').aA:=λs' EZ=>by simp[cE,EZ]
   have lK:∀ op,Zt ΓA ⟨some d,op,g,16*(i+cU ss)⟩ ⟨cE (Q9 ss) (λs=>(cG t s).aA),λi=>(dv h i).aA,nx⟩=match Qw ΓA (aX.ev (cE (Q9 ss) λs=>(cG t s).aA)) (λi=>(dv h i).aA) (nx+16*(i+cU ss)) op with
     | some e=>some (St.app ⟨cE (Q9 ss) (λs=>(cG t s).aA),λi=>(dv h i).aA,nx⟩ (some d) e,acc (aX.ev (cE (Q9 ss) λs=>(cG t s).aA)) op,keys e.fS)
     | none=>none:=by
    intro op;unfold Zt
    cases g with
    | none=>rfl
    | some y =>
     obtain⟨sg,wg⟩:=y;have:cE (Q9 ss) (λs=>(cG t s).aA) sg = .c (.v (.bool wg)):=by
      rw[qz sg mY,show cG t sg = .c .bool wg from hg];rfl
     simp only[this,if_true];rfl
   refine⟨l'++[([],[])],?_,(YD.off (by rw[h2,R5 hr]) h3).append (.refl _)⟩;simp only[bA.er,J4];rw[show cq.aA ⟨t,h,nx⟩=⟨λs=>(cG t s).aA,λi=>(dv h i).aA,nx⟩ from rfl,h1];simp only[ZD,lK];have hd:Qw ΓA (aX.ev (cE (Q9 ss) λs=>(cG t s).aA)) (λi=>(dv h i).aA) (nx+16*(i+cU ss)) (YF w s x).er=some ⟨.c (.v (.bool (dZ w (b&&v) (b||v)))),[]⟩:=by
    have mr:cE (Q9 ss) (λs=>(cG t s).aA) s = .c (.v (.bool b)):=by rw[qz s q2,hb];rfl
    cases w <;> cases b <;> first
     | exact absurd rfl kY
     | (simp only[YF,Bool.false_eq_true,if_false,if_true,d6.er,Qw,bD.er,aX.ev,mr];rfl)
   simp only[hd,keys,List.map_nil];have nt:acc (aX.ev (cE (Q9 ss) λs=>(cG t s).aA)) (YF w s x).er=[]:=by cases w <;> rfl
   rw[nt,ns];congr 2
   unfold St.app cq.aA cq.T cq.H;simp only[cN,bp];congr 1
   funext j
   rw[Ja,bI,bI]
   split
   ·rfl
   ·rw[tE];simp only[cE]
    split
    ·rfl
    ·rfl
 | .gw _ _ _ _ _ _ _,i,g,t,t1,p,l,e,hp,hg,ho=>by rw[bA.fJ]at e;cases e
theorem FL:∀(ss:List bA){i:Nat}{g:Option (Nat × Bool)}{t t1:List (Nat × TV)}{p:Option Prop}{l:Log},Y6 Γ h nx i ss t=some (p,t1,l)->holds p->qS g t->jc g (Q9 ss)->
  ∃ l',ZD ΓA (ik g i ss) (cq.aA ⟨t,h,nx⟩)=some (cq.aA ⟨t1,h,nx⟩,l')/\YD l' l
 | [],i,g,t,t1,p,l,e,hp,hg,ho=>by rw[Y6]at e;cases e;exact⟨[],rfl,.refl _⟩
 | x::xs,i,g,t,t1,p,l,e,hp,hg,ho=>by
  rw[Y6]at e
  split at e
  rotate_left
  ·cases e
  rename_i p1 t2 l1 h1
  split at e
  rotate_left
  ·cases e
  rename_i p2 t3 l2 h2
  cases e;rw[wK]at hp;have iQ:jc g x.fI/\jc g (Q9 xs):=by
   cases g with
   | none=>exact⟨trivial,trivial⟩
   | some y=>obtain⟨sg,wg⟩:=y;simp only[jc,Q9,List.mem_append,not_or]at ho ⊢;exact ho
  obtain⟨wO,h3,h4⟩:=R6 x h1 hp.1 hg iQ.1;obtain⟨l2',h5,h6⟩:=FL xs h2 hp.2 (hg.next iQ.1 (R4 x h1)) iQ.2;exact⟨wO++l2',by simp only[ik,J4,h3,h5],h4.append h6⟩
end
theorem QF6{x y z:TV}(e:wJ true x y=some z):z=x:=by
 unfold wJ at e
 split at e
 ·split at e
  ·cases e;rfl
  ·cases e
 ·cases e
theorem R7:∀ {x y z:List TV},Ju true x y=some z->z=x
 | [],[],z,e=>by simp only[Ju]at e;cases e;rfl
 | x::xs,y::ys,z,e=>by
  simp only[Ju]at e
  split at e
  rotate_left
  ·cases e
  rename_i h1
  split at e
  rotate_left
  ·cases e
  rename_i h2
  cases e;rw[QF6 h1,R7 h2]
 | [],_::_,z,e=>by simp[Ju]at e
 | _::_,[],z,e=>by simp[Ju]at e
theorem R8{h:List (Nat × az)}:∀ {bl il:List (Nat × az)},YT true h bl=some il->il=bl
 | [],il,e=>by simp only[YT]at e;cases e;rfl
 | (i,.box cs)::r,il,e=>by
  simp only[YT]at e
  split at e
  rotate_left
  ·cases e
  split at e
  rotate_left
  ·cases e
  rename_i h1
  split at e
  rotate_left
  ·cases e
  rename_i h2
  cases e;rw[R7 h1,R8 h2]
 | (i,.none)::r,il,e=>by simp[YT]at e
 | (i,.dead)::r,il,e=>by simp[YT]at e
 | (i,.sl _ _ _ _)::r,il,e=>by simp[YT]at e
theorem QHA{x y z:TV}(e:wJ false x y=some z):z=y:=by
 unfold wJ at e
 split at e
 ·split at e
  ·rename_i t x t' y h
   cases e;have:=CT.beq_eq _ _ h;subst this;rfl
  ·cases e
 ·cases e
theorem R9:∀ {x y z:List TV},Ju false x y=some z->z=y
 | [],[],z,e=>by simp only[Ju]at e;cases e;rfl
 | x::xs,y::ys,z,e=>by
  simp only[Ju]at e
  split at e
  rotate_left
  ·cases e
  rename_i h1
  split at e
  rotate_left
  ·cases e
  rename_i h2
  cases e;rw[QHA h1,R9 h2]
 | [],_::_,z,e=>by simp[Ju]at e
 | _::_,[],z,e=>by simp[Ju]at e
theorem Sa{h:List (Nat × az)}:∀ {bl il:List (Nat × az)},YT false h bl=some il->bp (λi=>(dv h i).aA) (il.map dK)=λi=>(dv h i).aA
 | [],il,e=>by simp only[YT]at e;cases e;rfl
 | (i,.box cs)::r,il,e=>by
  simp only[YT]at e
  split at e
  rotate_left
  ·cases e
  rename_i fX h0
  split at e
  rotate_left
  ·cases e
  rename_i h1
  split at e
  rotate_left
  ·cases e
  rename_i h2
  cases e;rw[R9 h1,List.map_cons,dK,bp];show bp (bI (λi=>(dv h i).aA) i (az.aA (.box fX))) _=_;have:bI (λi=>(dv h i).aA) i (az.aA (.box fX))=λi=>(dv h i).aA:=by
   funext j
   simp only[bI]
   split
   ·rename_i hj;rw[hj,<- h0]
   ·rfl
  rw[this];exact Sa h2
 | (i,.none)::r,il,e=>by simp[YT]at e
 | (i,.dead)::r,il,e=>by simp[YT]at e
 | (i,.sl _ _ _ _)::r,il,e=>by simp[YT]at e
include hΓ in
theorem QJZ{i s:Nat}{w:Bool}{ss:List bA}{d2:Nat}{o:d6}{d:Nat}{x:bD}{σ σ':cq}{p:Option Prop}{l:Log}(e:FE Γ i s w ss d2 o d x σ=some (p,σ',l))(hp:holds p) :
  ∃ l',ZD ΓA ((bA.gw s w ss d2 o d x).er none i) σ.aA=some (σ'.aA,l')/\YD l' l:=by
 obtain⟨t,h,nx⟩:=σ;unfold FE at e
 split at e
 rotate_left
 ·cases e
 rename_i b hb;obtain⟨q,e⟩:=QX e;simp only[Bool.and_eq_true,Bool.not_eq_true']at q;obtain⟨⟨q1,q2⟩,q3⟩:=q;have q2:s∉Q9 ss:=by simpa using q2
 have q3:¬ s=d2:=λh=>by rw[h]at q3;simp at q3
 split at e
 rotate_left
 ·cases e
 rename_i p' t1 l1 hr
 split at e
 rotate_left
 ·cases e
 rename_i pre v bl he
 split at e
 rotate_left
 ·cases e
 rename_i il hm
 split at e
 rotate_left
 ·cases e
 rename_i xv hv
 cases e;simp only at hb hr he hm ⊢;have da:=FJ ss hr;rw[R2]at hp;by_cases j4:(dZ w b (!b))=true
 ·have kY:b=w:=by cases b <;> cases w <;> simp[dZ]at j4 ⊢
  have hp:=hp j4;rw[wK]at hp;obtain⟨l',h1,h2⟩:=FL hΓ ss (g:=some (s,w)) hr hp.1 (by show cG t s=_;rw[hb,kY]) q2;have mr:cG t1 s = .c .bool b:=by rw[da s q2,hb]
  have hd1:=FC hΓ he hp.2;rw[j4]at hm;have gY:=R8 hm;subst gY;have E4:cG ((d2,v)::t1) s = .c .bool b:=by rw[Ja];simp[bI,q3,mr]
  have hd:Qw ΓA (aX.ev λs=>(cG ((d2,v)::t1) s).aA) (λi=>(dv (il.reverse++h) i).aA) (nx+16*(i+(cU ss+1))) (YF w s x).er=some ⟨.c (.v (.bool (dZ w (b&&xv) (b||xv)))),[]⟩:=by
   subst kY;have e1:(bD.s s).ev (cG ((d2,v)::t1)) = .c .bool b:=E4
   cases b
   ·simp only[YF,Bool.false_eq_true,if_false,d6.er,Qw,Zu,e1,hv];rfl
   ·simp only[YF,if_true,d6.er,Qw,Zu,e1,hv];rfl
  refine⟨l'++[(acc (aX.ev λs=>(cG t1 s).aA) o.er,il.map Prod.fst),(acc (aX.ev λs=>(cG ((d2,v)::t1) s).aA) (YF w s x).er,[])],?_,h2.append ⟨rfl,λk a ha=>?_⟩⟩
  ·simp only[bA.er,J4,h1,ZD,wN (ΓA:=ΓA) (g:=some (s,w)) (t:=t1) (by show cG t1 s=_;rw[mr,kY]),hd1,TE.aA,<- FH];simp only[cq.app,wN (ΓA:=ΓA) (g:=none) trivial,hd,R3];refine congrArg some (Prod.ext ?_ rfl);rw[j4];unfold St.app cq.aA cq.T cq.H;simp only[cN,bp];congr 1
   funext j
   rw[Ja d,bI,bI]
   split
   ·rfl
   ·rw[tE]
    split
    ·rfl
    ·rename_i hj;rw[List.mem_append,List.mem_singleton,not_or]at hj;rw[Ja,bI,if_neg hj.2,da j hj.1]
  ·match k,ha with
   | 0,ha=>exact .inr ha
   | 1,ha =>
    left;simp only[List.getElem?_cons_succ,List.getElem?_cons_zero,Option.some.injEq]at ha;rw[<- ha]
    cases w <;> rfl
   | k+2,ha=>simp at ha
 ·have ns:(dZ w b (!b))=false:=by simpa using j4
  have kY:b≠w:=by rintro rfl;cases b <;> simp[dZ]at j4
  have Sb:mu (λs=>(cG t s).aA) s w:=.inr ⟨b,by show(cG t s).aA=_;rw[hb];rfl,kY⟩;obtain⟨l',h1,h2,h3⟩:=wM (Γ:=ΓA) (h:=λi=>(dv h i).aA) (nx:=nx) ss [] i s w (λs=>(cG t s).aA) q1 (by simp) Sb q2;have iN:=λop dd off=>FI (Γ:=ΓA) (d:=dd) (op:=op) (off:=off) (σ:=⟨cE (Q9 ss) (λs=>(cG t s).aA),λi=>(dv h i).aA,nx⟩) (Sb.cE _ q2);rw[ns]at hm;have gY:=Sa hm;have mr:cE (Q9 ss++[d2]) (λs=>(cG t s).aA) s = .c (.v (.bool b)):=by
   have:s∉Q9 ss++[d2]:=by simp[q2,q3]
   simp only[cE,this,if_false,hb];rfl
  refine⟨l'++[([],[]),([],[])],?_,(YD.off (by rw[h2,R5 hr]) h3).append ⟨rfl,λk a ha=>.inl ?_⟩⟩;rotate_left
  ·match k,ha with
   | 0,ha=>simpa using ha.symm
   | 1,ha=>simpa using ha.symm
   | k+2,ha=>simp at ha
  simp only[bA.er,J4];rw[show cq.aA ⟨t,h,nx⟩=⟨λs=>(cG t s).aA,λi=>(dv h i).aA,nx⟩ from rfl,h1];simp only[ZD,iN,cN];rw[wL,<- zR];have hd:Qw ΓA (aX.ev (cE (Q9 ss++[d2]) λs=>(cG t s).aA)) (λi=>(dv h i).aA) (nx+16*(i+(cU ss+1))) (YF w s x).er=some ⟨.c (.v (.bool (dZ w (b&&xv) (b||xv)))),[]⟩:=by
   cases w <;> cases b <;> first
    | exact absurd rfl kY
    | (simp only[YF,Bool.false_eq_true,if_false,if_true,d6.er,Qw,bD.er,aX.ev,mr];rfl)
  have nt:acc (aX.ev (cE (Q9 ss++[d2]) λs=>(cG t s).aA)) (YF w s x).er=[]:=by cases w <;> rfl
  simp only[Zt,hd,keys,List.map_nil,nt,ns];congr 2
  unfold St.app cq.aA cq.T cq.H;simp only[cN,bp,FG,gY];congr 1
  funext j
  rw[Ja,bI,bI]
  split
  ·rfl
  ·rw[tE];simp only[cE]
   split
   ·rfl
   ·rfl
include hΓ in
theorem wP:∀(ss:List bA){i:Nat}{σ σ':cq}{p:Option Prop}{l:Log},ia Γ i ss σ=some (p,σ',l)->holds p->∃ l',ZD ΓA (ik none i ss) σ.aA=some (σ'.aA,l')/\YD l' l
 | [],i,σ,σ',p,l,e,hp=>by rw[ia]at e;cases e;exact⟨[],rfl,.refl _⟩
 | .op d o::r,i,σ,σ',p,l,e,hp=>by
  rw[ia]at e
  split at e
  rotate_left
  ·cases e
  rename_i pre v bl he
  split at e
  rotate_left
  ·cases e
  rename_i q σ2 m h2
  cases e;rw[wK]at hp;have h1:=FC hΓ he hp.1;obtain⟨l',h3,h4⟩:=wP r h2 hp.2;refine⟨(acc (aX.ev λs=>(σ.T s).aA) o.er,bl.map Prod.fst)::l',?_,(YD.refl [(acc (aX.ev λs=>(σ.T s).aA) o.er,bl.map Prod.fst)]).append h4⟩;obtain⟨t,h,nx⟩:=σ;simp only[ik,bA.er,bA.len,List.singleton_append,ZD,wN (ΓA:=ΓA) (g:=none) (t:=t) trivial];have h1:Qw ΓA (aX.ev λs=>(cG t s).aA) (λi=>(dv h i).aA) (nx+16*i) o.er=some (TE.aA ⟨pre,v,bl⟩):=h1;rw[h1];simp only[TE.aA,R3,<- FH,h3];rfl
 | .bt s w ss d x::r,i,σ,σ',p,l,e,hp=>by
  rw[ia]at e
  split at e
  rotate_left
  ·cases e
  rename_i p1 t1 l1 h1
  split at e
  rotate_left
  ·cases e
  rename_i q σ2 m h2
  cases e;rw[wK]at hp;obtain⟨t,h,nx⟩:=σ;obtain⟨wO,h3,h4⟩:=R6 hΓ _ (g:=none) h1 hp.1 trivial trivial;obtain⟨l',h5,h6⟩:=wP r h2 hp.2;refine⟨wO++l',?_,h4.append h6⟩;simp only[ik,J4,h3];rw[show(bA.bt s w ss d x).len=cU ss+1 from by rw[bA.len],h5]
 | .gw s w ss d2 o d x::r,i,σ,σ',p,l,e,hp=>by
  rw[ia]at e
  split at e
  rotate_left
  ·cases e
  rename_i p1 σ1 l1 h1
  split at e
  rotate_left
  ·cases e
  rename_i q σ2 m h2
  cases e;rw[wK]at hp;obtain⟨wO,h3,h4⟩:=QJZ hΓ h1 hp.1;obtain⟨l',h5,h6⟩:=wP r h2 hp.2;refine⟨wO++l',?_,h4.append h6⟩;simp only[ik,J4,h3];rw[show(bA.gw s w ss d2 o d x).len=cU ss+2 from by rw[bA.len],h5]
end
theorem Sc{Γ:ez}{K:St->Prop}:∀(l:List AO){σ σ':St}{log:Log},ZD Γ l σ=some (σ',log)->K σ'->gG Γ l K σ
 | [],σ,σ',log,e,hk=>by simp only[ZD,Option.some.injEq,Prod.mk.injEq]at e;rw[e.1];exact hk
 | o::l,σ,σ',log,e,hk=>by
  simp only[ZD]at e
  split at e
  rotate_left
  ·cases e
  rename_i σ1 a w h1
  split at e
  rotate_left
  ·cases e
  rename_i σ2 m h2
  cases e;have ih:=Sc l h2 hk;unfold Zt at h1;rw[gG];clear h2
  split at h1
  ·rename_i hg
   split at h1
   rotate_left
   ·cases h1
   rename_i e he
   cases h1;exact ih
  ·rename_i s wt hg
   split at h1
   ·rename_i c hc
    split at h1
    ·rename_i jn
     split at h1
     rotate_left
     ·cases h1
     rename_i e he
     cases h1;exact⟨λ_=>ih,λhn=>absurd jn hn⟩
    ·rename_i jn
     cases h1;exact⟨λh=>absurd h jn,λ_=>ih⟩
   ·rename_i hc
    cases h1;exact ih
   ·cases h1
end Go.Proofs.YtdplaepmjogjjaaGreat.Am

