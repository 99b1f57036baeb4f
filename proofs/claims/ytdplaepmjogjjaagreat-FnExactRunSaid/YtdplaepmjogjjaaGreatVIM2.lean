/- -/
import Derived.Test.YtdplaepmjogjjaaGreatVIM1
import Derived.Orders
import Derived.Control
import Derived.ProofKit
import Derived.OpenShut
set_option linter.all false
namespace Go.Proofs.YtdplaepmjogjjaaGreat.Am
open Go Go.RowKit
theorem ZR{t t':Nat->AV}{y:aW}(h:∀ s,s∈y.bK->t' s=t s):y.ev t'=y.ev t:=by
 cases y with
 | s i=>exact h i (by simp[aW.bK])
 | k x=>rfl
theorem ES{h h':Nat->aQ}{x:AV}(hh:∀ id,id∈x.bR->h' id=h id):x.d h'=x.d h:=by
 cases x with
 | r sz id off len=>simp only[AV.d,hh id (by simp[AV.bR])]
 | b d id g p=>simp only[AV.d,hh id (by simp[AV.bR])]
 | _=>rfl
theorem wa{h h':Nat->aQ}:∀ {xs:List AV},(∀ id,id∈AV.bM xs->h' id=h id)->AV.ds h' xs=AV.ds h xs
 | [],_=>rfl
 | x::xs,hh=>by
  simp only[AV.ds];rw[ES (x:=x) λid a8=>hh id (by simp[AV.bM,a8]),wa λid a8=>hh id (by simp[AV.bM,a8])]
theorem PL{h h':Nat->aQ}{x:AV}(hh:∀ id,id∈x.refs->h' id=h id):AV.ds h' x.cells=AV.ds h x.cells:=by
 refine wa λid a8=>hh id ?_
 cases x with
 | a cs=>exact a8
 | _=>simpa[AV.cells,AV.bM,AV.refs]using a8
theorem QTI{h h':Nat->aQ}{sz:Nat}{x:AV}(hh:∀ id,id∈x.refs->h' id=h id):x.fp h' sz=x.fp h sz:=by
 cases x with
 | r ba id off len=>simp only[AV.fp,hh id (by simp[AV.refs,AV.bR])]
 | b d id g p=>cases d <;> first | rfl | simp only[AV.fp,hh id (by simp[AV.refs,AV.bR])]
 | c d=>cases d <;> rfl
 | _=>rfl
theorem PM{h h':Nat->aQ}{x:AV}(hh:∀ id,id∈x.refs++x.b9->h' id=h id):x.arg h'=x.arg h:=by
 cases x with
 | r sz id off len=>simp only[AV.arg];rw[ES λi hi=>hh i (by simp[AV.refs];exact .inl hi)]
 | b d id g p=>simp only[AV.arg];rw[ES λi hi=>hh i (by simp[AV.refs];exact .inl hi)]
 | a cs=>simp only[AV.arg];rw[wa λi hi=>hh i (by simp[AV.refs];exact .inl hi)]
 | p id i j =>
  have h1:=hh id (by simp[AV.b9])
  match i,j with
  | 0,0 =>
   simp only[AV.arg,h1]
   cases h id with
   | box cs =>
    simp only;by_cases hn:AV.bM cs=[]
    ·rw[if_pos hn,if_pos hn,wa (h:=h) (h':=h') (xs:=cs) λi hi=>by rw[hn]at hi;cases hi]
    ·rw[if_neg hn,if_neg hn]
   | _=>rfl
  | 0,j+1=>rfl
  | i+1,_=>rfl
 | _=>rfl
theorem PN{h h':Nat->aQ}:∀ {xs:List AV},(∀ id,id∈xs.flatMap (λx=>x.refs++x.b9)->h' id=h id)->AV.g8 h' xs=AV.g8 h xs
 | [],_=>rfl
 | x::xs,hh=>by
  simp only[AV.g8];rw[PM (x:=x) λid a8=>hh id (by simp only[List.flatMap_cons,List.mem_append]at a8 ⊢;exact .inl a8),
   PN λid a8=>hh id (by simp only[List.flatMap_cons,List.mem_append]at a8 ⊢;exact .inr a8)]
theorem QVq{h h':Nat->aQ}{x:AV}(hh:∀ id,id∈x.refs++x.b9->h' id=h id):x.g9 h'=x.g9 h:=by
 cases x with
 | r sz id off len=>simp only[AV.g9];rw[hh id (by simp[AV.refs,AV.bR])]
 | _=>rfl
theorem PO{h h':Nat->aQ}{x:AV}(hh:∀ id,id∈x.bR->h' id=h id):x.dO h'=x.dO h:=by
 cases x with
 | r sz id off len=>simp only[AV.dO];rw[hh id (by simp[AV.bR])]
 | c d=>cases d <;> rfl
 | _=>rfl
theorem PQ{h h':Nat->aQ}:∀ {xs:List AV},(∀ id,id∈AV.bM xs->h' id=h id)->AV.fq h' xs=AV.fq h xs
 | [],_=>rfl
 | x::xs,hh=>by
  simp only[AV.fq];rw[PO (x:=x) λid a8=>hh id (by simp[AV.bM,a8]),PQ λid a8=>hh id (by simp[AV.bM,a8])]
theorem QRa{h h':Nat->aQ}{m:AM}{x:AV}(hh:∀ id,id∈x.refs++x.b9->h' id=h id):x.fV h' m=x.fV h m:=by
 cases m with
 | d=>exact PM hh
 | o=>exact QVq hh
 | p =>
  cases x with
  | r sz id off len=>simp only[AV.fV,AV.ir];exact PO λi hi=>hh i (by simp[AV.refs];exact .inl hi)
  | a cs=>simp only[AV.fV,AV.ir];rw[PQ λi hi=>hh i (by simp[AV.refs];exact .inl hi)]
  | _=>rfl
theorem PR{h h':Nat->aQ}:∀ {ms:List AM} {xs:List AV},(∀ id,id∈xs.flatMap (λx=>x.refs++x.b9)->h' id=h id)->AV.dU h' ms xs=AV.dU h ms xs
 | [],xs,hh=>PN hh
 | _::_,[],_=>rfl
 | m::ms,x::xs,hh=>by
  simp only[AV.dU];rw[QRa (x:=x) λid a8=>hh id (by simp only[List.flatMap_cons,List.mem_append]at a8 ⊢;exact .inl a8),
   PR (ms:=ms) λid a8=>hh id (by simp only[List.flatMap_cons,List.mem_append]at a8 ⊢;exact .inr a8)]
theorem QOw{h h':Nat->aQ}{id g i j:Nat}{x:AV}(hh:∀ id,id∈x.bR->h' id=h id):x.eH h' id g i j=x.eH h id g i j:=by
 cases x with
 | r sz b8 off len=>simp only[AV.eH,hh b8 (by simp[AV.bR])]
 | c d=>cases d <;> rfl
 | _=>rfl
theorem ET{h h':Nat->aQ}{id g i:Nat}:∀ {xs:List AV} {j:Nat},(∀ id,id∈AV.bM xs->h' id=h id)->AV.dz h' id g i j xs=AV.dz h id g i j xs
 | [],_,_=>rfl
 | x::xs,j,hh=>by
  simp only[AV.dz];rw[QOw (x:=x) λid a8=>hh id (by simp[AV.bM,a8]),ET λid a8=>hh id (by simp[AV.bM,a8])]
theorem PS{x:AV}{id:Nat}(h:id∈AV.bM x.cells):id∈x.refs:=by
 cases x with
 | a cs=>exact h
 | _=>simpa[AV.cells,AV.bM,AV.refs]using h
theorem PT{t t':Nat->AV}{h h':Nat->aQ}{b:Nat}:∀ {ps:List aW} {i:Nat},(∀ s,s∈ps.flatMap aW.bK->t' s=t s)->(∀ id,id∈ps.flatMap (λx=>(aW.ev t x).refs)->h' id=h id)->gG h' b (aW.ev t') i ps=gG h b (aW.ev t) i ps
 | [],_,_,_=>rfl
 | x::ps,i,hs,hh=>by
  simp only[List.flatMap_cons,List.mem_append]at hs hh;simp only[gG];rw[ZR (y:=x) λs h=>hs s (.inl h),ET (xs:=(aW.ev t x).cells) λid h=>hh id (.inl (PS h)),PT (λs h=>hs s (.inr h)) (λid h=>hh id (.inr h))]
theorem QHK{h h':Nat->aQ}{xs:List (List D)}{x:AV}(hh:∀ id,id∈x.refs->h' id=h id):x.iT h' xs=x.iT h xs:=by
 cases x with
 | r sz b8 off len=>simp only[AV.iT,hh b8 (by simp[AV.refs,AV.bR])]
 | _=>rfl
theorem QWa{h h':Nat->aQ}{xs:List (List D)}{id len:Nat}{x:AV}(hh:∀ id,id∈x.refs->h' id=h id):x.dI h' id len xs=x.dI h id len xs:=by
 cases x with
 | r sz b8 off len=>simp only[AV.dI,hh b8 (by simp[AV.refs,AV.bR])]
 | _=>rfl
theorem QXL{h h':Nat->aQ}{x:AV}(hh:∀ id,id∈x.refs->h' id=h id):x.de h'=x.de h:=by
 cases x with
 | r sz b8 off len=>simp only[AV.de,hh b8 (by simp[AV.refs,AV.bR])]
 | _=>rfl
theorem PU{h h':Nat->aQ}:∀ {ids:List Nat} {l:List aQ},(∀ id,id∈ids->h' id=h id)->Yt h' ids l=Yt h ids l
 | [],l,_=>by cases l <;> rfl
 | id::ids,[],_=>rfl
 | id::ids,x::l,hh=>by
  simp only[Yt];rw[hh id (by simp),PU λi hi=>hh i (by simp[hi])]
theorem EU{x:AV}:∀ {ms:List AM} {xs:List AV},x∈cJ ms xs->x∈xs
 | [],xs,h=>by simp[cJ]at h
 | _::_,[],h=>by simp[cJ]at h
 | m::ms,y::xs,h=>by
  simp only[cJ]at h
  split at h
  ·rcases List.mem_cons.1 h with h | h
   ·exact List.mem_cons.2 (.inl h)
   ·exact List.mem_cons_of_mem _ (EU h)
  ·exact List.mem_cons_of_mem _ (EU h)
theorem EV{x:AV}:∀ {ms:List AM} {xs:List AV},x∈cm ms xs->x∈xs
 | [],xs,h=>h
 | _::_,[],h=>by simp[cm]at h
 | m::ms,y::xs,h=>by
  simp only[cm]at h
  split at h
  ·exact List.mem_cons_of_mem _ (EV h)
  ·rcases List.mem_cons.1 h with h | h
   ·exact List.mem_cons.2 (.inl h)
   ·exact List.mem_cons_of_mem _ (EV h)
theorem PV{t t':Nat->AV}:∀ {ps:List (Nat × Nat × aW)} {cs:List AV},(∀ s,s∈ps.flatMap (λx=>x.2.2.bK)->t' s=t s)->JZ (aW.ev t') cs ps=JZ (aW.ev t) cs ps
 | [],_,_=>rfl
 | (off,n,x)::ps,cs,h=>by
  simp only[List.flatMap_cons,List.mem_append]at h;simp only[JZ];rw[ZR (y:=x) λs hs=>h s (.inl hs)]
  split
  ·exact PV λs hs=>h s (.inr hs)
  ·rfl
theorem PW{t t':Nat->AV}{h h':Nat->aQ}{sz:Nat}:∀ {ps:List aW},(∀ s,s∈ps.flatMap aW.bK->t' s=t s)->(∀ id,id∈ps.flatMap (λx=>(aW.ev t x).refs)->h' id=h id)->elems h' (aW.ev t') sz ps=elems h (aW.ev t) sz ps
 | [],_,_=>rfl
 | x::ps,hs,hh=>by
  simp only[List.flatMap_cons,List.mem_append]at hs hh;simp only[elems];rw[ZR (y:=x) λs h=>hs s (.inl h),PL (x:=aW.ev t x) λid h=>hh id (.inl h),PW (λs h=>hs s (.inr h)) (λid h=>hh id (.inr h))]
theorem wb{t t':Nat->AV}{β:Type}(g:AV->List β):∀ {ps:List aW},(∀ s,s∈ps.flatMap aW.bK->t' s=t s)->(ps.flatMap λx=>g (aW.ev t' x))=ps.flatMap λx=>g (aW.ev t x)
 | [],_=>rfl
 | x::ps,hs=>by
  simp only[List.flatMap_cons,List.mem_append]at hs ⊢;rw[ZR (y:=x) λs h=>hs s (.inl h),wb g λs h=>hs s (.inr h)]
theorem zA{h h':Nat->aQ}:∀ {ids:List Nat},(∀ id,id∈ids->h' id=h id)->eU h' ids=eU h ids
 | [],_=>rfl
 | id::ids,hh=>by
  simp only[eU];rw[hh id (by simp),zA λi hi=>hh i (by simp[hi])]
theorem PX{t t':Nat->AV}{m:Int}{lo:Option aW}(h:∀ s,s∈(match lo with | some l=>l.bK | none=>[])->t' s=t s):Yk (aW.ev t') m lo=Yk (aW.ev t) m lo:=by
 cases lo with
 | none=>rfl
 | some l=>simp only[Yk];rw[ZR h]
theorem PY{Γ:eA}{t t':Nat->AV}{h h':Nat->aQ}{b:Nat}{op:eb}(ht:∀ s,s∈op.bK->t' s=t s)(hh:∀ id,id∈acc (aW.ev t) op->h' id=h id) :
  Qv Γ (aW.ev t') h' b op=Qv Γ (aW.ev t) h b op/\acc (aW.ev t') op=acc (aW.ev t) op:=by
 cases op with
 | eH x | not x | neg x | ext x i | conv k x | kY x off n agg =>
  have e:=ZR (y:=x) (t:=t) (t':=t') (λs hs=>ht s (by simpa[eb.bK]using hs));simp only[Qv,acc,e,and_self]
 | box e0 x n =>
  have e:=ZR (y:=x) (t:=t) (t':=t') (λs hs=>ht s (by simpa[eb.bK]using hs));simp only[Qv,acc,e,and_self]
 | new e zs=>exact⟨rfl,rfl⟩
 | pick c x y =>
  have e1:=ZR (y:=c) (t:=t) (t':=t') (λs hs=>ht s (by simp[eb.bK,hs]));have e2:=ZR (y:=x) (t:=t) (t':=t') (λs hs=>ht s (by simp[eb.bK,hs]));have e3:=ZR (y:=y) (t:=t) (t':=t') (λs hs=>ht s (by simp[eb.bK,hs]));simp only[Qv,acc,e1,e2,e3,and_self]
 | bin op x y | gF n neg x y | ij neg x y | mm mx x y =>
  have e2:=ZR (y:=x) (t:=t) (t':=t') (λs hs=>ht s (by simp[eb.bK,hs]));have e3:=ZR (y:=y) (t:=t) (t':=t') (λs hs=>ht s (by simp[eb.bK,hs]));simp only[Qv,acc,e2,e3,and_self]
 | load x n agg | kp x off | gh x =>
  have e:=ZR (y:=x) (t:=t) (t':=t') (λs hs=>ht s (by simpa[eb.bK]using hs));simp only[Qv,acc,e]at hh ⊢
  cases hx:aW.ev t x with
  | p id i j =>
   rw[hx]at hh;simp only[hh id (by simp),and_self]
  | bq cs j id g p i =>
   rw[hx]at hh;simp only[hh id (by simp),and_self]
  | _=>first | exact⟨rfl,rfl⟩ | exact⟨rfl,trivial⟩
 | store x v n =>
  have e2:=ZR (y:=x) (t:=t) (t':=t') (λs hs=>ht s (by simp[eb.bK,hs]));have e3:=ZR (y:=v) (t:=t) (t':=t') (λs hs=>ht s (by simp[eb.bK,hs]));simp only[Qv,acc,e2,e3]at hh ⊢;have hr:∀ id,id∈(aW.ev t v).refs->h' id=h id:=λid a8=>hh id (List.mem_append.2 (.inr a8));rw[PL hr,zA hr]
  cases hx:aW.ev t x with
  | p id i j =>
   rw[hx]at hh;have hm:∀ g,AV.dz h' id g i j (aW.ev t v).cells=AV.dz h id g i j (aW.ev t v).cells:=λg=>ET λk hk=>hr k (PS hk);simp only[hh id (by simp),hm,and_self]
  | _=>first | exact⟨rfl,rfl⟩ | exact⟨rfl,trivial⟩
 | jv x i sz =>
  have e2:=ZR (y:=x) (t:=t) (t':=t') (λs hs=>ht s (by simp[eb.bK,hs]));have e3:=ZR (y:=i) (t:=t) (t':=t') (λs hs=>ht s (by simp[eb.bK,hs]));simp only[Qv,acc,e2,e3]at hh ⊢
  cases hx:aW.ev t x with
  | r ba id off len =>
   rw[hx]at hh;simp only[hh id (by simp[AV.refs,AV.bR]),and_self]
  | b d id g p =>
   rw[hx]at hh
   cases d with
   | v=>first | exact⟨rfl,rfl⟩ | exact⟨rfl,trivial⟩
   | sl=>simp only[hh id (by simp[AV.refs,AV.bR]),and_self]
  | c d=>cases d <;> first | exact⟨rfl,rfl⟩ | exact⟨rfl,trivial⟩
  | _=>first | exact⟨rfl,rfl⟩ | exact⟨rfl,trivial⟩
 | len x =>
  have e:=ZR (y:=x) (t:=t) (t':=t') (λs hs=>ht s (by simpa[eb.bK]using hs));simp only[Qv,acc,e]at hh ⊢
  cases hx:aW.ev t x with
  | r ba id off len =>
   rw[hx]at hh;simp only[hh id (by simp[AV.refs,AV.bR]),and_self]
  | b d id g p =>
   rw[hx]at hh
   cases d with
   | v=>first | exact⟨rfl,rfl⟩ | exact⟨rfl,trivial⟩
   | sl=>simp only[hh id (by simp[AV.refs,AV.bR]),and_self]
  | c d=>cases d <;> first | exact⟨rfl,rfl⟩ | exact⟨rfl,trivial⟩
  | _=>first | exact⟨rfl,rfl⟩ | exact⟨rfl,trivial⟩
 | fx x lo hi sz =>
  have e2:=ZR (y:=x) (t:=t) (t':=t') (λs hs=>ht s (by simp[eb.bK,hs]));have e3:∀ m,Yk (aW.ev t') m lo=Yk (aW.ev t) m lo:=λm=>PX (λs hs=>ht s (by simp only[eb.bK,List.mem_append];exact .inl (.inr hs)));have e4:∀ m,Yk (aW.ev t') m hi=Yk (aW.ev t) m hi:=λm=>PX (λs hs=>ht s (by simp only[eb.bK,List.mem_append];exact .inr hs));simp only[Qv,acc,e2,e3,e4]at hh ⊢
  cases hx:aW.ev t x with
  | r ba id off len =>
   rw[hx]at hh;simp only[hh id (by simp[AV.refs,AV.bR]),and_self]
  | c d=>cases d <;> first | exact⟨rfl,rfl⟩ | exact⟨rfl,trivial⟩
  | _=>first | exact⟨rfl,rfl⟩ | exact⟨rfl,trivial⟩
 | mk e0 sz zs n =>
  have e:=ZR (y:=n) (t:=t) (t':=t') (λs hs=>ht s (by simpa[eb.bK]using hs));simp only[Qv,acc,e]at hh ⊢;rw[wa (xs:=zs) (h:=h) (h':=h') λid a8=>hh id a8]
  first | exact⟨rfl,rfl⟩ | exact⟨rfl,trivial⟩
 | build zs ps =>
  simp only[Qv,acc];rw[PV (ps:=ps) λs hs=>ht s (by simpa[eb.bK]using hs)]
  first | exact⟨rfl,rfl⟩ | exact⟨rfl,trivial⟩
 | bW e0 sz ps =>
  have hs:∀ s,s∈ps.flatMap aW.bK->t' s=t s:=λs hs=>ht s (by simpa[eb.bK]using hs);simp only[acc]at hh;simp only[Qv,acc];rw[PW hs hh,wb AV.refs hs,wb AV.dc hs,zA hh,PT hs hh]
  first | exact⟨rfl,rfl⟩ | exact⟨rfl,trivial⟩
 | app s x e0 sz =>
  have e2:=ZR (y:=s) (t:=t) (t':=t') (λs hs=>ht s (by simp[eb.bK,hs]));have e3:=ZR (y:=x) (t:=t) (t':=t') (λs hs=>ht s (by simp[eb.bK,hs]));simp only[Qv,acc,e2,e3]at hh ⊢;have zB:∀ id,id∈(aW.ev t x).refs->h' id=h id:=λid a8=>hh id (List.mem_append.2 (.inr a8));rw[QTI (x:=aW.ev t x) zB,QXL zB];simp only[QHK zB,QWa zB]
  cases hx:aW.ev t s with
  | r ba id off len =>
   rw[hx]at hh;have h1:=hh id (by simp[AV.refs,AV.bR])
   cases off with
   | zero=>simp only[h1,and_self]
   | succ k=>first | exact⟨rfl,rfl⟩ | exact⟨rfl,trivial⟩
  | c d=>cases d <;> first | exact⟨rfl,rfl⟩ | exact⟨rfl,trivial⟩
  | _=>first | exact⟨rfl,rfl⟩ | exact⟨rfl,trivial⟩
 | call f args =>
  have hs:∀ s,s∈args.flatMap aW.bK->t' s=t s:=λs hs=>ht s (by simpa[eb.bK]using hs);have hm:args.map (aW.ev t')=args.map (aW.ev t):=List.map_congr_left λx hx=>ZR λs h=>hs s (List.mem_flatMap.2 ⟨x,hx,h⟩);simp only[acc]at hh;have ha:AV.dU h' (Γ.md f) (args.map (aW.ev t))=AV.dU h (Γ.md f) (args.map (aW.ev t)):=PR λid a8=>by
   rw[List.flatMap_map]at a8;obtain⟨x,hx,a8⟩:=List.mem_flatMap.1 a8;refine hh id ?_
   rcases List.mem_append.1 a8 with a8 | a8
   ·exact List.mem_append.2 (.inl (List.mem_flatMap.2 ⟨x,hx,a8⟩))
   ·exact List.mem_append.2 (.inr (List.mem_flatMap.2 ⟨x,hx,a8⟩))
  have ew:∀ x,x∈args.map (aW.ev t)->∀ id,id∈x.refs->h' id=h id:=λx hx id a8=>by
   obtain⟨y,hy,rfl⟩:=List.mem_map.1 hx;exact hh id (List.mem_append.2 (.inl (List.mem_flatMap.2 ⟨y,hy,a8⟩)))
  simp only[Qv,acc];rw[hm,wb AV.b9 hs,wb AV.refs hs];refine⟨?_,rfl⟩;generalize hX:args.map (aW.ev t)=X at *
  split
  ·rename_i id g i j r hn;obtain⟨gM,d,_,rfl,_⟩:=PF hn;unfold u7;rw[ew _ (List.mem_cons_self) id (by simp[AV.refs,AV.bR])]
  ·unfold u9;rw[ha,zA (h:=h) (h':=h') λid a8=>(by
    obtain⟨x,hx,a8⟩:=List.mem_flatMap.1 a8;exact ew x (EV hx) id a8)]
   have hhd:∀ l,Yt h' ((cJ (Γ.md f) X).flatMap AV.refs) l=Yt h ((cJ (Γ.md f) X).flatMap AV.refs) l:=λl=>PU λid a8=>by
    obtain⟨x,hx,a8⟩:=List.mem_flatMap.1 a8;exact ew x (EU hx) id a8
   simp only[hhd]
end Go.Proofs.YtdplaepmjogjjaaGreat.Am
namespace Go.Proofs.YtdplaepmjogjjaaGreat.Am
open Go Go.RowKit
theorem tu:∀(l:List (Nat × aQ))(h:Nat->aQ)(i:Nat),i∉keys l->bn h l i=h i
 | [],_,_,_=>rfl
 | (k,x)::l,h,i,hi=>by
  simp only[keys,List.map_cons,List.mem_cons,not_or]at hi;simp only[bn];rw[tu l _ i hi.2,QI _ _ _ _ hi.1]
theorem EW:∀(l:List (Nat × aQ))(g h:Nat->aQ)(i:Nat),(i∈keys l\/g i=h i)->bn g l i=bn h l i
 | [],g,h,i,hi=>by
  rcases hi with hi | hi
  ·simp[keys]at hi
  ·exact hi
 | (k,x)::l,g,h,i,hi=>by
  simp only[bn];refine EW l _ _ i ?_;by_cases hk:i=k
  ·subst hk;right;rw[QN,QN]
  ·rcases hi with hi | hi
   ·simp only[keys,List.map_cons,List.mem_cons]at hi
    rcases hi with hi | hi
    ·exact absurd hi hk
    ·exact .inl hi
   ·right;rw[QI _ _ _ _ hk,QI _ _ _ _ hk];exact hi
theorem QI5{l m:List (Nat × aQ)}(D0:∀ i,i∈keys l->i∉keys m)(h:Nat->aQ):bn (bn h l) m=bn (bn h m) l:=by
 funext i
 by_cases h1:i∈keys l
 ·rw[tu m _ i (D0 i h1),EW l (bn h m) h i (.inl h1)]
 ·rw[tu l (bn h m) i h1];exact EW m _ _ i (.inr (tu l h i h1))
theorem EX{Γ:eA}{o:AO}{σ σ':St}{a w:List Nat}(h:Zw Γ o σ=some (σ',a,w)) :
  ∃ v bl,σ'=⟨cP σ.t o.dst v,bn σ.h bl,σ.nx⟩/\w=keys bl/\∀(t':Nat->AV)(h':Nat->aQ),(∀ s,s∈o.reads->t' s=σ.t s)->(∀ id,id∈a->h' id=σ.h id)->
   Zw Γ o ⟨t',h',σ.nx⟩=some (⟨cP t' o.dst v,bn h' bl,σ.nx⟩,a,w):=by
 unfold Zw at h
 split at h
 ·rename_i hg
  split at h
  rotate_left
  ·cases h
  rename_i e he
  cases h;refine⟨e.val,e.fU,rfl,rfl,λt' h' ht hh=>?_⟩;obtain⟨d1,d2⟩:=PY (Γ:=Γ) (t:=σ.t) (t':=t') (h:=σ.h) (h':=h') (b:=σ.nx+o.off) (op:=o.op) (λs hs=>ht s (List.mem_append.2 (.inl hs))) hh;unfold Zw;simp only[hg,d1,d2,he];rfl
 ·rename_i s wt hg;have hs:s∈o.reads:=by unfold AO.reads;rw[hg];simp
  split at h
  rotate_left
  ·rename_i hc
   cases h;refine⟨.t [],[],rfl,rfl,λt' h' ht hh=>?_⟩;unfold Zw;simp only[hg,ht s hs,hc];rfl
  ·cases h
  rename_i c hc
  split at h
  ·rename_i jr
   split at h
   rotate_left
   ·cases h
   rename_i e he
   cases h;refine⟨e.val,e.fU,rfl,rfl,λt' h' ht hh=>?_⟩;obtain⟨d1,d2⟩:=PY (Γ:=Γ) (t:=σ.t) (t':=t') (h:=σ.h) (h':=h') (b:=σ.nx+o.off) (op:=o.op) (λs hs=>ht s (List.mem_append.2 (.inl hs))) hh;unfold Zw;simp only[hg,ht s hs,hc,jr,if_true,d1,d2,he];rfl
  ·rename_i jr
   cases h;refine⟨.t [],[],rfl,rfl,λt' h' ht hh=>?_⟩;unfold Zw;simp only[hg,ht s hs,hc,if_neg jr];rfl
theorem PZ{t:Nat->AV}{d:Option Nat}{v:AV}{s:Nat}(h:∀ x,d=some x->s≠x):cP t d v s=t s:=by
 cases d with
 | none=>rfl
 | some x=>exact QI _ _ _ _ (h x rfl)
theorem P0{l m:List Nat}(h:JE l m=true):∀ x,x∈l->x∉m:=by
 intro x hx hm;have:=List.all_eq_true.1 h x hx;simp[hm]at this
theorem swap{Γ:eA}{p o:AO}{σ σp σ2:St}{ap wp ao wo:List Nat}(i6:p.free o=true)(h1:Zw Γ p σ=some (σp,ap,wp))(h2:Zw Γ o σp=some (σ2,ao,wo))
  (hap:JE wp (ao++wo)=true) (EY:JE wo ap=true):∃ σ1,Zw Γ o σ=some (σ1,ao,wo)/\Zw Γ p σ1=some (σ2,ap,wp):=by
 obtain⟨vp,lp,rfl,rfl,hp⟩:=EX h1;obtain⟨vo,lo,rfl,rfl,ho⟩:=EX h2;unfold AO.free at i6;rw[Bool.and_eq_true]at i6;obtain⟨f1,f2⟩:=i6;have hA:=P0 hap;have hB:=P0 EY;have P1:∀ d,p.dst=some d->d∉o.reads/\∀ d',o.dst=some d'->d≠d':=by
  intro d hd;rw[hd]at f1;simp only[Bool.and_eq_true,Bool.not_eq_true']at f1;refine⟨by simpa using f1.1,λd' dD=>?_⟩;have:=f1.2;rw[dD]at this;simpa using this
 have v8:∀ d,o.dst=some d->d∉p.reads:=by
  intro d hd;rw[hd]at f2;simpa using f2
 have s1:=ho σ.t σ.h (λs hs=>(PZ λx hx e=>(P1 x hx).1 (e ▸ hs)).symm) (λid a8=>(tu lp σ.h id (λhk=>hA id hk (List.mem_append.2 (.inl a8)))).symm);refine⟨_,s1,?_⟩;have s2:=hp (cP σ.t o.dst vo) (bn σ.h lo) (λs hs=>PZ λx hx e=>v8 x hx (e ▸ hs)) (λid a8=>tu lo σ.h id (λhk=>hB id hk a8));rw[s2];congr 2
 ·congr 1
  ·cases EZ:p.dst with
   | none=>cases o.dst <;> rfl
   | some d =>
    cases E0:o.dst with
    | none=>rfl
    | some d' =>
     have dN:=(P1 d EZ).2 d' E0;funext s
     simp only[cP,bI];by_cases e1:s=d
     ·by_cases e2:s=d'
      ·exact absurd (e1.symm.trans e2) dN
      ·rw[if_pos e1,if_neg e2,if_pos e1]
     ·by_cases e2:s=d'
      ·rw[if_neg e1,if_pos e2,if_pos e2]
      ·rw[if_neg e1,if_neg e2,if_neg e2,if_neg e1]
  ·exact QI5 (λi hi hk=>hA i hk (List.mem_append.2 (.inr hi))) σ.h
theorem Sat.nx{C:Ctx}{U:Nat->Prop}{t:Nat->AV}{h:Nat->aQ}{n m:Nat}{a:Act}{w:World}{ι:Io}(S:Sat C U ⟨t,h,n⟩ a w ι):Sat C U ⟨t,h,m⟩ a w ι :=
 ⟨S.dE,S.bj,S.size,S.defers,S.fi,S.inj,S.eh,S.fresh,S.live,S.b9,S.hand,S.dg⟩
theorem Sat.qD{C:Ctx}{U U':Nat->Prop}{σ:St}{a:Act}{w:World}{ι:Io}(S:Sat C U σ a w ι)(h:∀ i,U' i->U i):Sat C U' σ a w ι :=
 { S with fresh:=λi hi=>S.fresh i (h i hi) }
theorem E1{P:Program}{N:Nat}{ops:Array Oper}{o:Oper}{i:Nat}{ao:AO}(h:s7 P N ops o i=some ao) :
  ∃ op gd,vb P o=some op/\s6 ops o.guard=some gd/\ao=⟨o.dst,op,gd,16*i⟩/\(∀ d,o.dst=some d->d<N)/\∀ s b,gd=some (s,b)->s<N:=by
 unfold s7 at h;generalize h1:vb P o=x at h;generalize h2:s6 ops o.guard=y at h
 cases x with
 | none=>cases y <;> cases h
 | some op =>
  cases y with
  | none=>cases h
  | some gd =>
   simp only at h
   split at h
   rotate_left
   ·cases h
   rename_i fu;have h:=(Option.some.inj h).symm;unfold vc at fu;rw[Bool.and_eq_true]at fu;obtain⟨P2,iN⟩:=fu;refine⟨op,gd,rfl,rfl,h,λd hd=>?_,λs b hs=>?_⟩
   ·rw[hd]at P2;simpa using P2
   ·rw[hs]at iN;simpa using iN
section
variable {C:Ctx} {U U':Nat->Prop} {σ σ':St} {a:Act} {w:World} {Q:Exit->Act->World->Prop} {Γ:eA} {ops:Array Oper}
theorem P3(hΓ:JP C.P Γ)(S:cA C U σ a w){i:Nat}{o:Oper}{ao:AO}(hi:ops[i]? = some o)(hc:s7 C.P C.N ops o i=some ao)(hb:∀ k,σ.nx+16*i<=k->k<σ.nx+16*i+16->U k)
  (bN:∀ k,U' k->U k/\¬ (σ.nx+16*i<=k/\k<σ.nx+16*i+16)) {ac wr:List Nat} (hs:Zw Γ ao σ=some (σ',ac,wr)) :
  wpOp C.P ops Q i (λa' w'=>cA C U' σ' a' w') a w:=by
 obtain⟨op,gd,zC,jY,rfl,hd,iN⟩:=E1 hc;obtain⟨ι,S⟩:=S;have oD:Sat C U' ⟨cP σ.t o.dst (.t []),σ.h,σ.nx⟩ (a.put o.dst undef) w ι:=by
  have S':=S.qD (U':=U') λk hk=>(bN k hk).1
  cases hx:o.dst with
  | none=>simpa[cP,Act.put]using S'
  | some d=>simpa[cP]using S'.put d (hd d hx) undef (.t []) (.t #[] [] rfl (by simp))
 unfold wpOp;rw[hi];simp only;unfold Zw at hs
 split at hs
 ·rename_i jo;simp only at jo;subst jo;have j7:o.guard=none:=by
   cases hx:o.guard with
   | none=>rfl
   | some x =>
    obtain⟨j,bb⟩:=x;rw[hx]at jY;simp only[s6]at jY
    split at jY <;> cases jY
  have hw:Region.wanted o (yielded ops a.tmps)=true:=by simp[Region.wanted,j7]
  rw[if_pos hw]
  split at hs
  rotate_left
  ·cases hs
  rename_i e he
  cases hs;exact .inl (PK hΓ S hd hb bN zC he)
 ·rename_i s wt oE;simp only at oE;subst oE;obtain⟨j,d,E2,P4⟩:∃ j d,o.guard=some (j,wt)/\(ops[j]?).bind (·.dst)=some s:=by
   cases hx:o.guard with
   | none=>rw[hx]at jY;simp[s6]at jY
   | some x =>
    obtain⟨j,bb⟩:=x;rw[hx]at jY;simp only[s6]at jY
    split at jY
    ·rename_i s' E3
     cases jY;exact⟨j,0,rfl,E3⟩
    ·cases jY
  have P5:s<C.N:=iN s wt rfl
  split at hs
  rotate_left
  ·rename_i oF
   cases hs;have gO:a.tmps.getD s undef=undef:=by
    have h1:=S.bj s;rw[oF]at h1
    cases hq:a.tmps.getD s undef with
    | tuple vs =>
     rw[hq]at h1
     cases h1 with
     | t vs _ hl _ =>
      have:vs = #[]:=by simpa using hl
      rw[this];rfl
    | _=>rw[hq]at h1;cases h1
   have iE:yielded ops a.tmps j=none:=by
    unfold yielded;rw[P4];have h3:s<a.tmps.size:=by rw[S.size];exact P5
    rw[Array.getD_eq_getD_getElem?,Array.getElem?_eq_getElem h3]at gO;simp only[Option.bind_some,Array.getElem?_eq_getElem h3];simp only[Option.getD_some]at gO;rw[gO];rfl
   have hw:¬ Region.wanted o (yielded ops a.tmps)=true:=by simp[Region.wanted,E2,iE]
   rw[if_neg hw];exact⟨ι,oD⟩
  ·cases hs
  rename_i c oF;have gO:a.tmps[s]? = some (.bool c):=by
   have h1:=S.bj s;rw[oF]at h1;have h2:=h1.int;have h3:s<a.tmps.size:=by rw[S.size];exact P5
   rw[Array.getD_eq_getD_getElem?,Array.getElem?_eq_getElem h3]at h2;rw[Array.getElem?_eq_getElem h3];simpa using h2
  have iE:yielded ops a.tmps j=some c:=by
   unfold yielded;rw[P4];simp[gO]
  split at hs
  ·rename_i jr
   split at hs
   rotate_left
   ·cases hs
   rename_i e he
   cases hs;have hw:Region.wanted o (yielded ops a.tmps)=true:=by simp[Region.wanted,E2,iE,jr]
   rw[if_pos hw];exact .inl (PK hΓ S hd hb bN zC he)
  ·rename_i jr
   cases hs;have hw:¬ Region.wanted o (yielded ops a.tmps)=true:=by simp[Region.wanted,E2,iE,jr]
   rw[if_neg hw];exact⟨ι,oD⟩
theorem E4{P:Program}{N:Nat}{ops:Array Oper}:∀ {l:List Oper} {i:Nat} {jK:List AO},J1 P N ops l i=some jK->jK.length=l.length/\∀(j:Nat)(o:Oper),l[j]? = some o->∃ ao,jK[j]? = some ao/\s7 P N ops o (i+j)=some ao/\ao.off=16*(i+j)
 | [],i,jK,h=>by simp[J1]at h;subst h;simp
 | o::l,i,jK,h=>by
  simp only[J1]at h
  split at h
  ·rename_i ao qE h1 h2
   cases h;obtain⟨h3,h4⟩:=E4 h2;refine⟨by simp[h3],λj o' hj=>?_⟩
   cases j with
   | zero =>
    simp at hj;subst hj;obtain⟨_,_,_,_,h5,_⟩:=E1 h1;exact⟨ao,rfl,h1,by rw[h5];rfl⟩
   | succ j =>
    simp at hj;obtain⟨P6,h5,h6,h7⟩:=h4 j o' hj;exact⟨P6,by simpa using h5,by rw[show i+(j+1)=i+1+j by omega];exact h6,by rw[show i+(j+1)=i+1+j by omega];exact h7⟩
  ·cases h
theorem P7(hΓ:JP C.P Γ){K:St->Prop}:∀(l:List Oper)(i:Nat)(jK:List AO)(σ:St)(a:Act)(w:World),J1 C.P C.N ops l i=some jK->(∀ j,l[j]? = ops[i+j]?)->
  cA C (λk=>σ.nx+16*i<=k) σ a w->gH Γ jK K σ->(∀ σ' a w,cA C (λk=>σ.nx+16*(i+l.length)<=k) σ' a w->σ'.nx=σ.nx->K σ'->Q .normal a w)->
  wpOps C.P ops Q (List.range' i l.length) a w
 | [],i,jK,σ,a,w,hc,hl,S,hk,hQ=>by
  simp[J1]at hc;subst hc;exact hQ σ a w (by simpa using S) rfl hk
 | o::l,i,jK,σ,a,w,hc,hl,S,hk,hQ=>by
  have h0:ops[i]? = some o:=by simpa using(hl 0).symm
  simp only[J1]at hc
  split at hc
  rotate_left
  ·cases hc
  rename_i ao qE h1 h2
  cases hc;have qF:ao.off=16*i:=by
   obtain⟨_,_,_,_,h5,_⟩:=E1 h1;rw[h5]
  have fP:∀ j,l[j]? = ops[i+1+j]?:=λj=>by have:=hl (j+1);simpa[Nat.add_assoc,Nat.add_comm 1 j]using this
  have go:∀ σ',(∃ ac wr,Zw Γ ao σ=some (σ',ac,wr))->gH Γ qE K σ'->σ'.nx=σ.nx->wpOps C.P ops Q (List.range' i (l.length+1)) a w:=by
   rintro σ' ⟨ac,wr,hs⟩ ez hn
   rw[List.range'_succ,wpOps_cons];refine wpOp_mono (λa' w' S'=>?_) (P3 (U':=λk=>σ.nx+16*(i+1)<=k) hΓ S h0 h1 (λk hk _=>hk) (λk hk=>⟨by omega,by omega⟩) hs);exact P7 hΓ l (i+1) qE σ' a' w' h2 fP (by rw[hn];exact S') ez (λσ2 a2 w2 S2 mh hK2=>hQ σ2 a2 w2 (by
    rw[hn]at S2;simpa[Nat.add_assoc,Nat.add_comm 1 l.length]using S2) (mh.trans hn) hK2)
  simp only[gH]at hk
  split at hk
  ·rename_i hg
   split at hk
   rotate_left
   ·exact hk.elim
   rename_i e he;exact go (σ.app ao.dst e) ⟨acc (aW.ev σ.t) ao.op,keys e.fU,by unfold Zw;simp only[hg,he]⟩ hk rfl
  ·rename_i s wt hg
   split at hk
   rotate_left
   ·rename_i oF;exact go _ ⟨[],[],by unfold Zw;simp only[hg,oF]⟩ hk rfl
   ·exact hk.elim
   rename_i c oF;by_cases jr:c=wt
   ·have hk:=hk.1 jr
    split at hk
    rotate_left
    ·exact hk.elim
    rename_i e he;exact go (σ.app ao.dst e) ⟨acc (aW.ev σ.t) ao.op,keys e.fU,by unfold Zw;simp only[hg,oF,jr,if_true,he]⟩ hk rfl
   ·exact go _ ⟨[],[],by unfold Zw;simp only[hg,oF,if_neg jr]⟩ (hk.2 jr) rfl
end
end Go.Proofs.YtdplaepmjogjjaaGreat.Am
namespace Go.Proofs.YtdplaepmjogjjaaGreat.Am
open Go Go.RowKit
def js(Γ:eA)(l:List AO)(L:Nat->List Nat × List Nat):List Nat->St->St->Prop
 | [],σ,σ'=>σ'=σ
 | i::p,σ,σ'=>∃ ao σ1,l[i]? = some ao/\Zw Γ ao σ=some (σ1,(L i).1,(L i).2)/\js Γ l L p σ1 σ'
def E5(l:List AO)(L:Nat->List Nat × List Nat)(i j:Nat):Prop :=
 ∀ oi oj,l[i]? = some oi->l[j]? = some oj->oi.free oj=true/\JE (L i).2 ((L j).1++(L j).2)=true/\JE (L j).2 (L i).1=true
theorem js.pull{Γ:eA}{l:List AO}{L:Nat->List Nat × List Nat}{j:Nat}{p2:List Nat}:∀(p1:List Nat){σ σ':St},js Γ l L (p1++j::p2) σ σ'->(∀ i,i∈p1->E5 l L i j)->js Γ l L (j::(p1++p2)) σ σ'
 | [],_,_,h,_=>h
 | i::p1,σ,σ',h,hi=>by
  obtain⟨ao,σ1,h1,h2,h3⟩:=h;obtain⟨bo,σ2,h4,h5,h6⟩:=js.pull p1 h3 λk hk=>hi k (List.mem_cons_of_mem _ hk);obtain⟨f1,f2,f3⟩:=hi i (List.mem_cons_self ..) ao bo h1 h4;obtain⟨σ1',h7,h8⟩:=swap f1 h2 h5 f2 f3;exact⟨bo,σ1',h4,h7,ao,σ2,h1,h8,h6⟩
theorem js.mem{Γ:eA}{l:List AO}{L:Nat->List Nat × List Nat}{j:Nat}:∀(p:List Nat){σ σ':St},js Γ l L p σ σ'->j∈p->∃ ao s s',l[j]? = some ao/\Zw Γ ao s=some (s',(L j).1,(L j).2)
 | [],_,_,_,hj=>by cases hj
 | i::p,σ,σ',h,hj=>by
  obtain⟨ao,σ1,h1,h2,h3⟩:=h
  rcases List.mem_cons.1 hj with rfl | hj
  ·exact⟨ao,σ,σ1,h1,h2⟩
  ·exact js.mem p h3 hj
theorem P8{Γ:eA}{l:List AO}{L:Nat->List Nat × List Nat}:∀(jK:List AO)(i:Nat)(σ σ':St)(log:List (List Nat × List Nat)),ZC Γ jK σ=some (σ',log)->(∀ j,jK[j]? = l[i+j]?)->(∀ j x,log[j]? = some x->L (i+j)=x)->
  js Γ l L (List.range' i jK.length) σ σ'/\log.length=jK.length
 | [],i,σ,σ',log,h,_,_=>by simp[ZC]at h;obtain⟨rfl,rfl⟩:=h;exact⟨rfl,rfl⟩
 | o::r,i,σ,σ',log,h,hl,hL=>by
  simp only[ZC]at h
  split at h
  rotate_left
  ·cases h
  rename_i σ1 a w hs
  split at h
  rotate_left
  ·cases h
  rename_i σ2 lg hr
  cases h;have h0:L i=(a,w):=hL 0 _ rfl;obtain⟨h1,h2⟩:=P8 r (i+1) σ1 σ' lg hr (λj=>by have:=hl (j+1);simpa[Nat.add_assoc,Nat.add_comm 1 j]using this) (λj x hx=>by
   have:=hL (j+1) x (by simpa using hx);rwa [show i+(j+1)=i+1+j by omega]at this)
  refine⟨?_,by simp[h2]⟩;rw[List.length_cons,List.range'_succ];exact⟨o,σ1,by simpa using(hl 0).symm,by rw[h0];exact hs,h1⟩
theorem P9{ev:aW->AV}{op:eb}(h:op.cQ=false):acc ev op=[]:=by
 cases op <;> simp[eb.cQ]at h <;> rfl
theorem Ra{Γ:eA}{ev:aW->AV}{h:Nat->aQ}{b:Nat}{op:eb}{e:fj}(hw:op.writes=false)(hd:Qv Γ ev h b op=some e):e.fU=[]:=by
 cases op <;> simp[eb.writes]at hw <;> simp only[Qv]at hd <;> (repeat' split at hd) <;> first | (cases hd;rfl) | cases hd | (have hd:=(Option.some.inj hd).symm;subst hd;rfl)
theorem Rb{op:eb}(h:op.cQ=false):op.writes=false:=by
 cases op <;> simp[eb.cQ]at h <;> rfl
theorem Rc{Γ:eA}{o:AO}{s s':St}{a w:List Nat}(h:Zw Γ o s=some (s',a,w)):(o.op.cQ=false->a=[])/\(o.op.writes=false->w=[]):=by
 unfold Zw at h
 split at h
 ·split at h
  rotate_left
  ·cases h
  rename_i e he
  cases h;exact⟨P9,λhw=>by rw[Ra hw he];rfl⟩
 ·split at h
  rotate_left
  ·cases h;exact⟨λ_=>rfl,λ_=>rfl⟩
  ·cases h
  split at h
  ·split at h
   rotate_left
   ·cases h
   rename_i e he
   cases h;exact⟨P9,λhw=>by rw[Ra hw he];rfl⟩
  ·cases h;exact⟨λ_=>rfl,λ_=>rfl⟩
theorem Re(l:List Nat):JE l []=true:=by unfold JE;simp
theorem Rf{Γ:eA}{o:AO}{s s':St}{a w:List Nat}(h:Zw Γ o s=some (s',a,w)):s'.nx=s.nx:=by
 obtain⟨v,bl,rfl,_⟩:=EX h;rfl
theorem QUA{ops:Array Oper}{i j:Nat}(qG:i<j)(hj:j<ops.size)(hw:p5 ops i j=false):(i,j)∈ZW ops:=by
 unfold ZW Ox;rw[List.mem_flatMap];refine⟨j,List.mem_range.2 hj,?_⟩;rw[List.mem_filterMap];unfold p5 at hw;exact⟨i,List.mem_range.2 qG,by rw[hw];simp⟩
theorem QJB{Γ:eA}{l:List AO}{ops:Array Oper}{σ σ':St}{log:List (List Nat × List Nat)}(i6:Oy l (ZW ops)=true)(E6:s0 log (DQ l (ZW ops))=true)
  (hlen:log.length=l.length) (hr:js Γ l (λj=>(log[j]?).getD ([],[])) (List.range' 0 l.length) σ σ') {i j:Nat} (qG:i<j) (hj:j<ops.size) (mq:j<l.length) (hw:p5 ops i j=false) :
  E5 l (λj=>(log[j]?).getD ([],[])) i j:=by
 have hm:=QUA qG hj hw;intro oi oj hi E7;have f1:oi.free oj=true:=by
  have:=List.all_eq_true.1 i6 (i,j) hm;simpa[hi,E7]using this
 obtain⟨ai,s1,s1',Rg,mB⟩:=js.mem (j:=i) _ hr (by simp;omega);obtain⟨aj,s2,s2',Rh,E8⟩:=js.mem (j:=j) _ hr (by simp;omega);rw[hi]at Rg;rw[E7]at Rh
 cases Rg
 cases Rh;obtain⟨q1,q2⟩:=Rc mB;obtain⟨q3,q4⟩:=Rc E8;refine⟨f1,?_⟩;by_cases fe:(i,j)∈DQ l (ZW ops)
 ·have:=List.all_eq_true.1 E6 (i,j) fe;obtain⟨x,hx⟩:∃ x,log[i]? = some x:=⟨log[i]'(by omega),List.getElem?_eq_getElem (by omega)⟩
  obtain⟨y,hy⟩:∃ y,log[j]? = some y:=⟨log[j]'(by omega),List.getElem?_eq_getElem (by omega)⟩
  obtain⟨a,w⟩:=x;obtain⟨a',w'⟩:=y;simp only[hx,hy,Bool.and_eq_true]at this;simp only[hx,hy,Option.getD_some];exact this
 ·have fm:(oi.op.cQ&&oj.op.cQ&&(oi.op.writes||oj.op.writes))=false:=by
   cases hb:(oi.op.cQ&&oj.op.cQ&&(oi.op.writes||oj.op.writes)) with
   | false=>rfl
   | true=>exact absurd (List.mem_filter.2 ⟨hm,by simp only[hi,E7,hb]⟩) fe
  cases t1:oi.op.cQ with
  | false =>
   rw[q1 t1,q2 (Rb t1)];exact⟨rfl,Re _⟩
  | true =>
   cases t2:oj.op.cQ with
   | false =>
    rw[q3 t2,q4 (Rb t2)];exact⟨Re _,rfl⟩
   | true =>
    rw[t1,t2]at fm;simp only[Bool.and_self,Bool.true_and,Bool.or_eq_false_iff]at fm;rw[q2 fm.1,q4 fm.2];exact⟨rfl,rfl⟩
def qH(nx n:Nat)(p:List Nat)(k:Nat):Prop:=nx+16*n<=k\/∃ j,j∈p/\nx+16*j<=k/\k<nx+16*j+16
theorem Ri:∀(l:List Oper)(acc:List (List Nat)),(∀(k:Nat)(x:List Nat),acc[k]? = some x->(p4 l acc)[k]? = some x)/\
  ∀(j:Nat)(o:Oper),l[j]? = some o->∀ x,x∈((p4 l acc)[acc.length+j]?).getD []->∃ k,k∈Y9 o/\(x=k\/x∈((p4 l acc)[k]?).getD [])
 | [],acc=>⟨λk x h=>h,λj o h=>by simp at h⟩
 | o::l,acc=>by
  obtain⟨h1,h2⟩:=Ri l (acc++[((Y9 o).flatMap λk=>k::(acc[k]?).getD []).eraseDups]);have wc:∀(k:Nat)(x:List Nat),acc[k]? = some x->(p4 (o::l) acc)[k]? = some x:=λk x hk=>h1 k x (by rw[List.getElem?_append_left (List.getElem?_eq_some_iff.1 hk).1];exact hk);refine⟨wc,λj o' hj x hx=>?_⟩
  cases j with
  | zero =>
   simp only[List.getElem?_cons_zero,Option.some.injEq]at hj;subst hj;have h3:=h1 acc.length ((Y9 o).flatMap λk=>k::(acc[k]?).getD []).eraseDups (by simp);have h3:(p4 (o::l) acc)[acc.length]? = some (((Y9 o).flatMap λk=>k::(acc[k]?).getD []).eraseDups):=h3;rw[Nat.add_zero,h3,Option.getD_some]at hx;rw[List.mem_eraseDups,List.mem_flatMap]at hx;obtain⟨k,hk,hx⟩:=hx;refine⟨k,hk,?_⟩
   rcases List.mem_cons.1 hx with h | h
   ·exact .inl h
   ·right
    cases hq:acc[k]? with
    | none=>rw[hq]at h;cases h
    | some y=>rw[hq]at h;rw[wc k y hq];exact h
  | succ j =>
   have:=h2 j o' (by simpa using hj) x (by
    rw[List.length_append,List.length_singleton,Nat.add_assoc,Nat.add_comm 1 j];exact hx)
   exact this
theorem QPB{ops:Array Oper}{j:Nat}{o:Oper}(ho:ops[j]? = some o){x:Nat}(hx:x∈((kt ops)[j]?).getD []):∃ k,k∈Y9 o/\(x=k\/x∈((kt ops)[k]?).getD []):=by
 have:=(Ri ops.toList []).2 j o (by simpa using ho) x (by simpa[kt]using hx);exact this
theorem Rj{o:Oper}{k:Nat}(h:k∈Y9 o):∃ e∈o.after,Region.binds .any e=true/\e.on=k:=by
 unfold Y9 at h;obtain⟨e,he,rfl⟩:=List.mem_map.1 h;obtain⟨h1,h2⟩:=List.mem_filter.1 he;exact⟨e,by simpa using h1,h2,rfl⟩
theorem QTD{ops:Array Oper}{p:List Nat}(j8:DP ops=true)(lq:∀(j:Nat)(o:Oper),ops[j]? = some o->j∉p->∀ k,k∈Y9 o->k∉p){j:Nat}{o:Oper}(ho:ops[j]? = some o)(hd:∀ k,k∈Y9 o->k∉p){i:Nat}(hi:i∈p):p5 ops i j=false:=by
 have key:∀(n j:Nat)(o:Oper),j<n->ops[j]? = some o->(∀ k,k∈Y9 o->k∉p)->∀ x,x∈((kt ops)[j]?).getD []->x∉p:=by
  intro n
  induction n with
  | zero=>intro j o hj;omega
  | succ n ih =>
   intro j o hj ho hd x hx;obtain⟨k,hk,h⟩:=QPB ho hx
   rcases h with rfl | h
   ·exact hd _ hk
   ·have hkj:k<j:=by
     obtain⟨e,he,hb,rfl⟩:=Rj hk;have h1:=List.all_eq_true.1 j8 j (List.mem_range.2 (Array.getElem?_eq_some_iff.1 ho).1);rw[ho]at h1;have h2:=Array.all_eq_true_iff_forall_mem.1 h1 e he;simpa[hb]using h2
    have zD:k<ops.size:=by have:=(Array.getElem?_eq_some_iff.1 ho).1;omega
    exact ih k ops[k] (by omega) (Array.getElem?_eq_getElem zD) (lq k ops[k] (Array.getElem?_eq_getElem zD) (hd k hk)) x h
 cases hw:p5 ops i j with
 | false=>rfl
 | true =>
  unfold p5 at hw;exact absurd hi (key (j+1) j o (by omega) ho hd i (by simpa using hw))
section
variable {C:Ctx} {Q:Exit->Act->World->Prop} {Γ:eA} {ops:Array Oper}
theorem QWt(hΓ:JP C.P Γ){l:List AO}{L:Nat->List Nat × List Nat}{σf:St}{nx:Nat}(hc:J1 C.P C.N ops ops.toList 0=some l)(j8:DP ops=true)
  (E9:∀ i j,i<j->j<ops.size->p5 ops i j=false->E5 l L i j)
  (hQ:∀ a w,cA C (λk=>nx+16*ops.size<=k) σf a w->Q .normal a w) :
  ∀(fuel:Nat)(p:List Nat)(cG:Array Bool)(σ:St)(a:Act)(w:World),p.length<=fuel->p.Pairwise (· < ·)->(∀ j,j∈p->j<ops.size)->(∀ j,j<ops.size->(cG.getD j true=false↔j∈p))->
   cG.size=ops.size->(∀(j:Nat)(o:Oper),ops[j]? = some o->j∉p->∀ k,k∈Y9 o->k∉p)->σ.nx=nx->js Γ l L p σ σf->cA C (qH nx ops.size p) σ a w->wpAny C.P .any ops Q fuel cG a w:=by
 have eK:∀(i:Nat)(o:Oper),ops[i]? = some o->∃ ao,l[i]? = some ao/\s7 C.P C.N ops o i=some ao:=λi o ho=>by
  obtain⟨_,h⟩:=E4 hc;obtain⟨ao,h1,h2,_⟩:=h i o (by simpa using ho);exact⟨ao,h1,by simpa using h2⟩
 have oG:∀(σ:St)(a:Act)(w:World)(cG:Array Bool),(∀ j,j<ops.size->(cG.getD j true=false↔j∈([]:List Nat)))->σ.nx=nx->js Γ l L [] σ σf->cA C (qH nx ops.size []) σ a w->Region.ready .any ops cG=[]/\Q .normal a w:=by
  intro σ a w cG hl hn hr S;refine⟨?_,?_⟩
  ·cases hx:Region.ready .any ops cG with
   | nil=>rfl
   | cons i r =>
    have hi:i∈Region.ready .any ops cG:=by rw[hx];exact List.mem_cons_self ..
    obtain⟨h0,o,ho,_⟩:=mem_ready.1 hi;have:=(hl i (Array.getElem?_eq_some_iff.1 ho).1).1 h0
    cases this
  ·have hr:σf=σ:=hr;subst hr;obtain⟨ι,S⟩:=S;exact hQ a w ⟨ι,S.qD λk hk=>.inl hk⟩
 intro fuel
 induction fuel with
 | zero =>
  intro p cG σ a w hf hp aU hl bV lq hn hr S;have:p=[]:=List.eq_nil_of_length_eq_zero (by omega);subst this;exact oG σ a w cG hl hn hr S
 | succ fuel ih =>
  intro p cG σ a w hf hp aU hl bV lq hn hr S;refine⟨λh0=>?_,λi hi=>?_⟩
  ·cases p with
   | nil=>exact(oG σ a w cG hl hn hr S).2
   | cons j p =>
    exfalso;have hj:=aU j (List.mem_cons_self ..);have Rk:j∈Region.ready .any ops cG:=by
     refine mem_ready.2 ⟨(hl j hj).2 (List.mem_cons_self ..),ops[j],Array.getElem?_eq_getElem hj,λe he hb=>?_⟩;have h1:=List.all_eq_true.1 j8 j (List.mem_range.2 hj);rw[Array.getElem?_eq_getElem hj]at h1;have h2:=Array.all_eq_true_iff_forall_mem.1 h1 e he;simp only[hb,Bool.not_true,Bool.false_or,decide_eq_true_eq]at h2;have h3:e.on∉j::p:=by
      intro hm
      rcases List.mem_cons.1 hm with h | h
      ·omega
      ·have:=List.rel_of_pairwise_cons hp h;omega
     have h4:e.on<cG.size:=by omega
     have h5:¬ cG.getD e.on true=false:=λh=>h3 ((hl e.on (by omega)).1 h);simp only[Array.getD,h4,dif_pos]at h5 ⊢;simpa using h5
    rw[h0]at Rk
    cases Rk
  ·obtain⟨h0,o,ho,ew⟩:=mem_ready.1 hi;have fe:i<ops.size:=(Array.getElem?_eq_some_iff.1 ho).1;have Rl:i∈p:=(hl i fe).1 h0;obtain⟨p1,p2,rfl⟩:=List.append_of_mem Rl;have Rm:=List.pairwise_append.1 hp;have we:∀ k,k∈p1->k<i:=λk hk=>Rm.2.2 k hk i (List.mem_cons_self ..);have i7:∀ k,k∈p2->i<k:=λk hk=>List.rel_of_pairwise_cons Rm.2.1 hk;have oH:∀ k,k∈Y9 o->k∉p1++i::p2:=λk hk hm=>by
    obtain⟨e,he,hb,rfl⟩:=Rj hk;have h1:=ew e he hb;have p7:=aU _ hm;have h2:=(hl e.on p7).2 hm;have h4:e.on<cG.size:=by omega
    simp only[Array.getD,h4,dif_pos]at h1 h2;rw[h1]at h2
    cases h2
   have hr':=js.pull p1 hr λk hk =>
    E9 k i (we k hk) fe (QTD j8 lq ho oH (List.mem_append.2 (.inl hk)))
   obtain⟨ao,σ1,h1,h2,h3⟩:=hr';obtain⟨P6,h4,h5⟩:=eK i o ho;rw[h4]at h1
   cases h1;have dF:∀ k,k∈p1++p2↔k∈p1++i::p2/\k≠i:=by
    intro k;simp only[List.mem_append,List.mem_cons];constructor
    ·rintro(h | h)
     ·exact⟨.inl h,by have:=we k h;omega⟩
     ·exact⟨.inr (.inr h),by have:=i7 k h;omega⟩
    ·rintro⟨h | h | h,hk⟩
     ·exact .inl h
     ·exact absurd h hk
     ·exact .inr h
   refine wpOp_mono (λa' w' S'=>?_) (P3 (U':=qH nx ops.size (p1++p2)) hΓ S ho h5 (λk k1 k2=>.inr ⟨i,Rl,by omega,by omega⟩) (λk hk=>?_) h2)
   ·refine ih (p1++p2) _ σ1 a' w' ?_ ?_ (λj hj=>aU j ((dF j).1 hj).1) (λj hj=>?_) (by simpa using bV) (λj o' iR hj k hk=>?_) ((Rf h2).trans hn) h3 S'
    ·simp only[List.length_append,List.length_cons]at hf ⊢;omega
    ·exact hp.sublist (List.Sublist.append (List.Sublist.refl _) (List.sublist_cons_self ..))
    ·rw[dF];by_cases tv:j=i
     ·subst tv;have:j<cG.size:=by omega
      simp[this]
     ·rw[getD_set_ne true (Ne.symm tv),hl j hj];exact⟨λh=>⟨h,tv⟩,λh=>h.1⟩
    ·intro jX;have jX:=((dF k).1 jX).1;by_cases tv:j=i
     ·subst tv;rw[ho]at iR
      cases iR;exact oH k hk jX
     ·exact lq j o' iR (λhm=>hj ((dF j).2 ⟨hm,tv⟩)) k hk jX
   ·rcases hk with hk | ⟨j,hj,k1,k2⟩
    ·refine⟨.inl hk,?_⟩;omega
    ·have Rn:=(dF j).1 hj;refine⟨.inr ⟨j,Rn.1,k1,k2⟩,?_⟩;have:=Rn.2;omega
end
end Go.Proofs.YtdplaepmjogjjaaGreat.Am
namespace Go.Proofs.YtdplaepmjogjjaaGreat.Am
open Go Go.RowKit
def mg.up:mg->Exit
 | .normal=>.normal
 | .exit id=>.exit id
 | .ret=>.ret
def Fa(C:Ctx)(Qa:mg->St->Prop)(Q:Exit->Act->World->Prop):Prop:=∀ e σ a w,Qa e σ->fa C σ a w->Q e.up a w
theorem QYV{p:Nat->Prop}(h:∃ n,p n):∃ n,p n/\∀ m,p m->n<=m:=by
 obtain⟨n,hn⟩:=h
 induction n using Nat.strongRecOn with
 | _ n ih =>
  by_cases hx:∃ m,m<n/\p m
  ·obtain⟨m,hm,hp⟩:=hx;exact ih m hm hp
  ·refine⟨n,hn,λm hm=>?_⟩
   rcases Nat.lt_or_ge m n with h1 | h1
   ·exact absurd ⟨m,h1,hm⟩ hx
   ·exact h1
theorem QQk{α:Type}(p:α->Nat->Prop):∃ f:α->Nat,∀ x,(∃ n,p x n)->p x (f x)/\∀ m,p x m->f x<=m:=by
 have:∀ x,∃ n,(∃ n,p x n)->p x n/\∀ m,p x m->n<=m:=by
  intro x;by_cases h:∃ n,p x n
  ·obtain⟨n,hn⟩:=QYV h;exact⟨n,λ_=>hn⟩
  ·exact⟨0,λh'=>absurd h' h⟩
 exact⟨λx=>(this x).choose,λx hx=>(this x).choose_spec hx⟩
theorem fa.fW{C:Ctx}{σ:St}{a:Act}{w:World}{n:Nat}(S:cA C (λk=>σ.nx+n<=k) σ a w):fa C (σ.fW n) a w:=by
 obtain⟨ι,S⟩:=S;exact⟨ι,S.nx⟩
theorem Sat.drawn{C:Ctx}{U:Nat->Prop}{σ:St}{a:Act}{w:World}{ι:Io}(S:Sat C U σ a w ι)(n:Nat):Sat C U σ a { w with drawn:=n } ι:=by
 have hr:∀ id,Rest w { w with drawn:=n } ι ι id:=λid=>⟨rfl,rfl,λ_ _=>rfl,λb p hk=>⟨hk,rfl⟩⟩
 exact S.ej (Ou:=σ.nx) ⟨S.dE.os,S.dE.tape,S.dE.output,S.dE.size,S.dE.block⟩ (λb hb=>⟨hb,rfl⟩) (λid=>(hr id).gE rfl) (λi cs hx=>by rw[hx];simp) (λid=>.inl ⟨rfl,hr id⟩) S.inj S.eh S.fresh S.live
  (λb id p hk=>let L:=S.dg b id p hk;⟨L.pn,L.dp,L.fr,L.lt,L.ne⟩)
theorem Ro{C:Ctx}{U:Nat->Prop}{σ:St}{a:Act}{w:World}{ι:Io}(S:Sat C U σ a w ι){x:Operand}{x':aW}{ty:TypeId}(hx:cO C.P ty x=some x'){b:Bool}(hv:x'.ev σ.t = .c (.v (.bool b))):a.eval x = .bool b:=by
 have h1:=Zs S hx;rw[hv]at h1;exact h1.int
section
variable {C:Ctx} {Γ:eA}
theorem wh(hm:C.P.follows .mixedOrders=true)(hΓ:JP C.P Γ):∀(c:Code)(ac:eC)(Qa:mg->St->Prop)(Q:Exit->Act->World->Prop)(σ:St)(a:Act)(w:World),comp C.P C.N c=some ac->
  kq Γ ac Qa σ->fa C σ a w->Fa C Qa Q->c.wp C.P Q a w:=by
 intro c
 induction c with
 | skip =>
  intro ac Qa Q σ a w hc h S hQ;simp only[comp,Option.some.injEq]at hc;subst hc;exact wp_skip (hQ .normal σ a w h S)
 | region id ops draw =>
  intro ac Qa Q σ a w hc h S hQ;simp only[comp]at hc
  split at hc
  rotate_left
  ·cases hc
  rename_i l hl;have hlen:l.length=ops.size:=by have:=(E4 hl).1;simpa using this
  cases draw with
  | false =>
   simp only[Bool.false_eq_true,if_false,Option.some.injEq]at hc;subst hc;refine wp_region ?_;rw[List.range_eq_range',show ops.size=ops.toList.length by simp];refine P7 hΓ ops.toList 0 l σ a w hl (λj=>by simp) (by simpa[fa]using S) h (λσ' a' w' S' hn hk=>?_);refine hQ .normal _ a' w' hk (fa.fW ?_);rw[hn];simpa[hlen]using S'
  | true =>
   simp only[if_true]at hc
   split at hc
   rotate_left
   ·cases hc
   rename_i Fb;rw[Bool.and_eq_true]at Fb;have hc:=(Option.some.inj hc).symm;subst hc;simp only[kq]at h
   split at h
   rotate_left
   ·exact h.elim
   rename_i σ' log hd;obtain⟨fm,hk⟩:=h;obtain⟨hr,hll⟩:=P8 (l:=l) (L:=λj=>(log[j]?).getD ([],[])) l 0 σ σ' log hd (λj=>by simp) (λj x hx=>by simp[hx]);refine wp_region_any hm ?_;obtain⟨ι,S⟩:=S;have hn:σ'.nx=σ.nx:=by
    have:∀(p:List Nat)(s s':St),js Γ l (λj=>(log[j]?).getD ([],[])) p s s'->s'.nx=s.nx:=by
     intro p
     induction p with
     | nil=>intro s s' h;rw[show s'=s from h]
     | cons i p ih =>
      intro s s' h;obtain⟨ao,s1,_,h2,h3⟩:=h;exact(ih s1 s' h3).trans (Rf h2)
    exact this _ _ _ hr
   refine QWt hΓ (nx:=σ.nx) (σf:=σ') hl Fb.2 (λi j qG hj hw=>QJB Fb.1 fm hll hr qG hj (by omega) hw) (λa' w' S'=>?_) ops.size (List.range' 0 l.length) _ σ a _ (by simp[hlen]) ?_ (λj hj=>by simp at hj;omega) (λj hj=>by simp[hj,hlen]) (by simp) (λj o ho hj=>absurd (show j∈List.range' 0 l.length by have:=(Array.getElem?_eq_some_iff.1 ho).1;simp[hlen];omega) hj) rfl hr ⟨ι,(S.drawn _).qD λk hk=>?_⟩
   ·refine hQ .normal _ a' w' hk (fa.fW ?_);rw[hn,hlen];exact S'
   ·exact List.pairwise_lt_range'
   ·show σ.nx<=k
    rcases hk with hk | ⟨j,_,hk,_⟩ <;> omega
 | seq x y wi qI =>
  intro ac Qa Q σ a w hc h S hQ;simp only[comp]at hc
  split at hc
  rotate_left
  ·cases hc
  rename_i x' y' hx hy
  cases hc;simp only[kq]at h;refine wp_seq (wi _ _ _ σ a w hx h S ?_);intro e σ' a' w' he S'
  cases e with
  | normal=>exact qI _ _ _ σ' a' w' hy he S' hQ
  | exit id=>exact hQ _ _ _ _ he S'
  | ret=>exact hQ _ _ _ _ he S'
 | cond x y z qI ihz =>
  intro ac Qa Q σ a w hc h S hQ;simp only[comp]at hc
  split at hc
  rotate_left
  ·cases hc
  rename_i x' y' z' hx hy hz
  cases hc;simp only[kq]at h
  split at h
  rotate_left
  ·exact h.elim
  rename_i t ht;obtain⟨ι,S0⟩:=S;exact wp_cond_split (Ro S0 hx ht) (λe=>qI _ _ _ σ a w hy (h.1 e) ⟨ι,S0⟩ hQ) (λe=>ihz _ _ _ σ a w hz (h.2 e) ⟨ι,S0⟩ hQ)
 | block id x ih =>
  intro ac Qa Q σ a w hc h S hQ;simp only[comp,Option.map_eq_some_iff]at hc;obtain⟨x',hx,rfl⟩:=hc;simp only[kq]at h;refine wp_block (ih _ _ _ σ a w hx h S ?_);intro e σ' a' w' he S'
  cases e with
  | normal=>exact hQ _ _ _ _ he S'
  | ret=>exact hQ _ _ _ _ he S'
  | exit b8 =>
   simp only at he;show Exit.inBlock id Q (.exit b8) a' w';simp only[Exit.inBlock]
   split
   ·rename_i heq;rw[if_pos heq]at he;exact hQ .normal _ _ _ he S'
   ·rename_i heq;rw[if_neg heq]at he;exact hQ (.exit b8) _ _ _ he S'
 | loop x ih =>
  intro ac Qa Q σ a w hc h S hQ;simp only[comp,Option.map_eq_some_iff]at hc;obtain⟨x',hx,rfl⟩:=hc;simp only[kq]at h;obtain⟨I,μ,hI,lP⟩:=h;obtain⟨f,hf⟩:=QQk (λ(x:Act × World) n=>∃ σ,I σ/\fa C σ x.1 x.2/\μ σ=n);refine wp_loop (λa w=>∃ σ,I σ/\fa C σ a w) (λa w=>f (a,w)) ⟨σ,hI,S⟩ (λa w ⟨σ0,h0,S0⟩=>?_);obtain⟨⟨σ1,h1,S1,h2⟩,_⟩:=hf (a,w) ⟨_,σ0,h0,S0,rfl⟩;refine ih _ _ _ σ1 a w hx (lP σ1 h1) S1 ?_;intro e σ' a' w' he S'
  cases e with
  | normal =>
   obtain⟨h3,h4⟩:=he;refine⟨⟨σ',h3,S'⟩,?_⟩;have:=(hf (a',w') ⟨_,σ',h3,S',rfl⟩).2 _ ⟨σ',h3,S',rfl⟩;show f (a',w')<f (a,w);omega
  | exit id=>exact hQ _ _ _ _ he S'
  | ret=>exact hQ _ _ _ _ he S'
 | exit id =>
  intro ac Qa Q σ a w hc h S hQ;simp only[comp,Option.some.injEq]at hc;subst hc;exact wp_exit (hQ (.exit id) σ a w h S)
 | ret =>
  intro ac Qa Q σ a w hc h S hQ;simp only[comp,Option.some.injEq]at hc;subst hc;exact wp_ret (hQ .ret σ a w h S)
 | _=>intro ac Qa Q σ a w hc;simp[comp]at hc
end
end Go.Proofs.YtdplaepmjogjjaaGreat.Am
namespace Go.Proofs.YtdplaepmjogjjaaGreat.Am
open Go Go.RowKit
inductive bm where
 | t (s:Nat)
 | l (s n:Nat) (agg:Bool)
def zE(P:Program):ResultVar->Option bm
 | .tmp t=>some (.t t)
 | .cell a ty=>match cB P ty,JQ P ty with
  | some n,some agg=>some (.l a (if agg then n else 1) agg)
  | _,_=>none
def kC(P:Program):List ResultVar->Option (List bm)
 | []=>some []
 | x::xs=>match zE P x,kC P xs with
  | some y,some ys=>some (y::ys)
  | _,_=>none
def zF:eA:=⟨λ_=>[],λ_ _=>none,false⟩
def bm.get(σ:St):bm->Option AV
 | .t s=>some (σ.t s)
 | .l s n agg=>match Qv zF (aW.ev σ.t) σ.h 0 (.load (.s s) n agg) with
  | some e=>some e.val
  | none=>none
def qJ(σ:St):List bm->Option (List AV)
 | []=>some []
 | x::xs=>match x.get σ,qJ σ xs with
  | some y,some ys=>some (y::ys)
  | _,_=>none
def Rp:List AV->AV
 | [x]=>x
 | xs=>.t xs
def AV.eV(ids:List Nat):AV->AV
 | .r sz id off len=>if id∈ids then .r sz (ids.idxOf id) off len else .u
 | .p id i j=>if id∈ids then .p (ids.idxOf id) i j else .u
 | .c d=>.c d
 | .n sz=>.n sz
 | .q cs j=>.q cs j
 | _=>.u
def AV.i9(ids:List Nat):AV->AV
 | .a cs=>.a (cs.map (AV.eV ids))
 | x=>x.eV ids
def AV.rn(ids:List Nat):AV->AV
 | .t vs=>.t (vs.map (AV.i9 ids))
 | x=>x.i9 ids
def aQ.rn(ids:List Nat):aQ->aQ
 | .box cs=>.box (cs.map (AV.eV ids))
 | x=>x
def oI(h:Nat->aQ):Nat->Nat->Option (List (List AV))
 | 0,_=>some []
 | n+1,k=>match h k,oI h n (k+1) with
  | .box cs,some cD=>if cs.all mv then some (cs::cD) else none
  | _,_=>none
def J2(h:Nat->aQ):Nat->Nat->Option (List aQ)
 | 0,_=>some []
 | n+1,k=>match h k,J2 h n (k+1) with
  | .sl e sz m es,some cD=>some (.sl e sz m es::cD)
  | .dead,some cD=>some (.dead::cD)
  | _,_=>none
def zG(n m:Nat)(ids:List Nat)(σ:St)(v:AV):Option ik :=
 match oI σ.h n 0,J2 σ.h m n with
 | some cD,some gs=>some ⟨v.rn ids,ids.map λid=>(σ.h id).rn ids,cD,true,gs⟩
 | _,_=>none
def fI:List AV->Nat->List AV
 | [],_=>[]
 | .ow _ sz _ es::r,m=>.r sz m 0 es.length::fI r (m+1)
 | x::r,m=>x::fI r m
def Z2:List AV->List aQ
 | []=>[]
 | .ow e sz m es::r=>.sl e sz m es::Z2 r
 | _::r=>Z2 r
def dK:List AV->Nat->Nat->List AV
 | [],_,_=>[]
 | .bx _::r,k,m=>.p k 0 0::dK r (k+1) m
 | .ow _ sz _ es::r,k,m=>.r sz m 0 es.length::dK r k (m+1)
 | .a cs::r,k,m=>.a (fI cs m)::dK r k (m+(Z2 cs).length)
 | x::r,k,m=>x::dK r k m
def dC:List AV->List aQ
 | []=>[]
 | .ow e sz m es::r=>.sl e sz m es::dC r
 | .a cs::r=>Z2 cs++dC r
 | _::r=>dC r
def cL:List AV->List (List AV)
 | []=>[]
 | .bx cs::r=>cs::cL r
 | _::r=>cL r
def Jw(xs:List AV):St :=
 ⟨λs=>((dK xs 0 (cL xs).length)[s]?).getD .u,λi=>match(cL xs)[i]? with | some cs=>.box cs | none=>((dC xs)[i-(cL xs).length]?).getD .none,(cL xs).length+(dC xs).length⟩
def mg.over:mg->Prop
 | .normal=>True
 | .ret=>True
 | .exit _=>False
theorem Rq{P:Program}{w:World}{α:Type}(f:α->Sem Value):∀(l:List α)(rest:List Value),rest.length=l.length->
  (∀(k:Nat)(v:Value)(x:α),rest[k]? = some v->l[k]? = some x->(f x).run P w = .ok v w)->(l.mapM f).run P w = .ok rest w
 | [],[],_,_=>by simp
 | [],v::rest,hl,_=>by simp at hl
 | x::l,[],hl,_=>by simp at hl
 | x::l,v::rest,hl,h=>by
  rw[List.mapM_cons,Sem.run_bind,h 0 v x rfl rfl,Result.andThen_ok,Sem.run_bind,Rq f l rest (by simpa using hl) (λk v x hk hx=>h (k+1) v x hk hx),Result.andThen_ok,Sem.run_pure]
theorem Rr{h:Nat->aQ}:∀ {n k:Nat} {cD:List (List AV)},oI h n k=some cD->cD.length=n/\∀(i:Nat)(cs:List AV),cD[i]? = some cs->h (k+i) = .box cs/\cs.all mv=true
 | 0,k,cD,hx=>by simp[oI]at hx;subst hx;simp
 | n+1,k,cD,hx=>by
  simp only[oI]at hx
  split at hx
  ·rename_i cs lQ h1 h2
   split at hx
   ·rename_i h3;have hx:=(Option.some.inj hx).symm;subst hx;obtain⟨h4,h5⟩:=Rr h2;refine⟨by simp[h4],λi c hi=>?_⟩
    cases i with
    | zero=>simp at hi;subst hi;exact⟨h1,h3⟩
    | succ i =>
     simp at hi;rw[show k+(i+1)=k+1+i by omega];exact h5 i c hi
   ·cases hx
  ·cases hx
theorem Fc{h:Nat->aQ}:∀ {n k:Nat} {cD:List aQ},J2 h n k=some cD->cD.length=n/\∀(i:Nat)(B:aQ),cD[i]? = some B->h (k+i)=B/\(B = .dead\/∃ e sz m es,B = .sl e sz m es)
 | 0,k,cD,hx=>by simp[J2]at hx;subst hx;simp
 | n+1,k,cD,hx=>by
  simp only[J2]at hx
  split at hx
  ·rename_i e sz m es lQ h1 h2
   cases hx;obtain⟨h4,h5⟩:=Fc h2;refine⟨by simp[h4],λi c hi=>?_⟩
   cases i with
   | zero=>simp at hi;subst hi;exact⟨h1,.inr ⟨_,_,_,_,rfl⟩⟩
   | succ i =>
    simp at hi;rw[show k+(i+1)=k+1+i by omega];exact h5 i c hi
  ·rename_i lQ h1 h2
   cases hx;obtain⟨h4,h5⟩:=Fc h2;refine⟨by simp[h4],λi c hi=>?_⟩
   cases i with
   | zero=>simp at hi;subst hi;exact⟨h1,.inl rfl⟩
   | succ i =>
    simp at hi;rw[show k+(i+1)=k+1+i by omega];exact h5 i c hi
  ·cases hx
section
variable {w:World} {F F':Nat->Prop} {ι ι':Io} {h h':Nat->aQ} {ids:List Nat}
theorem YD{id:Nat}(a8:id∈ids):ids[ids.idxOf id]? = some id:=by
 have h1:ids.idxOf id<ids.length:=List.idxOf_lt_length_of_mem a8;rw[List.getElem?_eq_getElem h1,List.getElem_idxOf h1]
variable (hF:∀ b,F b->F' b) (hh:∀ i id,ids[i]? = some id->h' i=(h id).rn ids/\ι' i=ι id/\ι'.o i=ι.o id)
include hF hh
theorem VR.eV{v:Value}{x:AV}(hv:VR w F ι h v x):VR w F' ι' h' v (x.eV ids):=by
 cases hv with
 | u=>exact .u _
 | c v d hr=>exact .c _ _ (hr.mono λb hb=>⟨hF b hb,rfl⟩)
 | n sz=>exact .n _
 | cz v sz id off len h1 hd =>
  simp only[AV.eV]
  split
  ·rename_i hm;exact .cz _ _ _ _ _ h1 (by rw[(hh _ _ (YD hm)).1,hd];rfl)
  ·exact .u _
 | cM id e sz m hi hx =>
  simp only[AV.eV]
  split
  ·rename_i hm;exact .cM _ e sz m ((hh _ _ (YD hm)).2.1.trans hi) (by rw[(hh _ _ (YD hm)).1,hx];rfl)
  ·exact .u _
 | df ad cap id e sz m hi hx ht =>
  simp only[AV.eV]
  split
  ·rename_i hm;exact .df ad cap _ e sz m ((hh _ _ (YD hm)).2.1.trans hi) (by rw[(hh _ _ (YD hm)).1,hx];rfl) ht
  ·exact .u _
 | r id off len bk ao cap e sz m es hi hx hlen ck jn cY =>
  simp only[AV.eV]
  split
  ·rename_i hm;exact .r _ off len bk ao cap e sz m es ((hh _ _ (YD hm)).2.1.trans hi) (by rw[(hh _ _ (YD hm)).1,hx];rfl) hlen ck (by rw[(hh _ _ (YD hm)).2.2];exact jn) cY
  ·exact .u _
 | cT v id i j h1 hd =>
  simp only[AV.eV]
  split
  ·rename_i hm;exact .cT _ _ _ _ h1 (by rw[(hh _ _ (YD hm)).1,hd];rfl)
  ·exact .u _
 | p id i j bk hi hn hd =>
  simp only[AV.eV]
  split
  ·rename_i hm;have hs:(h' (ids.idxOf id)).sz=(h id).sz:=by rw[(hh _ _ (YD hm)).1];cases h id <;> rfl
   rw[<- hs,<- (hh _ _ (YD hm)).2.2];refine .p _ i j bk ((hh _ _ (YD hm)).2.1.trans hi) ?_ ?_
   ·rw[(hh _ _ (YD hm)).1];cases hx:h id <;> simp_all [aQ.rn]
   ·rw[(hh _ _ (YD hm)).1];cases hx:h id <;> simp_all [aQ.rn]
  ·exact .u _
 | q bk o j cs x hb hc hr=>exact .q bk o j cs x (hF _ hb) hc (λk d hk=>(hr k d hk).mono λb hb=>⟨hF b hb,rfl⟩)
 | a=>exact .u _
 | t=>exact .u _
 | fo=>exact .u _
 | b=>exact .u _
 | eJ=>exact .u _
 | bq=>exact .u _
theorem VR.i9{v:Value}{x:AV}(hv:VR w F ι h v x):VR w F' ι' h' v (x.i9 ids):=by
 cases x with
 | a cs =>
  cases hv with
  | a vs _ hl h1 hv =>
   refine .a vs _ (by simpa using hl) h1 (λk v x hk hx=>?_);simp only[List.getElem?_map,Option.map_eq_some_iff]at hx;obtain⟨y,hy,rfl⟩:=hx;exact(hv k v y hk hy).eV hF hh
 | _=>exact hv.eV hF hh
theorem VR.rn{v:Value}{x:AV}(hv:VR w F ι h v x):VR w F' ι' h' v (x.rn ids):=by
 cases x with
 | t cs =>
  cases hv with
  | t vs _ hl hv =>
   refine .t vs _ (by simpa using hl) (λk v x hk hx=>?_);simp only[List.getElem?_map,Option.map_eq_some_iff]at hx;obtain⟨y,hy,rfl⟩:=hx;exact(hv k v y hk hy).i9 hF hh
 | _=>exact hv.i9 hF hh
theorem BR.rn{i id:Nat}(hi:ids[i]? = some id)(hk:∀ k p,ι.k k=some (id,p)->ι'.k k=some (i,p)){B:aQ}(hv:BR w F ι h id B):BR w F' ι' h' i (B.rn ids):=by
 obtain⟨_,hιi,zH⟩:=hh i id hi
 cases hv with
 | none=>exact .none
 | dead=>exact .dead
 | box bk e bj cs bY ho hb hl h1 hv =>
  refine .box bk e bj _ (hιi.trans bY) (zH.trans ho) hb (by simpa using hl) h1 (λk v x hk hx=>?_);simp only[List.getElem?_map,Option.map_eq_some_iff]at hx;obtain⟨y,hy,rfl⟩:=hx;exact(hv k v y hk hy).eV hF hh
 | slnil e sz m hz bY=>exact .slnil e sz m hz (hιi.trans bY)
 | sl bk e e0 sz m es cur hz bY hb eO hle cX bV hv =>
  refine .sl bk e e0 sz m es cur hz (hιi.trans bY) hb (by rw[zH];exact eO) (by rw[zH];exact hle) cX bV (λp q x d hp hq=>?_);obtain⟨v,h1,h2⟩:=hv p q x d hp hq;refine⟨v,by rw[zH];exact h1,?_⟩
  cases m with
  | dp g t H=>exact⟨h2.1,λdt=>(h2.2 dt).map _ λk r fk=>⟨hk k _ fk,rfl⟩⟩
  | _=>exact Rd.mono (λb hb=>⟨hF b hb,rfl⟩) h2
end
section
variable {C:Ctx} {U:Nat->Prop} {σ:St} {a:Act} {w:World} {ι:Io}
def tw(a:Act):ResultVar->Sem Value
 | .tmp t=>pure (a.tmps.getD t undef)
 | .cell ad t=>do loadVar t (<- asAddr (a.tmps.getD ad undef))
theorem QFj(S:Sat C U σ a w ι){x:ResultVar}{y:bm}(hx:zE C.P x=some y){v:AV}(hv:y.get σ=some v) :
  ∃ u,(tw a x).run C.P w = .ok u w/\VR w (Fz C w ι σ.h) ι σ.h u v:=by
 cases x with
 | tmp t =>
  simp only[zE,Option.some.injEq]at hx;subst hx;simp only[bm.get,Option.some.injEq]at hv;subst hv;exact⟨_,rfl,S.bj t⟩
 | cell ad t =>
  simp only[zE]at hx
  split at hx
  rotate_left
  ·cases hx
  rename_i n agg hn eR
  cases hx;simp only[bm.get]at hv
  split at hv
  rotate_left
  ·cases hv
  rename_i e he
  cases hv;obtain⟨u,x1,rfl,h1,_,ad',h2,h3⟩:=OM (t1:=0) S (x:=.tmp ad) rfl (rfl:cO C.P 0 (.tmp ad)=some (.s ad)) eR (λh=>by simp[h,hn]) (λh=>by simp[h]) he;refine⟨u,?_,h1⟩;have h4:a.tmps.getD ad undef = .pointer (some ad'):=h2;simp only[tw,h4,asAddr,Sem.run_bind,Sem.run_pure,Result.andThen_ok];exact h3
theorem Rs(S:Sat C U σ a w ι):∀(xs:List ResultVar)(ys:List bm)(vs:List AV),kC C.P xs=some ys->qJ σ ys=some vs->
  ∃ us:List Value,us.length=xs.length/\us.length=vs.length/\(∀(k:Nat)(u:Value)(x:ResultVar),us[k]? = some u->xs[k]? = some x->(tw a x).run C.P w = .ok u w)/\
   ∀(k:Nat)(u:Value)(v:AV),us[k]? = some u->vs[k]? = some v->VR w (Fz C w ι σ.h) ι σ.h u v
 | [],ys,vs,hx,hv=>by
  simp[kC]at hx;subst hx;simp[qJ]at hv;subst hv;exact⟨[],rfl,rfl,by simp,by simp⟩
 | x::xs,ys,vs,hx,hv=>by
  simp only[kC]at hx
  split at hx
  rotate_left
  ·cases hx
  rename_i y k7 h1 h2
  cases hx;simp only[qJ]at hv
  split at hv
  rotate_left
  ·cases hv
  rename_i v tx h3 h4
  cases hv;obtain⟨u,h5,h6⟩:=QFj S h1 h3;obtain⟨us,h7,h8,h9,nk⟩:=Rs S xs k7 tx h2 h4;refine⟨u::us,by simp[h7],by simp[h8],λk u' x' hu oJ=>?_,λk u' v' hu iz=>?_⟩
  ·cases k with
   | zero=>simp at hu oJ;subst hu;subst oJ;exact h5
   | succ k=>exact h9 k u' x' (by simpa using hu) (by simpa using oJ)
  ·cases k with
   | zero=>simp at hu iz;subst hu;subst iz;exact h6
   | succ k=>exact nk k u' v' (by simpa using hu) (by simpa using iz)
theorem QGi(S:Sat C U σ a w ι){fn:Func}{ys:List bm}{vs:List AV}(hx:kC C.P fn.results.toList=some ys)(hv:qJ σ ys=some vs) :
  ∃ u,(results fn a.tmps).run C.P w = .ok u w/\VR w (Fz C w ι σ.h) ι σ.h u (Rp vs):=by
 obtain⟨us,h1,h2,h3,h4⟩:=Rs S _ _ _ hx hv;have hu:results fn a.tmps=(do let vs <- fn.results.mapM (tw a);pure (if h:vs.size=1 then vs[0] else .tuple vs)):=rfl;have hm:(fn.results.mapM (tw a)).run C.P w = .ok us.toArray w:=by
  obtain⟨l,hl⟩:∃ l,fn.results=List.toArray l:=⟨fn.results.toList,by simp⟩
  rw[hl]at h1 h3 ⊢;have:=Rq (P:=C.P) (w:=w) (tw a) l us (by simpa using h1) (λk v x hk hx=>h3 k v x hk (by simpa using hx));simp[this]
 have hr:(results fn a.tmps).run C.P w = .ok (if h:us.toArray.size=1 then us.toArray[0] else .tuple us.toArray) w:=by
  rw[hu,Sem.run_bind,hm];rfl
 refine⟨_,hr,?_⟩
 match us,vs,h2,h4 with
 | [u],[v],_,h4=>exact h4 0 u v rfl rfl
 | [],[],_,h4=>exact .t _ _ rfl (by simp)
 | u::u'::us,v::v'::vs,h2,h4 =>
  rw[dif_neg (by simp)];exact .t _ _ (by simpa using h2) (λk u v hk hx=>h4 k u v (by simpa using hk) hx)
end
end Go.Proofs.YtdplaepmjogjjaaGreat.Am
namespace Go.Proofs.YtdplaepmjogjjaaGreat.Am
open Go Go.RowKit
theorem VR.lift{w:World}{F F':Nat->Prop}(hF:∀ b,F b->F' b){ι:Io}{h:Nat->aQ}{v:Value}{x:AV}(hx:x.eE=true)(hv:VR w F noι tq v x):VR w F' ι h v x:=by
 cases x with
 | c d=>exact hv.data hF
 | a cs =>
  cases hv with
  | a vs _ hl h1 hv =>
   refine .a vs cs hl h1 (λk v x hk iV=>?_);have:=List.all_eq_true.1 hx x (List.mem_of_getElem? iV)
   cases x with
   | c d=>exact(hv k v _ hk iV).data hF
   | _=>simp at this
 | _=>simp[AV.eE]at hx
theorem lG.lift{w:World}{F F':Nat->Prop}{v:Value}{x:Hd}{e:TypeId}{sz:Nat}{mm:Mo}{es:List (List D)}(H:lG w F v x e sz mm es){ι:Io}{h:Nat->aQ}{m:Nat}(h1:ι m=x.o)(ho:ι.o m=x.base)(h2:h m=x.B) :
  VR w F' ι h v (.r sz m 0 es.length):=by
 have lr:=H.vr;rw[H.hB]at h2 lr;generalize hn:es.length=n at lr ⊢
 cases lr with
 | cz _ _ _ _ _ _ hd=>cases hd
 | cM _ e' _ Rt hi ca =>
  have:es=[]:=List.eq_nil_of_length_eq_zero hn;subst this;exact .cM m e sz mm (h1.trans hi) h2
 | df ad cap _ e' _ Rt hi ca ht =>
  cases ca;exact .df ad cap m e sz mm (h1.trans hi) h2 ht
 | r _ _ _ b ao cap e' _ Rt bP hi ca hlen ck jn cY =>
  cases ca;exact .r m 0 n b ao cap e sz mm es (h1.trans hi) h2 hlen ck (by rw[ho];exact jn) cY
theorem QMO:∀(xs:List AV)(m:Nat),(fI xs m).length=xs.length:=by
 intro xs
 induction xs with
 | nil=>intro m;rfl
 | cons x xs ih=>intro m;cases x <;> simp[fI,ih]
theorem QR6:∀(xs:List AV)(n m:Nat),(dK xs n m).length=xs.length:=by
 intro xs
 induction xs with
 | nil=>intro n m;rfl
 | cons x xs ih=>intro n m;cases x <;> simp[dK,ih]
theorem Ru:∀ {cs:List AV},cs.all kA=true->(∀ n m,dK cs n m=fI cs m)/\dC cs=Z2 cs/\cL cs=[]
 | [],_=>⟨λ_ _=>rfl,rfl,rfl⟩
 | x::cs,h=>by
  simp only[List.all_cons,Bool.and_eq_true]at h;obtain⟨h1,h2,h3⟩:=Ru h.2
  cases x with
  | c d=>exact⟨λn m=>by simp only[dK,fI,h1],by simp only[dC,Z2,h2],by simp only[cL,h3]⟩
  | ow e sz m es=>exact⟨λn m=>by simp only[dK,fI,h1],by simp only[dC,Z2,h2],by simp only[cL,h3]⟩
  | _=>simp[kA]at h
structure Lay(w:World)(F0:Nat->Prop)(vs:List Value)(xs:List AV)(lb:List Nat)(gb:List Hd):Prop where
 nd:lb.Nodup
 len:lb.length=(cL xs).length
 vl:vs.length=xs.length
 bx:∀(i b:Nat)(cs:List AV),lb[i]? = some b->(cL xs)[i]? = some cs->cs.all mv=true/\∃ e bj,w.heap[b]? = some (.cells bj e (0,0))/\DR w F0 bj cs
 gl:gb.length=(dC xs).length
 f0:∀(j:Nat)(x:Hd),gb[j]? = some x->(dC xs)[j]? = some x.B/\(∃ e sz m es,x.B = .sl e sz m es/\∀ b p,x.K b=some p->p≠[]/\b<w.heap.size/\x.o≠some b/\∃ g t H,m = .dp g t H)/\BR w F0 x.io (λ_=>x.B) 0 x.B/\∀ b,x.has b->b∉lb
 ja:∀(i j b:Nat)(x y:Hd),gb[i]? = some x->gb[j]? = some y->x.has b->y.has b->i=j
 val:∀(n m:Nat)(F:Nat->Prop)(ι:Io)(h:Nat->aQ),(∀ b,F0 b->F b)->(∀ i b,lb[i]? = some b->ι (n+i)=some b/\ι.o (n+i)=0)->(∀ i cs,(cL xs)[i]? = some cs->h (n+i) = .box cs)->
  (∀(j:Nat)(x:Hd),gb[j]? = some x->ι (m+j)=x.o/\ι.o (m+j)=x.base/\h (m+j)=x.B)->∀(k:Nat)(v:Value),vs[k]? = some v->VR w F ι h v (((dK xs n m)[k]?).getD .u)
theorem Rv{w:World}{F0:Nat->Prop}{vs:List Value}{xs:List AV}{lb:List Nat}{gb:List Hd}(hA:ey w F0 vs xs lb gb):Lay w F0 vs xs lb gb:=by
 induction hA with
 | nil=>exact⟨List.nodup_nil,rfl,rfl,by simp,rfl,by simp,by simp,by simp⟩
 | eE v x vs xs lb gb hv hr hx ih =>
  have hB:cL (x::xs)=cL xs:=by cases x <;> simp[cL,AV.eE]at hx ⊢
  have Fe:∀ cs:List AV,(cs.all fun | .c _=>true | _=>false)=true->Z2 cs=[]/\∀ m,fI cs m=cs:=by
   intro cs
   induction cs with
   | nil=>intro _;exact⟨rfl,λ_=>rfl⟩
   | cons c cs qK =>
    intro h;simp only[List.all_cons,Bool.and_eq_true]at h;obtain⟨k1,k2⟩:=qK h.2
    cases c with
    | c d=>exact⟨by simp only[Z2,k1],λm=>by simp only[fI,k2]⟩
    | _=>simp at h
  have hG:dC (x::xs)=dC xs:=by
   cases x with
   | a cs=>simp only[AV.eE]at hx;simp only[dC,(Fe cs hx).1,List.nil_append]
   | _=>simp[dC,AV.eE]at hx ⊢
  have hS:∀ n m,dK (x::xs) n m=x::dK xs n m:=by
   intro n m
   cases x with
   | a cs=>simp only[AV.eE]at hx;simp only[dK,(Fe cs hx).1,(Fe cs hx).2,List.length_nil,Nat.add_zero]
   | _=>simp[dK,AV.eE]at hx ⊢
  refine⟨ih.nd,by rw[hB];exact ih.len,by simp[ih.vl],by rw[hB];exact ih.bx,by rw[hG];exact ih.gl,by rw[hG];exact ih.f0,ih.ja,λn m F ι h hF hι hh hg k u hk=>?_⟩;rw[hS]
  cases k with
  | zero=>simp at hk;subst hk;exact hv.lift hF hx
  | succ k=>exact ih.val n m F ι h hF hι (by rw[hB]at hh;exact hh) hg k u (by simpa using hk)
 | box b e bj cs vs xs lb gb hb hd hc hn hng hr ih =>
  refine⟨List.nodup_cons.2 ⟨hn,ih.nd⟩,by simp[cL,ih.len],by simp[ih.vl],λi b' cs' hi dJ=>?_,ih.gl,λj x hj=>?_,ih.ja,λn m F ι h hF hι hh hg k u hk=>?_⟩
  ·cases i with
   | zero=>simp[cL]at hi dJ;subst hi;subst dJ;exact⟨hc,e,bj,hb,hd⟩
   | succ i=>exact ih.bx i b' cs' (by simpa using hi) (by simpa[cL]using dJ)
  ·obtain⟨g1,g2,g3,g4⟩:=ih.f0 j x hj;refine⟨g1,g2,g3,λb' mI=>?_⟩;simp only[List.mem_cons,not_or];refine⟨λe=>?_,g4 b' mI⟩;subst e;exact hng ⟨x,List.mem_of_getElem? hj,mI⟩
  ·cases k with
   | zero =>
    simp at hk;subst hk;have g1:=hι 0 b rfl;have g2:=hh 0 cs rfl;simp only[Nat.add_zero]at g1 g2;have:VR w F ι h (.pointer (some ⟨b,ι.o n+0*(h n).sz+0,none⟩)) (.p n 0 0):=.p n 0 0 b g1.1 (by rw[g2];simp) (by rw[g2];simp);simpa[dK,g1.2]using this
   | succ k =>
    simp only[dK];exact ih.val (n+1) m F ι h hF (λi b hi=>by have:=hι (i+1) b (by simpa using hi);rwa [show n+(i+1)=n+1+i by omega]at this) (λi cs hi=>by have:=hh (i+1) cs (by simpa[cL]using hi);rwa [show n+(i+1)=n+1+i by omega]at this) hg k u (by simpa using hk)
 | own v x e sz mm es vs xs lb gb hv hn hr ih =>
  refine⟨ih.nd,ih.len,by simp[ih.vl],ih.bx,by simp[dC,ih.gl],λj y hj=>?_,λi j b y z hi hj h1 h2=>?_,λn m F ι h hF hι hh hg k u hk=>?_⟩
  ·cases j with
   | zero=>simp at hj;subst hj;exact⟨by rw[hv.hB];rfl,⟨e,sz,mm,es,hv.hB,hv.dg⟩,hv.br,λb hb=>(hn b hb).1⟩
   | succ j=>exact ih.f0 j y (by simpa using hj)
  ·cases i with
   | zero =>
    simp at hi;subst hi
    cases j with
    | zero=>rfl
    | succ j=>simp at hj;exact absurd ⟨z,List.mem_of_getElem? hj,h2⟩ (hn b h1).2
   | succ i =>
    cases j with
    | zero=>simp at hj;subst hj;simp at hi;exact absurd ⟨y,List.mem_of_getElem? hi,h1⟩ (hn b h2).2
    | succ j=>simp at hi hj;rw[ih.ja i j b y z hi hj h1 h2]
  ·cases k with
   | zero =>
    simp at hk;subst hk;obtain⟨g1,g2,g3⟩:=hg 0 _ rfl;simp only[Nat.add_zero]at g1 g2 g3;have:=hv.lift (F':=F) g1 g2 g3;simpa[dK]using this
   | succ k =>
    simp only[dK];exact ih.val n (m+1) F ι h hF hι hh (λj y hj=>by have:=hg (j+1) y (by simpa using hj);rwa [show m+(j+1)=m+1+j by omega]at this) k u (by simpa using hk)
 | agg arr cs vs xs lb g1 gb hc ot h1 hn hr qK ih =>
  obtain⟨c1,c2,c3⟩:=Ru ot;have jb:g1.length=(Z2 cs).length:=by rw[<- c2];exact qK.gl
  refine⟨ih.nd,ih.len,by simp[ih.vl],ih.bx,by simp[dC,ih.gl,jb],λj y hj=>?_,λi j b y z hi hj h1 h2=>?_,λn m F ι h hF hι hh hg k u hk=>?_⟩
  ·rw[List.getElem?_append]at hj;simp only[dC];rw[List.getElem?_append,<- jb]
   split at hj
   ·rename_i aU;obtain⟨k1,k2,k3,_⟩:=qK.f0 j y hj;rw[c2]at k1;rw[if_pos aU];exact⟨k1,k2,k3,λb hb=>(hn b ⟨y,List.mem_of_getElem? hj,hb⟩).1⟩
   ·rename_i aU;rw[if_neg aU];exact ih.f0 _ y hj
  ·rw[List.getElem?_append]at hi hj
   split at hi <;> split at hj
   ·exact qK.ja i j b y z hi hj h1 h2
   ·exact absurd ⟨z,List.mem_of_getElem? hj,h2⟩ (hn b ⟨y,List.mem_of_getElem? hi,h1⟩).2
   ·exact absurd ⟨y,List.mem_of_getElem? hi,h1⟩ (hn b ⟨z,List.mem_of_getElem? hj,h2⟩).2
   ·have:=ih.ja _ _ b y z hi hj h1 h2;omega
  ·cases k with
   | zero =>
    simp at hk;subst hk;simp only[dK,List.getElem?_cons_zero,Option.getD_some];refine .a arr _ (by rw[QMO];simpa using qK.vl) (λk v hk=>h1 v (List.mem_of_getElem? (by simpa using hk))) (λk v x hk hx=>?_);have:=qK.val 0 m F ι h hF (by simp) (by rw[c3];simp) (λj y hj=>hg j y (by rw[List.getElem?_append_left (List.getElem?_eq_some_iff.1 hj).1];exact hj)) k v (by simpa using hk);rw[c1,hx]at this;exact this
   | succ k =>
    simp only[dK];refine ih.val n (m+(Z2 cs).length) F ι h hF hι hh (λj y hj=>?_) k u (by simpa using hk);have:=hg (g1.length+j) y (by rw[List.getElem?_append_right (by omega),show g1.length+j-g1.length=j by omega];exact hj);rwa [jb,show m+((Z2 cs).length+j)=m+(Z2 cs).length+j by omega]at this
def Jf(P:Program)(w:World)(F0:Nat->Prop)(lb:List Nat)(gb:List Hd)(N:Nat):Ctx :=
 { P:=P,w0:=w,F0:=F0,X:=λb=>b∈lb\/ZP gb b,L:=λi=>lb[i]?,N:=N,G:=ZP gb,O:=λi=>if i<lb.length then none else gb[i-lb.length]?,GX:=λ_ h=>.inr h }
def gk:List Hd->Nat->Nat->Option (Nat × cE)
 | [],_,_=>none
 | x::r,k,b=>match x.K b with
  | some p=>some (k,p)
  | none=>gk r (k+1) b
theorem Ff:∀ {gb:List Hd} {k b i:Nat} {p:cE},gk gb k b=some (i,p)->∃ j x,i=k+j/\gb[j]? = some x/\x.K b=some p
 | [],k,b,i,p,h=>by simp[gk]at h
 | x::r,k,b,i,p,h=>by
  simp only[gk]at h
  split at h
  ·rename_i p' hp;cases h;exact⟨0,x,rfl,rfl,hp⟩
  ·obtain⟨j,y,h1,h2,h3⟩:=Ff h;exact⟨j+1,y,by omega,by simpa using h2,h3⟩
theorem Rw:∀ {gb:List Hd} {k b:Nat},(∀ x,x∈gb->x.K b=none)->gk gb k b=none
 | [],_,_,_=>rfl
 | x::r,k,b,h=>by
  simp only[gk];rw[h x (by simp)];exact Rw λy hy=>h y (by simp[hy])
theorem QUs{gb:List Hd}(pU:∀(i j b:Nat)(x y:Hd),gb[i]? = some x->gb[j]? = some y->x.has b->y.has b->i=j){k b j:Nat}{x:Hd}{p:cE}(hj:gb[j]? = some x)(hp:x.K b=some p):gk gb k b=some (k+j,p):=by
 cases hx:gk gb k b with
 | none =>
  have:∀(gb:List Hd)(k:Nat),gk gb k b=none->∀ y,y∈gb->y.K b=none:=by
   intro gb
   induction gb with
   | nil=>intro k _ y hy;cases hy
   | cons z r ih =>
    intro k h y hy;simp only[gk]at h
    split at h
    ·cases h
    ·rename_i hz
     rcases List.mem_cons.1 hy with rfl | hy
     ·exact hz
     ·exact ih (k+1) h y hy
  rw[this gb k hx x (List.mem_of_getElem? hj)]at hp
  cases hp
 | some z =>
  obtain⟨i,q⟩:=z;obtain⟨j',y,h1,h2,h3⟩:=Ff hx;have:=pU j' j b y x h2 hj (.inr ⟨q,h3⟩) (.inr ⟨p,hp⟩);subst this;rw[hj]at h2
  cases h2;rw[hp]at h3
  cases h3;rw[h1]
def ιs(lb:List Nat)(gb:List Hd):Io:=⟨λi=>if i<lb.length then lb[i]? else(gb[i-lb.length]?).bind (·.o),gk gb lb.length,λi=>if i<lb.length then 0 else((gb[i-lb.length]?).map (·.base)).getD 0⟩
theorem ιs_lt{lb:List Nat}{gb:List Hd}{i b:Nat}(h:lb[i]? = some b):ιs lb gb i=some b/\(ιs lb gb).o i=0:=by
 have:=(List.getElem?_eq_some_iff.1 h).1;exact⟨by show(if _ then _ else _)=_;rw[if_pos this];exact h,by show(if _ then _ else _)=_;rw[if_pos this]⟩
theorem ιs_ge{lb:List Nat}{gb:List Hd}{j:Nat}{x:Hd}(h:gb[j]? = some x):ιs lb gb (lb.length+j)=x.o/\(ιs lb gb).o (lb.length+j)=x.base:=by
 constructor
 ·show(if _ then _ else _)=_;rw[if_neg (by omega),show lb.length+j-lb.length=j by omega,h];rfl
 ·show(if _ then _ else _)=_;rw[if_neg (by omega),show lb.length+j-lb.length=j by omega,h];rfl
theorem ιs_cases{lb:List Nat}{gb:List Hd}{i b:Nat}(h:ιs lb gb i=some b):lb[i]? = some b\/lb.length<=i/\∃ x,gb[i-lb.length]? = some x/\x.o=some b:=by
 have h:(if i<lb.length then lb[i]? else(gb[i-lb.length]?).bind (·.o))=some b:=h
 split at h
 ·exact .inl h
 ·refine .inr ⟨by omega,?_⟩
  cases hx:gb[i-lb.length]? with
  | none=>rw[hx]at h;cases h
  | some p=>rw[hx]at h;exact⟨p,rfl,h⟩
theorem QNr{P:Program}{w:World}{F0:Nat->Prop}{vs:Array Value}{xs:List AV}{lb:List Nat}{gb:List Hd}(hA:ey w F0 vs.toList xs lb gb)(hF:∀ b,F0 b->b<w.heap.size/\b∉lb/\¬ ZP gb b){N:Nat}(hN:xs.length<=N) :
  fa (Jf P w F0 lb gb N) (Jw xs) { tmps:=vs++Array.replicate (N-vs.size) undef,defers:=[] } w:=by
 have L:=Rv hA;have h2:=L.len;have h3:=L.vl;have jb:=L.gl;have hh:∀(i:Nat)(cs:List AV),(cL xs)[i]? = some cs->(Jw xs).h i = .box cs:=λi cs hi=>by simp[Jw,hi]
 have hk:∀(j:Nat)(B:aQ),(dC xs)[j]? = some B->(Jw xs).h (lb.length+j)=B:=λj B hj=>by
  simp only[Jw];rw[List.getElem?_eq_none (by omega),<- h2,show lb.length+j-lb.length=j by omega,hj];rfl
 have db:∀ i,(cL xs).length+(dC xs).length<=i->(Jw xs).h i = .none/\ιs lb gb i=none:=λi hi=>by
  constructor
  ·simp only[Jw];rw[List.getElem?_eq_none (by omega),List.getElem?_eq_none (by omega)];rfl
  ·show(if _ then _ else _)=_;rw[if_neg (by omega),List.getElem?_eq_none (by omega)];rfl
 have hex:∀(i b:Nat),lb[i]? = some b->∃ cs,(cL xs)[i]? = some cs:=λi b hi=>by
  have:i<lb.length:=(List.getElem?_eq_some_iff.1 hi).1;exact⟨(cL xs)[i]'(by omega),List.getElem?_eq_getElem (by omega)⟩
 have wj:∀ b,b∈lb->¬ ZP gb b:=λb hb ⟨x,hm,hx⟩=>by
  obtain⟨j,hj⟩:=List.getElem?_of_mem hm;exact(L.f0 j _ hj).2.2.2 b hx hb
 have Fg:∀ b,ZP gb b->b<w.heap.size:=λb ⟨x,hm,hx⟩=>by
  obtain⟨j,hj⟩:=List.getElem?_of_mem hm;obtain⟨_,⟨e,sz,m,es,hB,hl⟩,tz,_⟩:=L.f0 j _ hj
  rcases hx with hx | ⟨p,hx⟩
  ·rw[hB]at tz
   cases tz with
   | slnil _ _ _ _ hi=>exact absurd (hi.symm.trans hx) (by simp)
   | sl bk _ _ _ _ _ cur hz hi hb =>
    have:some bk=some b:=hi.symm.trans hx
    cases this;exact(Array.getElem?_eq_some_iff.1 hb).1
  ·exact(hl b p hx).2.1
 have wm:∀ b,¬ ZP gb b->(ιs lb gb).k b=none:=λb hb=>Rw λx hx=>by
  cases hk:x.K b with
  | none=>rfl
  | some p=>exact absurd ⟨x,hx,.inr ⟨p,hk⟩⟩ hb
 have j5:∀ b,F0 b->Fz (Jf P w F0 lb gb N) w (ιs lb gb) (Jw xs).h b:=λb hb=>⟨(hF b hb).1,.inl hb,λid a8=>by
  rcases ιs_cases a8 with h | ⟨_,x,h,hx⟩
  ·exact absurd (List.mem_of_getElem? h) (hF b hb).2.1
  ·exact absurd ⟨x,List.mem_of_getElem? h,.inl hx⟩ (hF b hb).2.2,wm b (hF b hb).2.2⟩
 have wq:∀ id,id<lb.length\/(∃ j x,id=lb.length+j/\gb[j]? = some x)\/(cL xs).length+(dC xs).length<=id:=λid=>by
  by_cases h:id<lb.length
  ·exact .inl h
  ·by_cases h':id<lb.length+gb.length
   ·exact .inr (.inl ⟨id-lb.length,gb[id-lb.length],by omega,List.getElem?_eq_getElem (by omega)⟩)
   ·exact .inr (.inr (by omega))
 refine⟨ιs lb gb,⟨rfl,rfl,rfl,Nat.le_refl _,λ_ _ _=>rfl⟩,λs=>?_,?_,rfl,λid=>?_,λi j b hi hj=>?_,λi b hi=>?_,λi hi=>db i hi,λi b hi=>?_,λi b hi=>?_,λi x hi=>?_,λb id p iP=>?_⟩
 ·show VR _ _ _ _ _ (((dK xs 0 (cL xs).length)[s]?).getD .u)
  rcases Nat.lt_or_ge s vs.size with hs | hs
  ·have:=L.val 0 (cL xs).length (Fz (Jf P w F0 lb gb N) w (ιs lb gb) (Jw xs).h) (ιs lb gb) (Jw xs).h j5 (λi b hi=>by rw[Nat.zero_add];exact ιs_lt hi) (λi cs hi=>by simpa using hh i cs hi)
    (λj x hj=>by rw[<- h2];exact⟨(ιs_ge hj).1,(ιs_ge hj).2,hk j _ (L.f0 j x hj).1⟩) s vs[s] (by simp[hs])
   rw[show(vs++Array.replicate (N-vs.size) undef).getD s undef=vs[s] by simp[Array.getD_eq_getD_getElem?,Array.getElem?_append,hs]];exact this
  ·rw[List.getElem?_eq_none (by rw[QR6];simp at h3;omega)];exact .u _
 ·simp[Jf]at h3 ⊢;omega
 ·rcases wq id with aU | ⟨j,x,rfl,hj⟩ | iM
  ·have hx:(cL xs)[id]? = some ((cL xs)[id]'(by omega)):=List.getElem?_eq_getElem (by omega);rw[hh id _ hx];obtain⟨hc,e,bj,hb,hd⟩:=L.bx id lb[id] _ (by simp) hx;refine .box lb[id] e bj _ (ιs_lt (by simp)).1 (ιs_lt (b:=lb[id]) (by simp)).2 hb hd.size hd.one (λk v x hk iV=>(hd.vr k v x hk iV).lift j5 ?_);have:=List.all_eq_true.1 hc x (List.mem_of_getElem? iV)
   cases x <;> simp_all [mv,AV.eE]
  ·obtain⟨g1,⟨e,sz,m,es,hB,hl⟩,g3,_⟩:=L.f0 j x hj;rw[hk j _ g1];obtain⟨hι,hιo⟩:=ιs_ge (lb:=lb) hj;rw[hB]at g3 ⊢
   cases g3 with
   | slnil _ _ _ hz hi=>exact .slnil e sz m hz (hι.trans hi)
   | sl bk _ e0 _ _ _ cur hz hi hb eO hle cX bV hv =>
    refine .sl bk e e0 sz m es cur hz (hι.trans hi) hb (by rw[hιo];exact eO) (by rw[hιo];exact hle) cX bV (λi j' el d hx hd=>?_);obtain⟨v,k1,k2⟩:=hv i j' el d hx hd;refine⟨v,by rw[hιo];exact k1,?_⟩
    cases m with
    | dp g t H =>
     refine⟨k2.1,λdt=>(k2.2 dt).map _ λb q iP=>⟨?_,rfl⟩⟩;have iP:(x.K b).map (λp=>((0:Nat),p))=some (0,[(i,j')]++q):=iP;obtain⟨p,hp,hpe⟩:=Option.map_eq_some_iff.1 iP
     cases hpe;exact QUs L.ja hj hp
    | _=>exact Rd.mono (λb hb=>⟨j5 b hb,rfl⟩) k2
  ·rw[(db id iM).1];exact .none
 ·rcases ιs_cases hi with h1 | ⟨h1,x,fO,hx⟩
  ·rcases ιs_cases hj with h2 | ⟨h2,y,kD,hy⟩
   ·exact(List.getElem?_inj (List.getElem?_eq_some_iff.1 h1).1 L.nd).1 (h1.trans h2.symm)
   ·exact absurd ⟨y,List.mem_of_getElem? kD,.inl hy⟩ (wj b (List.mem_of_getElem? h1))
  ·rcases ιs_cases hj with h2 | ⟨h2,y,kD,hy⟩
   ·exact absurd ⟨x,List.mem_of_getElem? fO,.inl hx⟩ (wj b (List.mem_of_getElem? h2))
   ·have:=L.ja _ _ b x y fO kD (.inl hx) (.inl hy);omega
 ·rcases ιs_cases hi with h1 | ⟨h1,x,fO,hx⟩
  ·obtain⟨cs,dJ⟩:=hex i b h1;obtain⟨_,e,bj,hb,_⟩:=L.bx i b cs h1 dJ;exact⟨.inr ⟨.inl (List.mem_of_getElem? h1),cs,hh i cs dJ⟩,(Array.getElem?_eq_some_iff.1 hb).1⟩
  ·have hg:ZP gb b:=⟨x,List.mem_of_getElem? fO,.inl hx⟩
   exact⟨.inl (.inr hg),Fg b hg⟩
 ·rcases ιs_cases hi with h1 | ⟨h1,x,fO,hx⟩
  ·obtain⟨cs,dJ⟩:=hex i b h1;rw[hh i cs dJ];simp
  ·obtain⟨g1,⟨e,sz,m,es,hB,_⟩,_⟩:=L.f0 _ _ fO;have:=hk _ _ g1;rw[show lb.length+(i-lb.length)=i by omega]at this;rw[this,hB];simp
 ·obtain⟨cs,dJ⟩:=hex i b hi;exact⟨(ιs_lt hi).1,⟨cs,hh i cs dJ⟩,rfl⟩
 ·simp only[Jf]at hi
  split at hi
  ·cases hi
  ·obtain⟨g1,⟨e,sz,m,es,hB,_⟩,_⟩:=L.f0 _ _ hi;have h5:=hk _ _ g1;obtain⟨h6,h7⟩:=ιs_ge (lb:=lb) hi;rw[show lb.length+(i-lb.length)=i by omega]at h5 h6 h7;exact .inr ⟨h6,h7,by rw[h5,hB];exact⟨rfl,rfl,rfl,λh=>h,λh=>h⟩,λ_ _=>rfl⟩
 ·obtain⟨j,x,rfl,hj,hp⟩:=Ff iP;obtain⟨g1,⟨e,sz,m,es,hB,hl⟩,g3,g4⟩:=L.f0 j x hj;obtain⟨q1,q2,q3,g,t,H,rfl⟩:=hl b p hp;refine⟨q1,⟨e,sz,g,t,H,es,by rw[hk j _ g1,hB]⟩,.inr ⟨x,List.mem_of_getElem? hj,.inr ⟨p,hp⟩⟩,q2,λi hi=>?_⟩
  rcases ιs_cases hi with h1 | ⟨h1,y,fO,hy⟩
  ·exact g4 b (.inr ⟨p,hp⟩) (List.mem_of_getElem? h1)
  ·have:=L.ja _ _ b y x fO hj (.inl hy) (.inr ⟨p,hp⟩);rw[this,hj]at fO
   cases fO;exact q3 hy
theorem QUF{x:aQ}{ids:List Nat}(h:x≠.none/\x≠.dead):x.rn ids≠.none/\x.rn ids≠.dead:=by
 cases x <;> simp_all [aQ.rn]
theorem QKo{P:Program}{w:World}{F0:Nat->Prop}{lb:List Nat}{gb:List Hd}{N n m:Nat}(hn:n=lb.length)(hm:m=gb.length){U:Nat->Prop}{σ:St}{a:Act}{w':World}{ι:Io}
  (S:Sat (Jf P w F0 lb gb N) U σ a w' ι) {ids:List Nat} (dV:ids.Nodup) (ia:∀ id,id∈ids->n+m<=id) {x:AV} {r:ik} (hr:zG n m ids σ x=some r) {v:Value}
  (hv:VR w' (Fz (Jf P w F0 lb gb N) w' ι σ.h) ι σ.h v x) :
  ∃ ι',iy w F0 lb gb r v w' ι':=by
 unfold zG at hr
 split at hr
 rotate_left
 ·cases hr
 rename_i cD gs qL oE;have hr:=(Option.some.inj hr).symm;subst hr;obtain⟨hl,jW⟩:=Rr qL;obtain⟨jb,vL⟩:=Fc oE;have qM:gs.length=m:=jb;obtain⟨R,hR⟩:∃ R:ik,R=⟨x.rn ids,ids.map λid=>(σ.h id).rn ids,cD,true,gs⟩:=⟨_,rfl⟩
 rw[<- hR];have qN:R.hb.length=ids.length:=by rw[hR];simp
 obtain⟨π,hπ⟩:∃ π:Nat->Option Nat,π=λi=>if i<ids.length then ids[i]? else if i<ids.length+m then some (n+(i-ids.length)) else none:=⟨_,rfl⟩
 obtain⟨ι',hι'⟩:∃ ι':Io,ι'=⟨λi=>(π i).bind ι,λb=>match ι.k b with
   | some (y,p)=>if y∈ids then some (ids.idxOf y,p) else if n<=y/\y<n+m then some (ids.length+(y-n),p) else none
   | none=>none,λi=>((π i).map ι.o).getD 0⟩:=⟨_,rfl⟩
 have hπ1:∀ i id,ids[i]? = some id->π i=some id:=λi id hi=>by rw[hπ];simp only;rw[if_pos (List.getElem?_eq_some_iff.1 hi).1];exact hi
 have hπ2:∀ k,k<m->π (ids.length+k)=some (n+k):=λk hk=>by rw[hπ];simp only;rw[if_neg (by omega),if_pos (by omega),show ids.length+k-ids.length=k by omega]
 have hπc:∀ i y,π i=some y->(ids[i]? = some y)\/(∃ k,i=ids.length+k/\k<m/\y=n+k):=λi y hy=>by
  rw[hπ]at hy;simp only at hy
  split at hy
  ·exact .inl hy
  ·split at hy
   ·cases hy;exact .inr ⟨i-ids.length,by omega,by omega,rfl⟩
   ·cases hy
 have hιb:∀ i y,π i=some y->ι' i=ι y/\ι'.o i=ι.o y:=λi y hy=>by rw[hι'];simp[hy]
 have hιs:∀ i b,ι' i=some b->∃ y,π i=some y/\ι y=some b:=λi b hi=>by
  rw[hι']at hi;simp only at hi
  cases hx:π i with
  | none=>rw[hx]at hi;cases hi
  | some y=>rw[hx]at hi;exact⟨y,rfl,hi⟩
 have hπinj:∀ i j y,π i=some y->π j=some y->i=j:=λi j y hi hj=>by
  rcases hπc i y hi with h1 | ⟨k,rfl,h1,rfl⟩ <;> rcases hπc j _ hj with h2 | ⟨k',rfl,h2,h3⟩
  ·exact(List.getElem?_inj (List.getElem?_eq_some_iff.1 h1).1 dV).1 (h1.trans h2.symm)
  ·have:=ia y (List.mem_of_getElem? h1);omega
  ·have:=ia _ (List.mem_of_getElem? h2);omega
  ·omega
 have fk:∀ b i p,ι'.k b=some (i,p)↔∃ y,π i=some y/\ι.k b=some (y,p):=by
  intro b i p;rw[hι'];simp only;constructor
  ·intro h
   split at h
   rotate_left
   ·cases h
   rename_i y q hy
   split at h
   ·rename_i ti
    cases h;exact⟨y,hπ1 _ _ (YD ti),hy⟩
   ·split at h
    ·rename_i h1 h2
     cases h;exact⟨y,by rw[hπ2 _ (by omega)];congr 1;omega,hy⟩
    ·cases h
  ·rintro⟨y,hy,hk⟩
   simp only[hk]
   rcases hπc i y hy with h1 | ⟨k,rfl,h1,rfl⟩
   ·have dF:=List.mem_of_getElem? h1;rw[if_pos dF];have:ids.idxOf y=i:=(List.getElem?_inj (List.idxOf_lt_length_of_mem dF) dV).1 ((YD dF).trans h1.symm);rw[this]
   ·rw[if_neg (λdF=>by have:=ia _ dF;omega),if_pos ⟨by omega,by omega⟩];congr 2
    omega
 have Fh:∀ i id,ids[i]? = some id->R.h i=(σ.h id).rn ids:=λi id hi=>by rw[hR];simp[ik.h,hi]
 have ld:∀ i y,π i=some y->((R.hb++R.gv)[i]?).getD .none=(if i<ids.length then(σ.h y).rn ids else σ.h y):=λi y hy=>by
  rcases hπc i y hy with h1 | ⟨k,rfl,h1,rfl⟩
  ·have aU:=(List.getElem?_eq_some_iff.1 h1).1;rw[if_pos aU,List.getElem?_append_left (by rw[qN];exact aU)];exact Fh i y h1
  ·rw[if_neg (by omega),List.getElem?_append_right (by rw[qN];omega),qN,show ids.length+k-ids.length=k by omega,hR];simp only;have:k<gs.length:=by omega
   rw[List.getElem?_eq_getElem this];simp only[Option.getD_some];exact((vL k _ (List.getElem?_eq_getElem this)).1).symm
 have Fi:∀ i y,π i=some y->(((R.hb++R.gv)[i]?).getD .none).own=(σ.h y).own:=λi y hy=>by
  rw[ld i y hy]
  split
  ·cases σ.h y <;> rfl
  ·rfl
 have hgh:∀(k:Nat)(y:Hd)(B:aQ),gb[k]? = some y->gs[k]? = some B->σ.h (n+k)=B/\(B = .dead\/(ι (n+k)=y.o/\ι.o (n+k)=y.base/\Yj y.B B/\∀ b,y.o=some b->w'.shape? b=w.shape? b)):=λk y B hk hB=>by
  obtain⟨h1,_⟩:=vL k B hB;refine⟨h1,?_⟩;have:=S.hand (n+k) y (by simp only[Jf];rw[if_neg (by omega),show n+k-lb.length=k by omega];exact hk);rw[h1]at this;exact this
 have j5:∀ b,Fz (Jf P w F0 lb gb N) w' ι σ.h b->mw w w' F0 gb R ι' b:=by
  intro b ⟨g1,g2,g3,g4⟩;refine⟨g1,g2.imp (λh=>⟨by rw[hR],h⟩) (λh=>h),λi hi=>?_,?_⟩
  ·obtain⟨y,h1,h2⟩:=hιs i b hi;rw[Fi i y h1];exact g3 y h2
  ·rw[hι'];simp only[g4]
 have cR:∀(k b:Nat),lb[k]? = some b->w'.shape? b=w.shape? b:=λk b hk=>(S.b9 k b hk).2.2;have j9:∀(k b:Nat),lb[k]? = some b->ι k=some b:=λk b hk=>(S.b9 k b hk).1;have wu:∀ i y,π i=some y->∀ k p,ι.k k=some (y,p)->ι'.k k=some (i,p):=λi y hy k p hk=>(fk k i p).2 ⟨y,hy,hk⟩;have tA:∀ i id,ids[i]? = some id->R.h i=(σ.h id).rn ids/\ι' i=ι id/\ι'.o i=ι.o id:=λi id hi=>⟨Fh i id hi,hιb i id (hπ1 i id hi)⟩
 refine⟨ι',S.dE.os,S.dE.tape,S.dE.output,S.dE.size,λk hk h1 h2=>S.dE.block k hk (λh=>h.elim h1 h2),by rw[show R.v=x.rn ids by rw[hR]];exact hv.rn j5 tA,λi hi=>?_,λi j b hi hj=>?_,λi b hi=>?_,λi b hi=>?_,λb i p hk=>?_,by rw[hR];exact hl.trans hn,λk b cs hk dJ=>?_,by rw[hR];exact jb.trans hm,λk y B hk hB=>?_⟩
 ·have hx:ids[i]? = some ids[i]:=List.getElem?_eq_getElem (by omega);rw[Fh i _ hx];exact(S.fi ids[i]).rn j5 tA hx (wu i _ (hπ1 i _ hx))
 ·obtain⟨y,h1,h2⟩:=hιs i b hi;obtain⟨z,h3,h4⟩:=hιs j b hj;have:=S.inj y z b h2 h4;subst this;exact hπinj i j y h1 h3
 ·obtain⟨y,h1,h2⟩:=hιs i b hi;obtain⟨h3,h4⟩:=S.eh y b h2;have hyn:n<=y:=by
   rcases hπc i y h1 with h5 | ⟨k,rfl,h5,rfl⟩
   ·have:=ia y (List.mem_of_getElem? h5);omega
   ·omega
  refine⟨?_,h4,?_⟩
  ·rcases h3 with(h3 | h3) | ⟨h3,_⟩
   ·exact .inl h3
   ·exact .inr h3
   ·rcases h3 with h3 | h3
    ·exfalso;obtain⟨k,hk⟩:=List.getElem?_of_mem h3;have:=S.inj y k b h2 (j9 k b hk);subst this;have:=(List.getElem?_eq_some_iff.1 hk).1;omega
    ·exact .inr h3
  ·rw[qN,show R.gv=gs by rw[hR],qM]
   rcases hπc i y h1 with h5 | ⟨k,rfl,h5,rfl⟩
   ·have:=(List.getElem?_eq_some_iff.1 h5).1;omega
   ·omega
 ·obtain⟨y,h1,h2⟩:=hιs i b hi;rw[ld i y h1];have:=S.live y b h2
  split
  ·exact QUF this
  ·exact this
 ·obtain⟨y,h1,h2⟩:=(fk b i p).1 hk;have L:=S.dg b y p h2;obtain⟨e,sz,g,t,H,es,iX⟩:=L.dp;refine⟨L.pn,⟨e,sz,g,t,H,es,?_⟩,L.fr,L.lt,λj hj=>?_⟩
  ·have:=ld i y h1;rw[iX]at this;have hs:(if i<ids.length then(aQ.sl e sz (.dp g t H) es).rn ids else aQ.sl e sz (.dp g t H) es) = .sl e sz (.dp g t H) es:=by split <;> rfl
   rw[hs]at this
   cases hx:(R.hb++R.gv)[i]? with
   | none=>rw[hx]at this;cases this
   | some B=>rw[hx]at this;simp only[Option.getD_some]at this;rw[this]
  ·obtain⟨z,_,h4⟩:=hιs j b hj;exact L.ne z h4
 ·have dJ:cD[k]? = some cs:=by rw[hR]at dJ;exact dJ
  obtain⟨h1,h2⟩:=jW k cs dJ;simp only[Nat.zero_add]at h1;refine⟨h2,cR k b hk,?_⟩;have hb:=S.fi k;rw[h1]at hb
  cases hb with
  | box b' e bj _ hi _ hb hl h3 dS =>
   rw[j9 k b hk]at hi
   cases hi;refine⟨e,bj,hb,hl,h3,λj v y hj hy=>?_⟩;have h4:=List.all_eq_true.1 h2 y (List.mem_of_getElem? hy)
   cases y with
   | c d=>exact(dS j v _ hj hy).data j5
   | _=>simp[mv]at h4
 ·have hB:gs[k]? = some B:=by rw[hR]at hB;exact hB
  have jX:k<m:=by rw[<- qM];exact(List.getElem?_eq_some_iff.1 hB).1
  obtain⟨h1,h2 | ⟨h2,kD,h3,h4⟩⟩:=hgh k y B hk hB
  ·exact .inl h2
  ·refine .inr ⟨h3,?_,?_,?_,h4⟩
   ·rw[qN,(hιb _ _ (hπ2 k jX)).1];exact h2
   ·rw[qN,(hιb _ _ (hπ2 k jX)).2];exact kD
   ·have hb:=S.fi (n+k);rw[h1]at hb;rw[qN];obtain⟨q1,q2⟩:=hιb _ _ (hπ2 k jX)
    rcases(vL k B hB).2 with rfl | ⟨e,sz,mm,es,rfl⟩
    ·exact .dead
    ·cases hb with
     | slnil _ _ _ hz hi=>exact .slnil e sz mm hz (q1.trans hi)
     | sl bk _ e0 _ _ _ cur hz hi hb eO hle cX bV hv =>
      refine .sl bk e e0 sz mm es cur hz (q1.trans hi) hb (by rw[q2];exact eO) (by rw[q2];exact hle) cX bV (λi j el d hx hd=>?_);obtain⟨u,k1,k2⟩:=hv i j el d hx hd;refine⟨u,by rw[q2];exact k1,?_⟩
      cases mm with
      | dp g t H=>exact⟨k2.1,λdt=>(k2.2 dt).map _ λb q iP=>⟨wu _ _ (hπ2 k jX) b _ iP,rfl⟩⟩
      | _=>exact Rd.mono (λb hb=>⟨j5 b hb,rfl⟩) k2
end Go.Proofs.YtdplaepmjogjjaaGreat.Am
namespace Go.Proofs.YtdplaepmjogjjaaGreat.Am
open Go Go.RowKit
def one(f:FuncId)(dec:List AV->Option ik):eA:=⟨λ_=>[],λg xs=>if g=f then dec xs else none,false⟩
theorem ok_one{P:Program}{f:FuncId}{dec:List AV->Option ik}(h:∀ args r,dec args=some r->qp P f args r):JP P (one f dec):=λg args r hr=>by
 simp only[one]at hr
 split at hr
 ·rename_i hg;subst hg;exact h args r hr
 ·cases hr
theorem qp.plain{P:Program}{f:FuncId}{args:List AV}{x:Value}(h:qp P f args ⟨.c (.v x),[],[],true,[]⟩):qp P f args ⟨.c (.v x),[],[],false,[]⟩:=by
 intro w F0 vs lb gb hA hF;refine(h w F0 vs lb gb hA hF).mono ?_;rintro e w' ⟨v,ι,rfl,Q⟩
 refine⟨v,ι,rfl,?_⟩;have Fj:lb=[]:=List.eq_nil_of_length_eq_zero Q.EF.symm;subst Fj;have hgb:gb=[]:=List.eq_nil_of_length_eq_zero Q.EG.symm;subst hgb;have hv:=Q.val;have iz:VR w' (mw w w' F0 [] ⟨.c (.v x),[],[],false,[]⟩ ι) ι (ik.h ⟨.c (.v x),[],[],false,[]⟩) v (.c (.v x)):=by
  cases hv with
  | c v d hr=>cases hr with
   | v x h1=>exact .c _ _ (.v _ h1)
 exact⟨Q.os,Q.tape,Q.output,Q.size,Q.block,iz,λi hi=>absurd hi (Nat.not_lt_zero _),Q.inj,Q.eh,Q.live,Q.dg,rfl,by simp,rfl,by simp⟩
def wv(P:Program)(f:FuncId):Option (eC × List bm × Nat) :=
 match P.funcs[f]? with
 | some fn=>match fn.body with
  | some c=>match comp P fn.ntmps c,kC P fn.results.toList with
   | some ac,some rs=>some (ac,rs,fn.ntmps)
   | _,_=>none
  | none=>none
 | none=>none
end Go.Proofs.YtdplaepmjogjjaaGreat.Am
namespace Go.Proofs.YtdplaepmjogjjaaGreat.Am
open Go Go.RowKit Go.ChangeShapes Go.WideShapes Go.ChangeAt
theorem QOg{H:Type}{enc:TypeId × Value->H}{P:Program}{f:Func}{s:ChangeSpec}{apart fresh handsOn again:Bool}{W W':World}{args:Array Value}{v:Value}{ds gs:List (DataW H)}{before pa pv:List MemPlace}
  (hW:DataW.Whole enc P f.params.toList s.vars apart W args.toList ds gs before)
  (wx:∀(b:Nat)(sp:Nat->Bool)(hd:Bool),DataW.TrodAll enc P W' b sp hd f.resultTypes.toList (v.resultList f.resultTypes.size) (s.fn H (ds++gs)).results [])
  (oK:∀ sp:Nat->Bool,(∀ p∈before,sp p.block=true)->DataW.TrodAll enc P W' 0 sp true f.params.toList args.toList (s.fn H (ds++gs)).args pa)
  (jc:∀ sp:Nat->Bool,(∀ p∈before,sp p.block=true)->DataW.TrodVars enc P W' sp s.vars (s.fn H (ds++gs)).vars pv)
  (zj:before=pa++pv) (hB:Below W.heap.size W W')
  (cI:∀(j:Nat)(t:TypeId)(r:Value),f.resultTypes[j]? = some t->(v.resultList f.resultTypes.size)[j]? = some r->Value.okWide P W' .any 0 t r) :
  s.post enc P f apart fresh handsOn again W args v W':=by
 have aU:∀ p∈before,p.block<W.heap.size:=λp hp=>hW.lt p hp;have hold:∀ p∈before,(λb=>decide (b<W.heap.size)) p.block=true:=λp hp=>by simpa using aU p hp
 subst zj;refine⟨ds,gs,pa++pv,[],pa,pv,hW,wx _ _ _,oK _ hold,jc _ hold,hB.frame _,λ_=>?_⟩;obtain⟨_,_,_,_,_,hz,hn⟩:=hW;refine⟨cI,_,_,([]++pa)++pv,⟨[]++pa,pv,trodAll_append (oK _ (λ_ _=>rfl)) (wx _ _ _),jc _ (λ_ _=>rfl),rfl,?_,?_⟩,?_⟩
 ·intro b off hp;have il:MemPlace.cell b off∈pa++pv:=by simpa using hp
  have h1:=aU _ il;rw[hB.frozen (by exact h1)];exact hz b off il
 ·intro ha;simpa using hn ha
 ·intro p hp _;simpa using hp
theorem QFV{P:Program}{f:FuncId}{vs:Array Value}{xs:List AV}{x:Value}{al:Bool}(h:qp P f xs ⟨.c (.v x),[],[],al,[]⟩){w:World}{F0:Nat->Prop}(hA:ey w F0 vs.toList xs [] [])(hF:∀ b,F0 b->b<w.heap.size) :
  Calls P f vs w λe w'=>e = .returned x/\Below w.heap.size w w':=by
 refine(h w F0 vs [] [] hA (λb hb=>⟨hF b hb,by simp,λ⟨_,hm,_⟩=>by simp at hm⟩)).mono ?_;rintro e w' ⟨v,ι,rfl,Q⟩
 have hv:=Q.val.int;subst hv;exact⟨rfl,Q.os,Q.tape,Q.output,Q.size,λk hk=>Q.block k hk (by simp) (λ⟨_,hm,_⟩=>by simp at hm)⟩
end Go.Proofs.YtdplaepmjogjjaaGreat.Am

set_option linter.all false
namespace Go.Proofs.YtdplaepmjogjjaaGreat.Am
open Go Go.RowKit
inductive CT where
 | int (k:IntKind)
 | bool
 | str
 | dG
 | sl (ts:List CT)
def zI(A:Type):List CT->Type->Type
 | [],_=>A
 | _::_,B=>A × B
mutual
@[reducible] def CT.den:CT->Type
 | .int _=>Int
 | .bool=>Bool
 | .str=>ByteArray
 | .dG=>Unit
 | .sl ts=>List (aR ts)
@[reducible] def aR:List CT->Type
 | []=>Unit
 | t::ts=>zI t.den ts (aR ts)
end
def hd{A:Type}:(ts:List CT)->{B:Type}->zI A ts B->A
 | [],_,x=>x
 | _::_,_,x=>x.1
def tl{A:Type}:(ts:List CT)->zI A ts (aR ts)->aR ts
 | [],_=>()
 | _::_,x=>x.2
def lR{A:Type}:(ts:List CT)->A->aR ts->zI A ts (aR ts)
 | [],a,_=>a
 | _::_,a,b=>(a,b)
mutual
def enc:(t:CT)->t.den->D
 | .int k,x=>.v (.int k x)
 | .bool,b=>.v (.bool b)
 | .str,s=>.v (.string s)
 | .dG,_=>.v (.pointer none)
 | .sl ts,l=>.sl ts.length (List.map (aV ts) l)
def aV:(ts:List CT)->aR ts->List D
 | [],_=>[]
 | t::ts,x=>enc t (hd ts x)::aV ts (tl ts x)
end
mutual
def CT.beq:CT->CT->Bool
 | .int k,.int k'=>decide (k=k')
 | .bool,.bool=>true
 | .str,.str=>true
 | .dG,.dG=>true
 | .sl a,.sl b=>CT.di a b
 | _,_=>false
def CT.di:List CT->List CT->Bool
 | [],[]=>true
 | x::xs,y::ys=>x.beq y&&CT.di xs ys
 | _,_=>false
end
mutual
def CT.wy:(t:CT)->t.den
 | .int _=>(0:Int)
 | .bool=>false
 | .str=>⟨#[]⟩
 | .dG=>()
 | .sl ts=>([]:List (aR ts))
def aR.wy:(ts:List CT)->aR ts
 | []=>()
 | t::ts=>lR ts t.wy (aR.wy ts)
end
mutual
theorem CT.beq_eq:∀(a b:CT),a.beq b=true->a=b
 | .int k,.int k',h=>by simp[CT.beq]at h;rw[h]
 | .bool,.bool,_=>rfl
 | .str,.str,_=>rfl
 | .dG,.dG,_=>rfl
 | .sl a,.sl b,h=>by simp only[CT.beq]at h;rw[CT.bS a b h]
 | .int _,.bool,h=>by simp[CT.beq]at h
 | .int _,.str,h=>by simp[CT.beq]at h
 | .int _,.sl _,h=>by simp[CT.beq]at h
 | .bool,.int _,h=>by simp[CT.beq]at h
 | .bool,.str,h=>by simp[CT.beq]at h
 | .bool,.sl _,h=>by simp[CT.beq]at h
 | .str,.int _,h=>by simp[CT.beq]at h
 | .str,.bool,h=>by simp[CT.beq]at h
 | .str,.sl _,h=>by simp[CT.beq]at h
 | .sl _,.int _,h=>by simp[CT.beq]at h
 | .sl _,.bool,h=>by simp[CT.beq]at h
 | .sl _,.str,h=>by simp[CT.beq]at h
 | .int _,.dG,h=>by simp[CT.beq]at h
 | .dG,.int _,h=>by simp[CT.beq]at h
 | .bool,.dG,h=>by simp[CT.beq]at h
 | .dG,.bool,h=>by simp[CT.beq]at h
 | .str,.dG,h=>by simp[CT.beq]at h
 | .dG,.str,h=>by simp[CT.beq]at h
 | .sl _,.dG,h=>by simp[CT.beq]at h
 | .dG,.sl _,h=>by simp[CT.beq]at h
theorem CT.bS:∀(a b:List CT),CT.di a b=true->a=b
 | [],[],_=>rfl
 | x::xs,y::ys,h=>by simp only[CT.di,Bool.and_eq_true]at h;rw[CT.beq_eq x y h.1,CT.bS xs ys h.2]
 | [],_::_,h=>by simp[CT.di]at h
 | _::_,[],h=>by simp[CT.di]at h
end
inductive TV where
 | u
 | c (t:CT) (x:t.den)
 | n (ts:List CT)
 | r (ts:List CT) (id off len:Nat)
 | p (id i j:Nat)
 | q (ts:List CT) (x:aR ts) (j:Nat)
 | a (cs:List TV)
 | tp (vs:List TV)
 | bx (cs:List TV)
 | ow (e:TypeId) (ts:List CT) (m:Mo) (es:List (aR ts))
 | bs (ts:List CT) (x:List (aR ts)) (id g:Nat) (p:cE)
 | bq (ts:List CT) (x:aR ts) (j id g:Nat) (p:cE) (i:Nat)
 | g (b:Bool) (v:TV)
inductive az where
 | none
 | dead
 | box (cs:List TV)
 | sl (e:TypeId) (ts:List CT) (m:Mo) (es:List (aR ts))
def TV.aO:TV->AV
 | .c t x=>.c (enc t x)
 | .n ts=>.n ts.length
 | .r ts id off len=>.r ts.length id off len
 | .p id i j=>.p id i j
 | .q ts x j=>.q (aV ts x) j
 | .ow e ts m es=>.ow e ts.length m (es.map (aV ts))
 | .bs ts x id v pt=>.b (.sl ts.length (x.map (aV ts))) id v pt
 | .bq ts x j id v pt i=>.bq (aV ts x) j id v pt i
 | _=>.u
def TV.cl:TV->AV
 | .a cs=>.a (cs.map TV.aO)
 | x=>x.aO
def TV.aA:TV->AV
 | .tp vs=>.t (vs.map TV.cl)
 | .bx cs=>.bx (cs.map TV.aO)
 | .g b v=>bif b then v.aA else .t []
 | x=>x.cl
def az.aA:az->aQ
 | .none=>.none
 | .dead=>.dead
 | .box cs=>.box (cs.map TV.aO)
 | .sl e ts m es=>.sl e ts.length m (es.map (aV ts))
def cH:List (Nat × TV)->Nat->TV
 | [],_=>.u
 | (j,x)::r,i=>bif Nat.beq i j then x else cH r i
def dx:List (Nat × az)->Nat->az
 | [],_=>.none
 | (j,x)::r,i=>bif Nat.beq i j then x else dx r i
structure cr where
 t:List (Nat × TV)
 h:List (Nat × az)
 nx:Nat
def cr.T(σ:cr):Nat->TV:=cH σ.t
def cr.H(σ:cr):Nat->az:=dx σ.h
def cr.aA(σ:cr):St:=⟨λs=>(σ.T s).aA,λi=>(σ.H i).aA,σ.nx⟩
inductive bD where
 | s (i:Nat)
 | k (x:TV)
def bD.ev(T:Nat->TV):bD->TV
 | .s i=>T i
 | .k x=>x
def bD.er:bD->aW
 | .s i=>.s i
 | .k x=>.k x.aA
inductive d7 where
 | eH (x:bD)
 | pick (c x y:bD)
 | bin (op:BinOp) (x y:bD)
 | gF (n:Nat) (neg:Bool) (x y:bD)
 | ij (neg:Bool) (x y:bD)
 | not (x:bD)
 | neg (x:bD)
 | new (e:TypeId) (zs:List TV)
 | box (e:TypeId) (x:bD) (n:Nat)
 | load (x:bD) (n:Nat) (agg:Bool)
 | store (x v:bD) (n:Nat)
 | kp (x:bD) (off:Nat)
 | jv (x i:bD) (ts:List CT)
 | kY (x:bD) (off n:Nat) (agg:Bool)
 | build (zs:List TV) (ps:List (Nat × Nat × bD))
 | bW (e:TypeId) (ts:List CT) (ps:List bD)
 | mk (e:TypeId) (ts:List CT) (zs:List TV) (n:bD)
 | fx (x:bD) (lo hi:Option bD) (ts:List CT)
 | len (x:bD)
 | app (s x:bD) (e:TypeId) (ts:List CT)
 | mm (mx:Bool) (x y:bD)
 | call (f:FuncId) (args:List bD)
 | ext (x:bD) (i:Nat)
 | conv (k:IntKind) (x:bD)
 | gh (x:bD)
def Fk(p:Nat × Nat × bD):Nat × Nat × aW:=(p.1,p.2.1,p.2.2.er)
def oL:Option bD->Option aW
 | some x=>some x.er
 | none=>none
def d7.er:d7->eb
 | .eH x=>.eH x.er
 | .pick c x y=>.pick c.er x.er y.er
 | .bin op x y=>.bin op x.er y.er
 | .gF n g x y=>.gF n g x.er y.er
 | .ij g x y=>.ij g x.er y.er
 | .not x=>.not x.er
 | .neg x=>.neg x.er
 | .new e zs=>.new e (zs.map TV.aO)
 | .box e x n=>.box e x.er n
 | .load x n agg=>.load x.er n agg
 | .store x v n=>.store x.er v.er n
 | .kp x off=>.kp x.er off
 | .jv x i ts=>.jv x.er i.er ts.length
 | .kY x off n agg=>.kY x.er off n agg
 | .build zs ps=>.build (zs.map TV.aO) (ps.map Fk)
 | .bW e ts ps=>.bW e ts.length (ps.map bD.er)
 | .mk e ts zs n=>.mk e ts.length (zs.map TV.aO) n.er
 | .fx x lo hi ts=>.fx x.er (oL lo) (oL hi) ts.length
 | .len x=>.len x.er
 | .app s x e ts=>.app s.er x.er e ts.length
 | .mm mx x y=>.mm mx x.er y.er
 | .call f args=>.call f (args.map bD.er)
 | .ext x i=>.ext x.er i
 | .conv k x=>.conv k x.er
 | .gh x=>.gh x.er
structure TE where
 pre:Option Prop
 val:TV
 fU:List (Nat × az)
def nn:Option Prop->Prop->Prop
 | none,k=>k
 | some p,k=>p/\k
def holds:Option Prop->Prop
 | none=>True
 | some p=>p
inductive Sh where
 | c (t:CT)
 | a (ts:List CT)
 | b (ts:List CT)
 | o (e:TypeId) (ts:List CT)
 | d (ts:List CT)
 | s (ts:List CT)
def Sh.md:Sh->AM
 | .o _ _=>.o
 | .d _=>.p
 | .s _=>.p
 | _=>.d
def gu(sg:List Sh):List AM:=sg.map Sh.md
def CT.flat:CT->Bool
 | .sl _=>false
 | _=>true
abbrev dw:Mo:=.dp 0 false []
def kE:Mo->Bool
 | .dp 0 false []=>true
 | _=>false
def oM:List TV->Option (List CT)
 | []=>some []
 | .c t _::r=>match oM r with
  | some ts=>some (t::ts)
  | none=>none
 | _=>none
def Jy:List CT->List TV->Bool
 | [],[]=>true
 | t::ts,x::xs=>(match x with
  | .c t' _=>t'.beq t&&t'.flat
  | .ow e' b5 m _=>Nat.beq e' 0&&(CT.sl b5).beq t&&kE m
  | _=>false)&&Jy ts xs
 | _,_=>false
def Sh.fits:Sh->TV->Bool
 | .c t,.c t' _=>t'.beq t
 | .a ts,.a cs=>match oM cs with
  | some b5=>CT.di b5 ts
  | none=>false
 | .b ts,.bx cs=>match oM cs with
  | some b5=>CT.di b5 ts
  | none=>false
 | .o e ts,.ow e' b5 .ow _=>Nat.beq e' e&&CT.di b5 ts
 | .d ts,.ow e' b5 m _=>Nat.beq e' 0&&CT.di b5 ts&&kE m
 | .s ts,.a cs=>Jy ts cs
 | _,_=>false
def ZU:List Sh->List TV->Bool
 | [],[]=>true
 | s::ss,x::xs=>s.fits x&&ZU ss xs
 | _,_=>false
structure aB where
 v:TV
 hb:List az
 bx:List (List TV)
 al:Bool
 gv:List az
structure aI where
 f:FuncId
 sg:List Sh
 fn:List TV->Option (Option Prop × aB)
structure aF where
 rows:List aI
 dp:Bool:=false
def Jm:List aI->FuncId->Option aI
 | [],_=>none
 | r::rs,f=>bif Nat.beq r.f f then some r else Jm rs f
def tB{ts b5:List CT}(e:CT.di ts b5=true)(l:List (aR ts)):List (aR b5):=CT.bS ts b5 e ▸ l
def zJ{t t':CT}(e:t.beq t'=true)(x:t.den):t'.den:=CT.beq_eq t t' e ▸ x
def az.dq:az->Option Nat
 | .sl _ _ (.dp g _ []) _=>some g
 | _=>Option.none
def az.pX:az->Bool
 | .sl _ _ (.dp _ _ []) _=>true
 | _=>false
def az.np(b:az)(g:Nat):Bool:=match b.dq with
 | some g'=>Nat.beq g' g
 | Option.none=>false
def TV.eE(h:Nat->az)(t:CT):TV->Option t.den
 | .c t' x=>if e:t'.beq t=true then some (zJ e x) else none
 | .n ts=>match t with
  | .sl b5=>bif CT.di ts b5 then some ([]:List (aR b5)) else none
  | _=>none
 | .r _ id off len=>match t with
  | .sl b5=>match h id with
   | .sl _ ts m es=>bif m.full then(if e:CT.di ts b5=true then some (((tB e es).drop off).take len) else none) else none
   | _=>none
  | _=>none
 | .bs ts x id v _=>match t with
  | .sl b5=>bif (h id).np v then(if e:CT.di ts b5=true then some (tB e x) else none) else none
  | _=>none
 | _=>none
def TV.iF(h:Nat->az):TV->Option TV
 | .c t x=>some (.c t x)
 | .n ts=>some (.c (.sl ts) [])
 | .r _ id off len=>match h id with
  | .sl _ ts m es=>bif m.full then some (.c (.sl ts) ((es.drop off).take len)) else none
  | _=>none
 | .bs ts x id v _=>bif (h id).np v then some (.c (.sl ts) x) else none
 | _=>none
def TV.kF(h:Nat->az):List TV->Option (List TV)
 | []=>some []
 | x::xs=>match x.iF h,TV.kF h xs with
  | some d,some ds=>some (d::ds)
  | _,_=>none
def aR.cells:(ts:List CT)->aR ts->List TV
 | [],_=>[]
 | t::ts,x=>.c t (hd ts x)::aR.cells ts (tl ts x)
def aR.of(h:Nat->az):(ts:List CT)->List TV->Option (aR ts)
 | [],xs=>match xs with
  | []=>some ()
  | _=>none
 | t::ts,xs=>match xs with
  | x::xs=>match x.eE h t,aR.of h ts xs with
   | some a,some b=>some (lR ts a b)
   | _,_=>none
  | []=>none
def TV.cells:TV->List TV
 | .a cs=>cs
 | x=>[x]
def TV.one:TV->Bool
 | .c _ _ | .n _ | .r .. | .p .. | .q .. | .bs .. | .bq ..=>true
 | _=>false
def TV.st:TV->Bool
 | .a _=>true
 | x=>x.one
def TV.bR:TV->List Nat
 | .r _ id _ _=>[id]
 | .bs _ _ id _ _=>[id]
 | _=>[]
def TV.fE:TV->List Nat
 | .r _ id _ _=>[id]
 | _=>[]
def TV.cS:List TV->List Nat
 | []=>[]
 | x::xs=>x.fE++TV.cS xs
def TV.dc:TV->List Nat
 | .a cs=>TV.cS cs
 | .g b v=>bif b then v.dc else []
 | x=>x.fE
def TV.bM:List TV->List Nat
 | []=>[]
 | x::xs=>x.bR++TV.bM xs
def TV.refs:TV->List Nat
 | .a cs=>TV.bM cs
 | .g b v=>bif b then v.refs else []
 | x=>x.bR
def TV.b9:TV->List Nat
 | .p id _ _=>[id]
 | .g b v=>bif b then v.b9 else []
 | _=>[]
def Fl:az->az
 | .sl e ts _ es=>.sl e ts .fz es
 | b=>b
def kG(h:Nat->az):List Nat->List (Nat × az)
 | []=>[]
 | id::ids=>(id,Fl (h id))::kG h ids
def qO(agg:Bool)(cs:List TV):Option TV :=
 if agg then some (.a cs) else match cs with
  | [x]=>bif x.one then some x else none
  | _=>none
def az.alive:az->Bool
 | .box _=>true
 | .sl ..=>true
 | _=>false
def tC:List TV->Option (List Int)
 | []=>some []
 | .c (.int .i64) x::r=>match tC r with
  | some l=>some (x::l)
  | none=>none
 | _=>none
def Fm:TV->Option Int
 | .c (.int _) x=>some x
 | _=>none
def qP(T:Nat->TV)(m:Int):Option bD->Option Int
 | some l=>Fm (l.ev T)
 | none=>some m
def nq(h:Nat->az):TV->Option TV
 | .a cs=>match TV.kF h cs with
  | some ds=>some (.a ds)
  | none=>none
 | .p id 0 0=>match h id with
  | .box cs=>match TV.bM cs with
   | []=>match TV.kF h cs with
    | some ds=>some (.bx ds)
    | none=>none
   | _=>none
  | _=>none
 | x=>x.iF h
def wz(h:Nat->az):List TV->Option (List TV)
 | []=>some []
 | x::xs=>match nq h x,wz h xs with
  | some d,some ds=>some (d::ds)
  | _,_=>none
def gP:Option Prop->Option Prop->Option Prop
 | none,q=>q
 | some p,none=>some p
 | some p,some q=>some (p/\q)
def Fo(h:Nat->az):TV->Option (Option Prop × TV)
 | .r ts id 0 len=>match h id with
  | .sl e b5 .ow es=>bif CT.di b5 ts then some (some (len=es.length),.ow e b5 .ow es) else none
  | _=>none
 | _=>none
def zK(h:Nat->az):TV->Option (Option Prop × TV)
 | .c t x=>bif t.flat then some (none,.c t x) else none
 | .r ts id 0 len=>match h id with
  | .sl _ b5 (.dp _ _ []) es=>bif CT.di b5 ts then some (some (len=es.length),.ow 0 b5 dw es) else none
  | _=>none
 | _=>none
def wA(h:Nat->az):List TV->Option (Option Prop × List TV)
 | []=>some (none,[])
 | x::xs=>match zK h x,wA h xs with
  | some (p,d),some (q,ds)=>some (gP p q,d::ds)
  | _,_=>none
def zL(h:Nat->az):TV->Option (Option Prop × TV)
 | .a cs=>match wA h cs with
  | some (p,ds)=>some (p,.a ds)
  | none=>none
 | .r ts id off len=>zK h (.r ts id off len)
 | _=>none
def zM(h:Nat->az):AM->TV->Option (Option Prop × TV)
 | .d,x=>match nq h x with
  | some d=>some (none,d)
  | none=>none
 | .o,x=>Fo h x
 | .p,x=>zL h x
def oN(h:Nat->az):List AM->List TV->Option (Option Prop × List TV)
 | [],xs=>match wz h xs with
  | some ds=>some (none,ds)
  | none=>none
 | m::ms,xs=>match xs with
  | []=>some (none,[])
  | x::xs=>match zM h m x,oN h ms xs with
   | some (p,d),some (q,ds)=>some (gP p q,d::ds)
   | _,_=>none
def qQ:List AM->List TV->List TV
 | [],_=>[]
 | m::ms,xs=>match xs with
  | []=>[]
  | x::xs=>bif m.h then x::qQ ms xs else qQ ms xs
def oO:List AM->List TV->List TV
 | [],xs=>xs
 | m::ms,xs=>match xs with
  | []=>[]
  | x::xs=>bif m.h then oO ms xs else x::oO ms xs
def Rx:az->az->az
 | .sl e _ (.dp g _ _) _,.sl _ ts (.dp _ _ []) es=>.sl e ts (.dp (g+1) false []) es
 | .sl _ _ (.dp _ _ _) _,_=>.dead
 | _,B=>B
def zN(h:Nat->az):List Nat->List az->List (Nat × az)
 | id::ids,x::xs=>(id,Rx (h id) x)::zN h ids xs
 | _,_=>[]
def zO:List Nat->List Nat->Bool
 | [],_=>true
 | x::xs,ys=>(ys.all λy=>!Nat.beq x y)&&zO xs ys
def TV.mf(b:Nat):TV->TV
 | .r ts id off len=>.r ts (id+b) off len
 | .p id i j=>.p (id+b) i j
 | .c t x=>.c t x
 | .n ts=>.n ts
 | .q ts x j=>.q ts x j
 | _=>.u
def TV.kZ(b:Nat):TV->TV
 | .a cs=>.a (cs.map (TV.mf b))
 | x=>x.mf b
def TV.sh(b:Nat):TV->TV
 | .tp vs=>.tp (vs.map (TV.kZ b))
 | .g d v=>.g d (v.sh b)
 | x=>x.kZ b
def az.sh(b:Nat):az->az
 | .box cs=>.box (cs.map (TV.mf b))
 | x=>x
def zP(b:Nat):List az->List (Nat × az)
 | []=>[]
 | x::xs=>(b,x)::zP (b+1) xs
def zQ:List Nat->List (List TV)->List (Nat × az)
 | id::ids,cs::cD=>(id,.box cs)::zQ ids cD
 | _,_=>[]
def wB(T:Nat->TV):List TV->List (Nat × Nat × bD)->Option (List TV)
 | cs,[]=>some cs
 | cs,(off,n,x)::r =>
  bif Nat.beq (x.ev T).cells.length n&&Nat.ble (off+n) cs.length&&(x.ev T).st then wB T (bu cs off (x.ev T).cells) r else none
def wC(h:Nat->az)(T:Nat->TV)(ts:List CT):List bD->Option (List (aR ts))
 | []=>some []
 | x::r=>match aR.of h ts (x.ev T).cells,wC h T ts r with
  | some e,some es=>some (e::es)
  | _,_=>none
def oP:List Nat->Bool
 | []=>true
 | x::xs=>!(xs.elem x)&&oP xs
def iG(l:List TV)(j n:Nat):Option (List TV):=bif Nat.ble (j+n) l.length then some ((l.drop j).take n) else none
def qR(op:BinOp):TV->TV->Option TE
 | .c (.int k) x,.c (.int k') y =>
  match op with
  | .shl=>some ⟨some ((0:Int)<=y),.c (.int k) (k.wrap (x*2 ^ (min (Int.toNat y) k.bits))),[]⟩
  | .shr=>some ⟨some ((0:Int)<=y),.c (.int k) (Int.fdiv x (2 ^ (min (Int.toNat y) k.bits))),[]⟩
  | op=>if k=k' then(match op with
   | .add=>some ⟨none,.c (.int k) (k.wrap (x+y)),[]⟩
   | .sub=>some ⟨none,.c (.int k) (k.wrap (x-y)),[]⟩
   | .mul=>some ⟨none,.c (.int k) (k.wrap (x*y)),[]⟩
   | .quo=>some ⟨some (¬ (y:Int)=0),.c (.int k) (k.wrap (Int.tdiv x y)),[]⟩
   | .rem=>some ⟨some (¬ (y:Int)=0),.c (.int k) (Int.tmod x y),[]⟩
   | .and=>some ⟨none,.c (.int k) (k.wrap ((BitVec.ofInt k.bits x &&& BitVec.ofInt k.bits y).toNat)),[]⟩
   | .or=>some ⟨none,.c (.int k) (k.wrap ((BitVec.ofInt k.bits x ||| BitVec.ofInt k.bits y).toNat)),[]⟩
   | .xor=>some ⟨none,.c (.int k) (k.wrap ((BitVec.ofInt k.bits x ^^^ BitVec.ofInt k.bits y).toNat)),[]⟩
   | .eql=>some ⟨none,.c .bool ((x:Int)==y),[]⟩
   | .neq=>some ⟨none,.c .bool ((x:Int) != y),[]⟩
   | .lss=>some ⟨none,.c .bool (decide ((x:Int)<y)),[]⟩
   | .leq=>some ⟨none,.c .bool (decide ((x:Int)<=y)),[]⟩
   | .gtr=>some ⟨none,.c .bool (decide ((x:Int)>y)),[]⟩
   | .geq=>some ⟨none,.c .bool (decide ((x:Int)>=y)),[]⟩
   | _=>none) else none
 | .c .str x,.c .str y=>match op with
  | .eql=>some ⟨none,.c .bool (ByteArray.toList x==ByteArray.toList y),[]⟩
  | .neq=>some ⟨none,.c .bool (!(ByteArray.toList x==ByteArray.toList y)),[]⟩
  | _=>none
 | _,_=>none
def d5{α:Type}(b:Bool)(x y:α):α:=match b with
 | true=>x
 | false=>y
def gt(ts:List CT)(l:List (aR ts))(i:Nat):aR ts:=l.getD i (aR.wy ts)
def aR.cj(id g i:Nat):Nat->(ts:List CT)->aR ts->List TV
 | _,[],_=>[]
 | j,t::ts,x=>(match t,hd ts x with
  | .sl us,l=>TV.bs us l id g [(i,j)]
  | t,v=>.c t v)::aR.cj id g i (j+1) ts (tl ts x)
def aR.da(m:Mo)(id i:Nat)(ts:List CT)(x:aR ts):List TV:=match m with
 | .dp g _ _=>aR.cj id g i 0 ts x
 | _=>aR.cells ts x
def aR.bQ(id g:Nat)(p:cE)(i:Nat):Nat->(ts:List CT)->aR ts->List TV
 | _,[],_=>[]
 | j,t::ts,x=>(match t,hd ts x with
  | .sl us,l=>TV.bs us l id g (p++[(i,j)])
  | t,v=>.c t v)::aR.bQ id g p i (j+1) ts (tl ts x)
def TV.eH(h:Nat->az)(id g i j:Nat):TV->Option (Option Prop)
 | .c t _=>bif t.flat then some none else none
 | .n _=>some none
 | .r _ b8 _ _=>bif !(Nat.beq b8 id)&&(h b8).pX then some none else none
 | .bs _ _ b8 g' pt=>match pt with
  | [(i',j')]=>bif Nat.beq b8 id&&Nat.beq g' g&&Nat.beq j' j then some (some (i'=i)) else none
  | _=>none
 | _=>none
def TV.dz(h:Nat->az)(id g i:Nat):Nat->List TV->Option (Option Prop)
 | _,[]=>some none
 | j,x::xs=>match x.eH h id g i j,TV.dz h id g i (j+1) xs with
  | some P,some Q=>some (gP P Q)
  | _,_=>none
def zR(h:Nat->az)(b:Nat)(T:Nat->TV):Nat->List bD->Option (Option Prop)
 | _,[]=>some none
 | i,x::r=>match TV.dz h b 0 i 0 (x.ev T).cells,zR h b T (i+1) r with
  | some p,some q=>some (gP p q)
  | _,_=>none
def jL:List Nat->List (Nat × az)
 | []=>[]
 | id::ids=>(id,.dead)::jL ids
def TV.pl:TV->Bool
 | .c t _=>t.flat
 | .n _=>true
 | _=>false
def az.kH:az->Bool
 | .sl _ _ (.dp _ _ _) _=>true
 | _=>false
def TV.iT(h:Nat->az)(ts:List CT):TV->Bool
 | .r _ idx _ _=>!(h idx).kH||ts.all CT.flat
 | .bs ..=>ts.all CT.flat
 | _=>true
def TV.dI(h:Nat->az)(id len:Nat)(ts:List CT):TV->Option (Option Prop)
 | .r _ idx off _=>bif (h idx).kH then(bif Nat.beq idx id then some (some (len<=off)) else some none) else bif ts.all CT.flat then some none else none
 | _=>bif ts.all CT.flat then some none else none
def TV.de(h:Nat->az):TV->List Nat
 | .r _ idx _ _=>bif (h idx).kH then [idx] else []
 | _=>[]
def qS:TV->Bool
 | .c t _=>t.flat
 | _=>false
def Fp(Γ:aF)(h:Nat->az)(b:Nat)(f:FuncId)(id g i j:Nat)(xs:List TV):Option TE :=
 match h id with
 | .sl e ts (.dp g0 t []) es=>match(aR.cells ts (gt ts es i))[j]? with
  | some (.c (.sl us) l)=>match Jm Γ.rows f with
   | some row=>bif ZU row.sg (.ow 0 us dw l::xs)&&Nat.beq g0 g&&xs.all qS&&!us.isEmpty then(match row.fn (.ow 0 us dw l::xs) with
    | some (pre,⟨v,[],[],_,[.sl _ lS (.dp _ _ []) eP]⟩)=>match aR.of (λ_=>.none) ts (bu (aR.cells ts (gt ts es i)) j [.c (.sl lS) eP]) with
     | some x=>bif CT.di lS us then some ⟨gP (some (i<es.length)) pre,v.sh b,[(b,.dead),(id,.sl e ts (.dp (g+1) t []) (es.set i x))]⟩ else none
     | none=>none
    | _=>none) else none
   | none=>none
  | _=>none
 | _=>none
def Fq(ms:List AM)(xs:List TV):Option (Nat × Nat × Nat × Nat × List TV) :=
 match ms,xs with
 | .p::ms,.bs _ _ id g [(i,j)]::r=>if ms.all (λm=>!m.h)=true then some (id,g,i,j,r) else none
 | _,_=>none
def Fs(Γ:aF)(h:Nat->az)(b:Nat)(f:FuncId)(xs:List TV)(row:aI):Option TE :=
 match oN h (gu row.sg) xs with
   | some (p0,vs)=>bif ZU row.sg vs then(match row.fn vs with
    | some (pre,r)=>bif Nat.ble r.hb.length 16&&((r.bx.isEmpty&&r.gv.isEmpty)||r.al)&&oP ((oO (gu row.sg) xs).flatMap TV.b9) &&
       oP ((qQ (gu row.sg) xs).flatMap TV.refs)&&zO ((qQ (gu row.sg) xs).flatMap TV.refs) ((oO (gu row.sg) xs).flatMap TV.refs) then
      some ⟨gP p0 pre,r.v.sh b,zP b (r.hb.map (az.sh b))++zQ ((oO (gu row.sg) xs).flatMap TV.b9) r.bx++zN h ((qQ (gu row.sg) xs).flatMap TV.refs) r.gv ++
       (if r.al then kG h ((oO (gu row.sg) xs).flatMap TV.refs) else [])⟩ else none
    | none=>none) else none
   | none=>none
def Zn(Γ:aF)(T:Nat->TV)(h:Nat->az)(b:Nat):d7->Option TE
 | .eH x=>some ⟨none,x.ev T,[]⟩
 | .pick c x y=>match c.ev T,x.ev T,y.ev T with
  | .c .bool c,.c .bool x,.c .bool y=>some ⟨none,.c .bool (bif c then x else y),[]⟩
  | _,_,_=>none
 | .bin op x y=>qR op (x.ev T) (y.ev T)
 | .gF n neg x y=>match x.ev T,y.ev T with
  | .a xs,.a ys=>match tC xs,tC ys with
   | some l,some m=>bif Nat.beq l.length n&&Nat.beq m.length n then some ⟨none,.c .bool (d5 neg (!decide (l=m)) (decide (l=m))),[]⟩ else none
   | _,_=>none
  | _,_=>none
 | .ij neg x y=>match x.ev T,y.ev T with
  | .c .bool x,.c .bool y=>some ⟨none,.c .bool (d5 neg (!((x:Bool)==y)) ((x:Bool)==y)),[]⟩
  | _,_=>none
 | .not x=>match x.ev T with
  | .c .bool c=>some ⟨none,.c .bool (!c),[]⟩
  | _=>none
 | .neg x=>match x.ev T with
  | .c (.int k) n=>some ⟨none,.c (.int k) (k.wrap (0-n)),[]⟩
  | _=>none
 | .new _ zs=>some ⟨none,.p b 0 0,[(b,.box zs)]⟩
 | .box _ x n=>bif Nat.beq (x.ev T).cells.length n&&(x.ev T).st then some ⟨none,.p b 0 0,[(b,.box (x.ev T).cells)]⟩ else none
 | .load x n agg=>match x.ev T with
  | .p id i j=>match h id with
   | .box cs=>match i with
    | 0=>match iG cs j n with
     | some l=>match qO agg l with
      | some v=>some ⟨none,v,[]⟩
      | none=>none
     | none=>none
    | _=>none
   | .sl _ ts m es=>bif m.full then(match iG (aR.da m id i ts (gt ts es i)) j n with
    | some l=>match qO agg l with
     | some v=>some ⟨some (i<es.length),v,[]⟩
     | none=>none
    | none=>none) else none
   | _=>none
  | .bq ts x j id g p i=>bif (h id).np g then(match iG (aR.bQ id g p i 0 ts x) j n with
   | some l=>match qO agg l with
    | some v=>some ⟨none,v,[]⟩
    | none=>none
   | none=>none) else none
  | .q ts x j=>match iG (aR.cells ts x) j n with
   | some l=>match qO agg l with
    | some v=>some ⟨none,v,[]⟩
    | none=>none
   | none=>none
  | _=>none
 | .store x v n=>bif Nat.beq (v.ev T).cells.length n&&(v.ev T).st then(match x.ev T with
  | .p id i j=>match h id with
   | .box cs=>match i with
    | 0=>bif Nat.ble (j+n) cs.length then some ⟨none,.u,[(id,.box (bu cs j (v.ev T).cells))]⟩ else none
    | _=>none
   | .sl e ts .ow es=>match aR.of h ts (bu (aR.cells ts (gt ts es i)) j (v.ev T).cells) with
    | some x=>bif Nat.ble (j+n) ts.length&&!((v.ev T).refs.elem id) then some ⟨some (i<es.length),.u,(id,.sl e ts .ow (es.set i x))::kG h (v.ev T).refs⟩ else none
    | none=>none
   | .sl e ts (.dp g t []) es=>match aR.of h ts (bu (aR.cells ts (gt ts es i)) j (v.ev T).cells) with
    | some x=>match TV.dz h id g i j (v.ev T).cells with
     | some q=>bif Nat.ble (j+n) ts.length&&oP (v.ev T).dc then some ⟨gP (some (i<es.length)) q,.u,(id,.sl e ts (.dp (g+1) t []) (es.set i x))::jL (v.ev T).dc⟩ else none
     | none=>none
    | none=>none
   | _=>none
  | _=>none) else none
 | .kp x off=>match x.ev T with
  | .p id i j=>bif (h id).alive then some ⟨none,.p id i (j+off),[]⟩ else none
  | .q ts x j=>some ⟨none,.q ts x (j+off),[]⟩
  | .bq ts x j id g p i=>bif (h id).np g then some ⟨none,.bq ts x (j+off) id g p i,[]⟩ else none
  | _=>none
 | .jv x i ts=>match i.ev T with
  | .c (.int _) i=>match x.ev T with
   | .c (.sl b5) l=>bif CT.di b5 ts then some ⟨some ((0:Int)<=i/\Int.toNat i<List.length l),.q b5 (gt b5 l (Int.toNat i)) 0,[]⟩ else none
   | .r b5 id off len=>bif CT.di b5 ts&&(h id).alive then some ⟨some ((0:Int)<=i/\Int.toNat i<len),.p id (off+Int.toNat i) 0,[]⟩ else none
   | .bs b5 l id g p=>bif CT.di b5 ts&&(h id).np g then some ⟨some ((0:Int)<=i/\Int.toNat i<List.length l),.bq b5 (gt b5 l (Int.toNat i)) 0 id g p (Int.toNat i),[]⟩ else none
   | _=>none
  | _=>none
 | .kY x off n agg=>match x.ev T with
  | .a cs=>match iG cs off n with
   | some l=>match qO agg l with
    | some v=>some ⟨none,v,[]⟩
    | none=>none
   | none=>none
  | _=>none
 | .build zs ps=>match wB T zs ps with
  | some cs=>some ⟨none,.a cs,[]⟩
  | none=>none
 | .bW e ts ps=>match wC h T ts ps with
  | some es=>match Γ.dp with
   | true=>match zR h b T 0 ps with
    | some q=>bif oP (ps.flatMap λx=>(x.ev T).dc) then some ⟨q,.r ts b 0 es.length,(b,.sl e ts (.dp 0 true []) es)::jL (ps.flatMap λx=>(x.ev T).dc)⟩ else none
    | none=>none
   | false=>some ⟨none,.r ts b 0 es.length,(b,.sl e ts .ow es)::kG h (ps.flatMap λx=>(x.ev T).refs)⟩
  | none=>none
 | .mk e ts zs n=>match n.ev T,aR.of h ts zs with
  | .c (.int _) n,some z=>bif !Γ.dp||zs.all TV.pl then some ⟨some ((0:Int)<=n/\n<=cc),.r ts b 0 (Int.toNat n),[(b,.sl e ts (d5 Γ.dp (.dp 0 true []) .ow) (List.replicate (Int.toNat n) z))]⟩ else none
  | _,_=>none
 | .fx x lo hi ts =>
  match qP T 0 lo with
  | some lo=>match x.ev T with
   | .c (.sl b5) l=>match qP T (List.length l) hi with
    | some hi=>bif CT.di b5 ts then some ⟨some (0<=lo/\lo<=hi/\hi<=List.length l),.c (.sl b5) (List.take (hi.toNat-lo.toNat) (List.drop lo.toNat l)),[]⟩ else none
    | none=>none
   | .r b5 id off len=>match qP T len hi with
    | some hi=>bif CT.di b5 ts&&(h id).alive then some ⟨some (0<=lo/\lo<=hi/\hi<=len),.r b5 id (off+lo.toNat) (hi.toNat-lo.toNat),[]⟩ else none
    | none=>none
   | .n _=>match qP T 0 hi with
    | some hi=>some ⟨some (lo=0/\hi=0),.n ts,[]⟩
    | none=>none
   | _=>none
  | none=>none
 | .len x=>match x.ev T with
  | .c (.sl _) l=>some ⟨none,.c (.int .i64) (List.length l:Int),[]⟩
  | .n _=>some ⟨none,.c (.int .i64) (0:Int),[]⟩
  | .r _ id _ len=>bif (h id).alive then some ⟨none,.c (.int .i64) (len:Int),[]⟩ else none
  | .bs _ l id g _=>bif (h id).np g then some ⟨none,.c (.int .i64) (List.length l:Int),[]⟩ else none
  | _=>none
 | .app s x e ts=>match(x.ev T).eE h (.sl ts) with
  | some xs=>match s.ev T with
   | .n _=>match Γ.dp with
    | true=>match(x.ev T).dI h b 0 ts with
     | some q=>some ⟨gP (some (List.length xs<=cc)) q,.r ts b 0 (List.length xs),jL ((x.ev T).de h)++[(b,.sl e ts (.dp 0 true []) xs)]⟩
     | none=>none
    | false=>bif (x.ev T).iT h ts then some ⟨some (List.length xs<=cc),.r ts b 0 (List.length xs),[(b,.sl e ts .ow xs)]⟩ else none
   | .r _ id 0 len=>match h id with
    | .sl e' b5 .ow es=>if q:CT.di b5 ts=true then(bif Nat.beq e' e&&(x.ev T).iT h ts then
      some ⟨some ((len=es.length\/len+List.length xs<=es.length)/\len+List.length xs<=cc),.r ts b 0 (len+List.length xs),[(id,.dead),(b,.sl e ts .ow ((tB q es).take len++xs))]⟩ else none) else none
    | .sl e' b5 (.dp _ true []) es=>if q:CT.di b5 ts=true then(bif Nat.beq e' e then(match(x.ev T).dI h id len ts with
      | some r=>some ⟨gP (some ((len=es.length\/len+List.length xs<=es.length)/\len+List.length xs<=cc)) r,.r ts b 0 (len+List.length xs),(id,.dead)::jL ((x.ev T).de h)++[(b,.sl e ts (.dp 0 true []) ((tB q es).take len++xs))]⟩
      | none=>none) else none) else none
    | _=>none
   | _=>none
  | none=>none
 | .mm mx x y=>match x.ev T,y.ev T with
  | .c (.int k) x,.c (.int _) y=>some ⟨none,.c (.int k) (d5 mx (if(x:Int)<y then y else x) (if(y:Int)<x then y else x)),[]⟩
  | _,_=>none
 | .call f args=>match Jm Γ.rows f with
  | some row=>match Fq (gu row.sg) (args.map λx=>x.ev T) with
   | some (id,g,i,j,r)=>Fp Γ h b f id g i j r
   | none=>Fs Γ h b f (args.map λx=>x.ev T) row
  | none=>none
 | .ext x i=>match x.ev T with
  | .tp vs=>match vs[i]? with
   | some v=>bif v.st then some ⟨none,v,[]⟩ else none
   | none=>none
  | _=>none
 | .conv k x=>match x.ev T with
  | .c (.int _) n=>some ⟨none,.c (.int k) (k.wrap n),[]⟩
  | _=>none
 | .gh x=>match x.ev T with
  | .p id i j=>bif (h id).alive then some ⟨none,.p id i j,[]⟩ else none
  | .q ts x j=>some ⟨none,.q ts x j,[]⟩
  | .bq ts x j id g p i=>bif (h id).np g then some ⟨none,.bq ts x j id g p i,[]⟩ else none
  | _=>none
end Go.Proofs.YtdplaepmjogjjaaGreat.Am
namespace Go.Proofs.YtdplaepmjogjjaaGreat.Am
open Go Go.RowKit
@[simp] theorem Ft{ts:List CT}(e:CT.di ts ts=true)(l:List (aR ts)):tB e l=l:=rfl
@[simp] theorem QYY{t:CT}(e:t.beq t=true)(x:t.den):zJ e x=x:=rfl
theorem az.bH{e:TypeId}{ts:List CT}{m:Mo}{es:List (aR ts)}:(az.sl e ts m es).aA = .sl e ts.length m (es.map (aV ts)):=rfl
theorem az.eM{cs:List TV}:(az.box cs).aA = .box (cs.map TV.aO):=rfl
theorem az.jd:az.dead.aA = .dead:=rfl
theorem Zv(T:Nat->TV)(o:bD):o.er.ev (λs=>(T s).aA)=(o.ev T).aA:=by cases o <;> rfl
theorem qT{x:TV}(h:x.one=true):x.aA=x.aO:=by cases x <;> first | rfl | simp[TV.one]at h
theorem Fu{x:TV}(h:x.st=true):x.aA.st=true:=by cases x <;> first | rfl | simp[TV.st,TV.one]at h
theorem wD{x:TV}(h:x.st=true):x.aA.cells=x.cells.map TV.aO:=by cases x <;> first | rfl | simp[TV.st,TV.one]at h
theorem QSp{x:TV}:x.aO.bR=x.bR:=by cases x <;> rfl
theorem QG9{x:TV}:x.aO.fE=x.fE:=by cases x <;> rfl
theorem Ry:∀ {xs:List TV},AV.cS (xs.map TV.aO)=TV.cS xs
 | []=>rfl
 | x::xs=>by simp only[List.map_cons,AV.cS,TV.cS,QG9,Ry (xs:=xs)]
theorem Fv:∀ {xs:List TV},AV.bM (xs.map TV.aO)=TV.bM xs
 | []=>rfl
 | x::xs=>by simp only[List.map_cons,AV.bM,TV.bM,QSp,Fv (xs:=xs)]
theorem zS:∀ {x:TV},x.aA.refs=x.refs
 | .a cs=>Fv
 | .g true v=>zS (x:=v)
 | .g false v=>rfl
 | .u=>rfl
 | .c _ _=>rfl
 | .n _=>rfl
 | .r ..=>rfl
 | .p ..=>rfl
 | .q ..=>rfl
 | .tp _=>rfl
 | .bx _=>rfl
 | .ow ..=>rfl
 | .bs ..=>rfl
 | .bq ..=>rfl
theorem Fw:∀ {x:TV},x.aA.dc=x.dc
 | .a cs=>Ry
 | .g true v=>Fw (x:=v)
 | .g false v=>rfl
 | .u=>rfl
 | .c _ _=>rfl
 | .n _=>rfl
 | .r ..=>rfl
 | .p ..=>rfl
 | .q ..=>rfl
 | .tp _=>rfl
 | .bx _=>rfl
 | .ow ..=>rfl
 | .bs ..=>rfl
 | .bq ..=>rfl
theorem Rz:∀ {x:TV},x.aA.b9=x.b9
 | .a cs=>rfl
 | .g true v=>Rz (x:=v)
 | .g false v=>rfl
 | .u=>rfl
 | .c _ _=>rfl
 | .n _=>rfl
 | .r ..=>rfl
 | .p ..=>rfl
 | .q ..=>rfl
 | .tp _=>rfl
 | .bx _=>rfl
 | .ow ..=>rfl
 | .bs ..=>rfl
 | .bq ..=>rfl
theorem QRX{h:Nat->az}{t:CT}{x:TV}{d:t.den}(e:x.eE h t=some d):x.one=true:=by
 cases x <;> first | rfl | simp[TV.eE]at e
theorem QX{α:Type}{b:Bool}{x:Option α}{y:α}(h:(bif b then x else none)=some y):b=true/\x=some y:=by
 cases b with
 | true=>exact⟨rfl,h⟩
 | false=>cases h
theorem QUp(b:az):b.aA.dq=b.dq:=by
 cases b with
 | sl e ts m es =>
  cases m with
  | dp g t H=>cases H <;> rfl
  | _=>rfl
 | _=>rfl
theorem QN6(b:az):b.aA.pX=b.pX:=by
 cases b with
 | sl e ts m es =>
  cases m with
  | dp g t H=>cases H <;> rfl
  | _=>rfl
 | _=>rfl
theorem qU{b:az}{g:Nat}(h:b.np g=true):b.aA.dq=some g:=by
 rw[QUp];unfold az.np at h
 cases hx:b.dq with
 | none=>rw[hx]at h;cases h
 | some g'=>rw[hx]at h;rw[Nat.eq_of_beq_eq_true h]
theorem RA{h:Nat->az}{t:CT}{x:TV}{d:t.den}(e:x.eE h t=some d):x.aO.d (λi=>(h i).aA)=some (enc t d):=by
 cases x with
 | c t' x =>
  simp only[TV.eE]at e
  split at e
  ·rename_i q;obtain rfl:=CT.beq_eq _ _ q
   cases e;rfl
  ·cases e
 | n ts =>
  cases t with
  | sl b5 =>
   simp only[TV.eE]at e;obtain⟨q,e⟩:=QX e;obtain rfl:=CT.bS _ _ q
   cases e;simp[TV.aO,AV.d,enc]
  | _=>simp[TV.eE]at e
 | r ts id off len =>
  cases t with
  | sl b5 =>
   simp only[TV.eE]at e
   split at e
   rotate_left
   ·cases e
   rename_i hh;obtain⟨hf,e⟩:=QX e
   split at e
   rotate_left
   ·cases e
   rename_i q;obtain rfl:=CT.bS _ _ q
   cases e;simp only[TV.aO,AV.d,hh,az.aA,Ft,enc,List.map_take,List.map_drop,hf,if_true]
  | _=>simp[TV.eE]at e
 | bs ts l id g p =>
  cases t with
  | sl b5 =>
   simp only[TV.eE]at e;obtain⟨hv,e⟩:=QX e
   split at e
   rotate_left
   ·cases e
   rename_i q;obtain rfl:=CT.bS _ _ q
   cases e;simp only[TV.aO,AV.d,qU hv,Ft,enc,if_true]
  | _=>simp[TV.eE]at e
 | _=>simp[TV.eE]at e
theorem wE{A:Type}(ts:List CT)(a:A)(b:aR ts):hd ts (lR ts a b)=a:=by cases ts <;> rfl
theorem wF{A:Type}(ts:List CT)(a:A)(b:aR ts):tl ts (lR ts a b)=b:=by cases ts <;> rfl
theorem tD{h:Nat->az}:∀(ts:List CT)(xs:List TV)(d:aR ts),aR.of h ts xs=some d->AV.ds (λi=>(h i).aA) (xs.map TV.aO)=some (aV ts d)/\xs.length=ts.length
 | [],xs,d,e=>by
  cases xs with
  | nil=>exact⟨rfl,rfl⟩
  | cons x xs=>cases(show(none:Option (aR []))=some d from e)
 | t::ts,xs,d,e=>by
  cases xs with
  | nil=>cases(show(none:Option (aR (t::ts)))=some d from e)
  | cons x xs =>
   have e:(match x.eE h t,aR.of h ts xs with | some a,some b=>some (lR ts a b) | _,_=>none)=some d:=e
   split at e
   rotate_left
   ·cases e
   rename_i a b ha hb
   cases e;have h1:=RA (t:=t) ha;obtain⟨h2,h3⟩:=tD ts xs b hb;rw[aV,wE,wF];simp only[List.map_cons,AV.ds,h1,h2,List.length_cons,h3,and_self]
theorem qV:∀(ts:List CT)(x:aR ts),(aV ts x).length=ts.length
 | [],x=>by rw[aV];rfl
 | t::ts,x=>by rw[aV,List.length_cons,List.length_cons,qV ts]
theorem oQ:∀(ts:List CT)(x:aR ts),(aR.cells ts x).map TV.aO=(aV ts x).map AV.c
 | [],x=>by rw[aV,aR.cells];rfl
 | t::ts,x=>by rw[aV,aR.cells,List.map_cons,List.map_cons,oQ ts];rfl
theorem wG{α β:Type}(f:α->β)(l:List α)(j:Nat)(xs:List α):(bu l j xs).map f=bu (l.map f) j (xs.map f):=by
 simp[bu]
theorem RB{h:Nat->az}{x y:TV}(e:x.iF h=some y):x.one=true/\∃ t d,y = .c t d/\x.aO.d (λi=>(h i).aA)=some (enc t d):=by
 cases x with
 | c t x=>simp only[TV.iF,Option.some.injEq]at e;subst e;exact⟨rfl,t,x,rfl,rfl⟩
 | n ts=>simp only[TV.iF,Option.some.injEq]at e;subst e;exact⟨rfl,.sl ts,[],rfl,by simp[TV.aO,AV.d,enc]⟩
 | r ts id off len =>
  simp only[TV.iF]at e
  split at e
  rotate_left
  ·cases e
  rename_i hh;obtain⟨hf,e⟩:=QX e;simp only[Option.some.injEq]at e;subst e;exact⟨rfl,_,_,rfl,by simp only[TV.aO,AV.d,hh,az.aA,enc,List.map_take,List.map_drop,hf,if_true]⟩
 | bs ts l id g p =>
  simp only[TV.iF]at e;obtain⟨hv,e⟩:=QX e;simp only[Option.some.injEq]at e;subst e;exact⟨rfl,_,_,rfl,by simp only[TV.aO,AV.d,qU hv,enc,if_true]⟩
 | _=>simp[TV.iF]at e
theorem Fx{h:Nat->az}:∀ {xs ys:List TV},TV.kF h xs=some ys->∃ ds,AV.ds (λi=>(h i).aA) (xs.map TV.aO)=some ds/\ys.map TV.aO=ds.map AV.c
 | [],ys,e=>by simp only[TV.kF,Option.some.injEq]at e;subst e;exact⟨[],rfl,rfl⟩
 | x::xs,ys,e=>by
  simp only[TV.kF]at e
  split at e
  rotate_left
  ·cases e
  rename_i a b ha hb;simp only[Option.some.injEq]at e;subst e;obtain⟨_,t,d,rfl,h2⟩:=RB ha;obtain⟨ds,h3,h4⟩:=Fx hb;exact⟨enc t d::ds,by simp only[List.map_cons,AV.ds,h2,h3],by simp only[List.map_cons,h4,TV.aO]⟩
theorem RC{h:Nat->az}{x y:TV}(e:nq h x=some y):x.aA.arg (λi=>(h i).aA)=some y.aA:=by
 unfold nq at e
 split at e
 ·rename_i cs
  split at e
  rotate_left
  ·cases e
  rename_i ds cp;simp only[Option.some.injEq]at e;subst e;obtain⟨d,h1,h2⟩:=Fx cp;simp only[TV.aA,TV.cl,AV.arg,h1,h2]
 ·rename_i id
  split at e
  rotate_left
  ·cases e
  rename_i cs hh
  split at e
  rotate_left
  ·cases e
  rename_i hr
  split at e
  rotate_left
  ·cases e
  rename_i ds cp;simp only[Option.some.injEq]at e;subst e;obtain⟨d,h1,h2⟩:=Fx cp;show(match(h id).aA with
   | .box cs=>if AV.bM cs=[] then(match AV.ds (λi=>(h i).aA) cs with
    | some ds=>some (AV.bx (ds.map .c))
    | none=>none) else none
   | _=>none)=some (TV.aA (.bx ds))
  rw[hh];show(if AV.bM (cs.map TV.aO)=[] then(match AV.ds (λi=>(h i).aA) (cs.map TV.aO) with
    | some ds=>some (AV.bx (ds.map .c))
    | none=>none) else none)=some (TV.aA (.bx ds))
  rw[if_pos (by rw[Fv,hr]),h1];simp only[TV.aA,h2]
 ·obtain⟨h1,t,d,rfl,h2⟩:=RB e;rw[qT h1]
  cases x with
  | c t' x=>simp only[TV.aO,AV.d,Option.some.injEq]at h2;simp only[TV.aO,AV.arg,TV.aA,TV.cl,h2]
  | n ts=>simp only[TV.aO,AV.d,Option.some.injEq]at h2;simp only[TV.aO,AV.arg,TV.aA,TV.cl,h2]
  | r ts id off len=>simp only[TV.aO]at h2;simp only[TV.aO,AV.arg,TV.aA,TV.cl,h2]
  | bs ts l id g p=>simp only[TV.aO]at h2;simp only[TV.aO,AV.arg,TV.aA,TV.cl,h2]
  | _=>simp[TV.iF]at e
theorem RD{h:Nat->az}:∀ {xs ys:List TV},wz h xs=some ys->AV.g8 (λi=>(h i).aA) (xs.map TV.aA)=some (ys.map TV.aA)
 | [],ys,e=>by simp only[wz,Option.some.injEq]at e;subst e;rfl
 | x::xs,ys,e=>by
  simp only[wz]at e
  split at e
  rotate_left
  ·cases e
  rename_i a b ha hb;simp only[Option.some.injEq]at e;subst e;simp only[List.map_cons,AV.g8,RC ha,RD hb]
theorem RE(b:az):(Fl b).aA=jw b.aA:=by cases b <;> rfl
def dL(p:Nat × az):Nat × aQ:=(p.1,p.2.aA)
theorem zT(h:Nat->az):∀(ids:List Nat),(kG h ids).map dL=eU (λi=>(h i).aA) ids
 | []=>rfl
 | id::ids=>by simp only[kG,eU,List.map_cons,dL,RE,zT h ids]
theorem wH(b:az):b.aA.alive=b.alive:=by cases b <;> rfl
theorem wI{l m:List TV}{j n:Nat}(e:iG l j n=some m):cut (l.map TV.aO) j n=some (m.map TV.aO):=by
 unfold iG at e;obtain⟨q,e⟩:=QX e;simp only[Option.some.injEq]at e;subst e;have q:=Nat.le_of_ble_eq_true q;unfold cut;rw[if_pos (by simpa using q)];simp[List.map_take,List.map_drop]
theorem wJ{agg:Bool}{cs:List TV}{v:TV}(e:qO agg cs=some v):JO agg (cs.map TV.aO)=some v.aA:=by
 unfold qO at e;unfold JO
 cases agg with
 | true=>simp only[if_true,Option.some.injEq]at e ⊢;subst e;rfl
 | false =>
  simp only[Bool.false_eq_true,if_false]at e ⊢
  split at e
  ·rename_i x;obtain⟨q,e⟩:=QX e;simp only[Option.some.injEq]at e;subst e;simp only[List.map_cons,List.map_nil,qT q]
  ·cases e
theorem Fy:∀ {xs:List TV} {l:List Int},tC xs=some l->om (xs.map TV.aO)=some l
 | [],l,e=>by simp only[tC,Option.some.injEq]at e;subst e;rfl
 | x::xs,l,e=>by
  unfold tC at e
  split at e
  ·rename_i h;cases h
  ·rename_i n r h
   cases h
   split at e
   rotate_left
   ·cases e
   rename_i l' h';simp only[Option.some.injEq]at e;subst e;simp only[List.map_cons,TV.aO,enc,om,Fy h']
  ·cases e
theorem QHu{x:TV}{n:Int}(e:Fm x=some n):sZ x.aA=some n:=by
 unfold Fm at e
 split at e
 ·cases e;rfl
 ·cases e
theorem zU{T:Nat->TV}{m:Int}{o:Option bD}{n:Int}(e:qP T m o=some n):Yk (aW.ev λs=>(T s).aA) m (oL o)=some n:=by
 cases o with
 | none=>simpa[qP,Yk,oL]using e
 | some l=>simp only[qP]at e;simp only[Yk,oL,Zv];exact QHu e
theorem FA(b:Nat)(x:TV):(x.mf b).aO=x.aO.mf b:=by cases x <;> rfl
theorem QXB(b:Nat)(x:TV):(x.kZ b).cl=x.cl.kZ b:=by
 cases x with
 | a cs=>simp only[TV.kZ,TV.cl,AV.kZ,List.map_map];congr 2;funext y;exact FA b y
 | _=>rfl
theorem FB(b:Nat):∀(x:TV),(x.sh b).aA=x.aA.sh b
 | .tp vs=>by simp only[TV.sh,TV.aA,AV.sh,List.map_map];congr 2;funext y;exact QXB b y
 | .a cs=>by simp only[TV.sh,TV.kZ,TV.aA,TV.cl,AV.sh,AV.kZ,List.map_map];congr 2;funext y;exact FA b y
 | .g true v=>FB b v
 | .g false v=>rfl
 | .u=>rfl
 | .c _ _=>rfl
 | .n _=>rfl
 | .r ..=>rfl
 | .p ..=>rfl
 | .q ..=>rfl
 | .bx _=>rfl
 | .ow ..=>rfl
 | .bs ..=>rfl
 | .bq ..=>rfl
theorem QOI(b:Nat)(x:az):(x.sh b).aA=x.aA.sh b:=by
 cases x with
 | box cs=>simp only[az.sh,az.aA,aQ.sh,List.map_map];congr 2;funext y;exact FA b y
 | _=>rfl
def aB.aA(r:aB):ik:=⟨r.v.aA,r.hb.map az.aA,r.bx.map (·.map TV.aO),r.al,r.gv.map az.aA⟩
theorem RF(b:Nat):∀(l:List az)(k:Nat),(zP k (l.map (az.sh b))).map dL=YM k ((l.map az.aA).map (aQ.sh b))
 | [],_=>rfl
 | x::xs,k=>by simp only[List.map_cons,zP,YM,dL,QOI,RF b xs (k+1)]
theorem RG:∀(ids:List Nat)(cD:List (List TV)),(zQ ids cD).map dL=YO ids (cD.map (·.map TV.aO))
 | [],[]=>rfl
 | [],_::_=>rfl
 | _::_,[]=>rfl
 | id::ids,cs::cD=>by simp only[zQ,YO,List.map_cons,dL,az.aA,RG ids cD]
theorem QNI(B0 B:az):(Rx B0 B).aA=JH B0.aA B.aA:=by
 cases B0 with
 | sl e ts m es =>
  cases m with
  | dp g t H =>
   cases B with
   | sl e1 tE m1 eP =>
    cases m1 with
    | dp g1 t1 H1 =>
     cases H1 with
     | nil=>rfl
     | cons=>rfl
    | _=>rfl
   | _=>rfl
  | _=>rfl
 | _=>rfl
theorem RH(h:Nat->az):∀(ids:List Nat)(cD:List az),(zN h ids cD).map dL=Yt (λi=>(h i).aA) ids (cD.map az.aA)
 | [],[]=>rfl
 | [],_::_=>rfl
 | _::_,[]=>rfl
 | id::ids,cs::cD=>by simp only[zN,Yt,List.map_cons,dL,RH h ids cD,QNI]
theorem nr{p q:Option Prop}(h:holds (gP p q)):holds p/\holds q:=by
 cases p <;> cases q <;> simp_all [gP,holds]
theorem QTU{h:Nat->az}{x y:TV}{p:Option Prop}(e:Fo h x=some (p,y))(hp:holds p):x.aA.g9 (λi=>(h i).aA)=some y.aA:=by
 unfold Fo at e
 split at e
 ·rename_i ts id len
  split at e
  ·rename_i e0 b5 es hh;have q:CT.di b5 ts=true:=by
    cases hq:CT.di b5 ts with
    | true=>rfl
    | false=>rw[hq]at e;cases e
   rw[q]at e
   cases e;obtain rfl:=CT.bS _ _ q;have hp:len=es.length:=hp;subst hp;show(AV.r b5.length id 0 es.length).g9 (λi=>(h i).aA)=some (AV.ow e0 b5.length .ow (es.map (aV b5)));have ca:(λi=>(h i).aA) id = .sl e0 b5.length .ow (es.map (aV b5)):=by show(h id).aA=_;rw[hh];rfl
   have key:∀(H:Nat->aQ)(e:TypeId)(es:List (List D))(n:Nat),H id = .sl e n .ow es->(AV.r n id 0 es.length).g9 H=some (.ow e n .ow es):=by
    intro H e es n hH;simp[AV.g9,hH]
   have:=key (λi=>(h i).aA) e0 (es.map (aV b5)) b5.length ca;rw[List.length_map]at this;exact this
  ·cases e
 ·cases e
theorem wK{t:CT}{x:t.den}(h:t.flat=true):∃ v,enc t x = .v v:=by
 cases t with
 | sl ts=>simp[CT.flat]at h
 | _=>exact⟨_,rfl⟩
theorem RI{h:Nat->az}{x y:TV}{p:Option Prop}(e:zK h x=some (p,y))(hp:holds p):x.aO.dO (λi=>(h i).aA)=some y.aO/\x.aA=x.aO/\y.aA=y.aO:=by
 unfold zK at e
 split at e
 ·rename_i t v;obtain⟨hf,e⟩:=QX e
  cases e;obtain⟨v',iz⟩:=wK (x:=v) hf;refine⟨?_,rfl,rfl⟩;simp only[TV.aO,iz,AV.dO]
 ·rename_i ts id len
  split at e
  ·rename_i e0 b5 g t es hh;have q:CT.di b5 ts=true:=by
    cases hq:CT.di b5 ts with
    | true=>rfl
    | false=>rw[hq]at e;cases e
   rw[q]at e
   cases e;obtain rfl:=CT.bS _ _ q;have hp:len=es.length:=hp;subst hp;refine⟨?_,rfl,rfl⟩;show(AV.r b5.length id 0 es.length).dO (λi=>(h i).aA)=some (AV.ow 0 b5.length dw (es.map (aV b5)));have ca:(λi=>(h i).aA) id = .sl e0 b5.length (.dp g t []) (es.map (aV b5)):=by show(h id).aA=_;rw[hh];rfl
   have key:∀(H:Nat->aQ)(e:TypeId)(es:List (List D))(n:Nat),H id = .sl e n (.dp g t []) es->(AV.r n id 0 es.length).dO H=some (.ow 0 n dw es):=by
    intro H e es n hH;simp[AV.dO,hH]
   have:=key (λi=>(h i).aA) e0 (es.map (aV b5)) b5.length ca;rw[List.length_map]at this;exact this
  ·cases e
 ·cases e
theorem RJ{h:Nat->az}:∀ {xs ys:List TV} {p:Option Prop},wA h xs=some (p,ys)->holds p->AV.fq (λi=>(h i).aA) (xs.map TV.aO)=some (ys.map TV.aO)
 | [],ys,p,e,hp=>by simp only[wA,Option.some.injEq,Prod.mk.injEq]at e;obtain⟨rfl,rfl⟩:=e;rfl
 | x::xs,ys,p,e,hp=>by
  simp only[wA]at e
  split at e
  ·rename_i p1 d q ds h1 h2;simp only[Option.some.injEq,Prod.mk.injEq]at e;obtain⟨rfl,rfl⟩:=e;obtain⟨eT,fh⟩:=nr hp;simp only[List.map_cons,AV.fq,(RI h1 eT).1,RJ h2 fh]
  ·cases e
theorem QRr{h:Nat->az}{x y:TV}{p:Option Prop}(e:zL h x=some (p,y))(hp:holds p):x.aA.ir (λi=>(h i).aA)=some y.aA:=by
 unfold zL at e
 split at e
 ·rename_i cs
  split at e
  ·rename_i p' ds h1
   cases e;simp only[TV.aA,TV.cl,AV.ir,RJ h1 hp]
  ·cases e
 ·obtain⟨h1,h2,h3⟩:=RI e hp;rw[h3];exact h1
 ·cases e
theorem QIW{h:Nat->az}{m:AM}{x y:TV}{p:Option Prop}(e:zM h m x=some (p,y))(hp:holds p):x.aA.fV (λi=>(h i).aA) m=some y.aA:=by
 cases m with
 | d =>
  simp only[zM]at e
  split at e
  ·rename_i d h1;cases e;exact RC h1
  ·cases e
 | o=>exact QTU e hp
 | p=>exact QRr e hp
theorem RK{h:Nat->az}:∀ {ms:List AM} {xs ys:List TV} {p:Option Prop},oN h ms xs=some (p,ys)->holds p->AV.dU (λi=>(h i).aA) ms (xs.map TV.aA)=some (ys.map TV.aA)
 | [],xs,ys,p,e,hp=>by
  simp only[oN]at e
  split at e
  ·rename_i ds cp;simp only[Option.some.injEq,Prod.mk.injEq]at e;obtain⟨rfl,rfl⟩:=e;exact RD cp
  ·cases e
 | m::ms,[],ys,p,e,hp=>by
  simp only[oN,Option.some.injEq,Prod.mk.injEq]at e;obtain⟨rfl,rfl⟩:=e;rfl
 | m::ms,x::xs,ys,p,e,hp=>by
  simp only[oN]at e
  split at e
  ·rename_i p1 d q ds h1 h2;simp only[Option.some.injEq,Prod.mk.injEq]at e;obtain⟨rfl,rfl⟩:=e;obtain⟨eT,fh⟩:=nr hp;simp only[List.map_cons,AV.dU,QIW h1 eT,RK h2 fh]
  ·cases e
theorem RN:∀(ms:List AM)(xs:List TV),cJ ms (xs.map TV.aA)=(qQ ms xs).map TV.aA
 | [],_=>rfl
 | _::_,[]=>rfl
 | m::ms,x::xs=>by cases m <;> simp only[List.map_cons,cJ,qQ,AM.h,Bool.false_eq_true,if_true,if_false,cond_true,cond_false,RN ms xs]
theorem RO:∀(ms:List AM)(xs:List TV),cm ms (xs.map TV.aA)=(oO ms xs).map TV.aA
 | [],_=>rfl
 | _::_,[]=>rfl
 | m::ms,x::xs=>by cases m <;> simp only[List.map_cons,cm,oO,AM.h,Bool.false_eq_true,if_true,if_false,cond_true,cond_false,RO ms xs]
theorem QJH(xs:List TV):(xs.map TV.aA).flatMap AV.refs=xs.flatMap TV.refs:=by
 rw[List.flatMap_map];congr 1;funext x;exact zS
theorem QUl(xs:List TV):(xs.map TV.aA).flatMap AV.b9=xs.flatMap TV.b9:=by
 rw[List.flatMap_map];congr 1;funext x;exact Rz
theorem RP:∀ {xs ys:List Nat},zO xs ys=true->∀ id,id∈xs->id∉ys
 | [],_,_,id,hm=>by simp at hm
 | x::xs,ys,h,id,hm=>by
  simp only[zO,Bool.and_eq_true]at h
  rcases List.mem_cons.1 hm with rfl | hm
  ·intro hy;have:=List.all_eq_true.1 h.1 id hy;rw[Nat.beq_refl]at this;simp at this
  ·exact RP h.2 id hm
theorem wL:∀ {l:List Nat},oP l=true->l.Nodup
 | [],_=>List.nodup_nil
 | x::xs,h=>by
  simp only[oP,Bool.and_eq_true,Bool.not_eq_true']at h;exact List.nodup_cons.2 ⟨by simpa using h.1,wL h.2⟩
theorem RQ{T:Nat->TV}:∀ {ps:List (Nat × Nat × bD)} {zs cs:List TV},wB T zs ps=some cs->JZ (aW.ev λs=>(T s).aA) (zs.map TV.aO) (ps.map Fk)=some (cs.map TV.aO)
 | [],zs,cs,e=>by simp only[wB,Option.some.injEq]at e;subst e;rfl
 | (off,n,x)::r,zs,cs,e=>by
  simp only[wB]at e;obtain⟨q,e⟩:=QX e;simp only[Bool.and_eq_true]at q;obtain⟨⟨q1,q2⟩,q3⟩:=q;have q1:=Nat.eq_of_beq_eq_true q1;have q2:=Nat.le_of_ble_eq_true q2;have:=RQ e;simp only[List.map_cons,Fk,JZ,Zv,wD q3,List.length_map,Fu q3,q1,q2,and_self,if_true];rw[wG]at this;exact this
theorem wM{h:Nat->az}{ts:List CT}{a:aR ts}(x:TV)(hx:x.st=false):¬ aR.of h ts x.cells=some a:=by
 intro e;have hc:x.cells=[x]:=by cases x <;> first | rfl | simp[TV.st,TV.one]at hx
 rw[hc]at e
 cases ts with
 | nil=>cases(show(none:Option (aR []))=some a from e)
 | cons t ts =>
  have:x.eE h t=none:=by cases x <;> first | rfl | simp[TV.st,TV.one]at hx
  have e:(match x.eE h t,aR.of h ts []with | some a,some b=>some (lR ts a b) | _,_=>none)=some a:=e;rw[this]at e
  cases e
theorem RR{h:Nat->az}{T:Nat->TV}{ts:List CT}:∀ {ps:List bD} {es:List (aR ts)},wC h T ts ps=some es->
  elems (λi=>(h i).aA) (aW.ev λs=>(T s).aA) ts.length (ps.map bD.er)=some (es.map (aV ts))
 | [],es,e=>by simp only[wC,Option.some.injEq]at e;subst e;rfl
 | x::r,es,e=>by
  simp only[wC]at e
  split at e
  rotate_left
  ·cases e
  rename_i a b ha hb;simp only[Option.some.injEq]at e;subst e;obtain⟨h1,h2⟩:=tD ts _ _ ha;have iO:(x.ev T).st=true:=by
   cases hx:x.ev T with
   | u=>rw[hx]at ha;exact absurd ha (wM _ rfl)
   | tp vs=>rw[hx]at ha;exact absurd ha (wM _ rfl)
   | bx vs=>rw[hx]at ha;exact absurd ha (wM _ rfl)
   | ow e us m vs=>rw[hx]at ha;exact absurd ha (wM _ rfl)
   | g c vs=>rw[hx]at ha;exact absurd ha (wM _ rfl)
   | _=>rfl
  simp only[List.map_cons,elems,Zv,wD iO,h1,RR hb,qV,if_true]
theorem QGS{T:Nat->TV}(ps:List bD):((ps.map bD.er).flatMap λx=>(aW.ev (λs=>(T s).aA) x).refs)=ps.flatMap λx=>(x.ev T).refs:=by
 induction ps with
 | nil=>rfl
 | cons x ps ih=>simp only[List.map_cons,List.flatMap_cons,ih,Zv,zS]
theorem QE8{T:Nat->TV}(ps:List bD):(ps.map bD.er).map (aW.ev λs=>(T s).aA)=(ps.map λx=>x.ev T).map TV.aA:=by
 simp only[List.map_map];congr 1
 funext x
 exact Zv T x
theorem QUY{op:BinOp}{x y:TV}{e:TE}(he:qR op x y=some e)(hp:holds e.pre):∃ a b v,x.aA = .c (.v a)/\y.aA = .c (.v b)/\mL op a b=some v/\e.val.aA = .c (.v v)/\e.fU=[]:=by
 unfold qR at he
 split at he
 ·rename_i k x k' y;refine⟨.int k x,.int k' y,?_⟩
  cases op <;> simp only at he <;> first
   | (cases he;simp only[holds]at hp;exact⟨_,rfl,rfl,by simp only[mL];rw[if_neg (by omega)],rfl,rfl⟩)
   | (split at he <;> first
    | (cases he;done)
    | (rename_i hk;subst hk;first
     | (cases he;simp only[holds]at hp;exact⟨_,rfl,rfl,by simp only[mL,if_true];rw[if_neg hp],rfl,rfl⟩)
     | (cases he;exact⟨_,rfl,rfl,by simp only[mL,if_true],rfl,rfl⟩)
     | cases he))
 ·rename_i x y;refine⟨.string x,.string y,?_⟩
  cases op <;> simp only at he <;> first
   | (cases he;exact⟨_,rfl,rfl,by simp only[mL],rfl,rfl⟩)
   | cases he
 ·cases he
theorem wN:∀(ids:List Nat),(jL ids).map dL=iS ids
 | []=>rfl
 | id::ids=>by simp only[jL,iS,List.map_cons,dL,wN ids];rfl
theorem QIP{h:Nat->az}{id g i j:Nat}{x:TV}{p:Option Prop}(e:x.eH h id g i j=some p)(hp:holds p):x.aO.eH (λi=>(h i).aA) id g i j=true:=by
 unfold TV.eH at e
 split at e
 ·rename_i t v;obtain⟨hf,_⟩:=QX e;obtain⟨v',iz⟩:=wK (x:=v) hf;simp only[TV.aO,iz,AV.eH]
 ·rfl
 ·rename_i ts b8 off len;obtain⟨hf,_⟩:=QX e;simp only[TV.aO,AV.eH,QN6];exact hf
 ·rename_i ts l b8 g' pt
  split at e
  ·rename_i i' j';obtain⟨hf,e⟩:=QX e
   cases e;simp only[Bool.and_eq_true]at hf;have hj:=Nat.eq_of_beq_eq_true hf.2;have hi:i'=i:=hp;subst hj;subst hi;simp only[TV.aO,AV.eH,hf.1.1,hf.1.2,Bool.and_self,Bool.true_and,decide_eq_true_eq]
  ·cases e
 ·cases e
theorem FC{h:Nat->az}{id g i:Nat}:∀ {xs:List TV} {j:Nat} {p:Option Prop},TV.dz h id g i j xs=some p->holds p->AV.dz (λi=>(h i).aA) id g i j (xs.map TV.aO)=true
 | [],j,p,e,hp=>rfl
 | x::xs,j,p,e,hp=>by
  simp only[TV.dz]at e
  split at e
  ·rename_i P Q h1 h2
   cases e;obtain⟨eT,fh⟩:=nr hp;simp only[List.map_cons,AV.dz,QIP h1 eT,FC h2 fh,Bool.and_self]
  ·cases e
theorem QNi{h:Nat->az}{id g i j:Nat}{x:TV}{p:Option Prop}(e:TV.dz h id g i j x.cells=some p):x.st=true:=by
 cases x with
 | u=>simp[TV.cells,TV.dz,TV.eH]at e
 | tp vs=>simp[TV.cells,TV.dz,TV.eH]at e
 | bx vs=>simp[TV.cells,TV.dz,TV.eH]at e
 | ow a b c d=>simp[TV.cells,TV.dz,TV.eH]at e
 | g b v=>simp[TV.cells,TV.dz,TV.eH]at e
 | _=>rfl
theorem RS{h:Nat->az}{b:Nat}{T:Nat->TV}:∀ {ps:List bD} {i:Nat} {p:Option Prop},zR h b T i ps=some p->holds p->gG (λi=>(h i).aA) b (aW.ev λs=>(T s).aA) i (ps.map bD.er)=true
 | [],i,p,e,hp=>rfl
 | x::r,i,p,e,hp=>by
  simp only[zR]at e
  split at e
  ·rename_i P Q h1 h2
   cases e;obtain⟨eT,fh⟩:=nr hp;have iO:=QNi h1;simp only[List.map_cons,gG,Zv,wD iO,FC h1 eT,RS h2 fh,Bool.and_self]
  ·cases e
theorem QMg{T:Nat->TV}(ps:List bD):((ps.map bD.er).flatMap λx=>(aW.ev (λs=>(T s).aA) x).dc)=ps.flatMap λx=>(x.ev T).dc:=by
 induction ps with
 | nil=>rfl
 | cons x ps ih=>simp only[List.map_cons,List.flatMap_cons,ih,Zv,Fw]
theorem RT:∀(ts:List CT)(x:aR ts),ts.all CT.flat=true->(aV ts x).all D.pl=true
 | [],x,_=>by rw[aV];rfl
 | t::ts,x,h=>by
  rw[List.all_cons,Bool.and_eq_true]at h;rw[aV,List.all_cons,RT ts _ h.2,Bool.and_true];obtain⟨v,hv⟩:=wK (x:=hd ts x) h.1;rw[hv];rfl
theorem ns{ts:List CT}{xs:List (aR ts)}(h:ts.all CT.flat=true):mK (xs.map (aV ts))=true:=by
 unfold mK;rw[List.all_map,List.all_eq_true];intro x _;exact RT ts x h
theorem wO{b:az}:b.kH=true↔∃ e sz g t H es,b.aA = .sl e sz (.dp g t H) es:=by
 cases b with
 | sl e ts m es =>
  cases m with
  | dp g t H=>exact⟨λ_=>⟨_,_,_,_,_,_,rfl⟩,λ_=>rfl⟩
  | _=>exact⟨λh=>(by cases h),λ⟨_,_,_,_,_,_,h⟩=>(by cases h)⟩
 | _=>exact⟨λh=>(by cases h),λ⟨_,_,_,_,_,_,h⟩=>(by cases h)⟩
theorem RU{h:Nat->az}{ts:List CT}{xs:List (aR ts)}{x:TV}(hx:x.one=true)(e:x.iT h ts=true):x.aA.iT (λi=>(h i).aA) (xs.map (aV ts))=true:=by
 rw[qT hx]
 cases x with
 | r us id off len =>
  simp only[TV.iT,Bool.or_eq_true,Bool.not_eq_true']at e;simp only[TV.aO,AV.iT]
  split
  ·rename_i hh
   rcases e with e | e
   ·rw[wO.2 ⟨_,_,_,_,_,_,hh⟩]at e;cases e
   ·exact ns e
  ·rfl
 | bs us l id g p=>exact ns e
 | _=>first | rfl | simp[TV.one]at hx
theorem RV{h:Nat->az}{id len:Nat}{ts:List CT}{xs:List (aR ts)}{x:TV}{p:Option Prop}(hx:x.one=true)(e:x.dI h id len ts=some p)(hp:holds p):x.aA.dI (λi=>(h i).aA) id len (xs.map (aV ts))=true:=by
 rw[qT hx]
 cases x with
 | r us idx off l =>
  simp only[TV.dI]at e
  cases hd:(h idx).kH with
  | true =>
   rw[hd]at e;obtain⟨_,_,_,_,_,_,hh⟩:=wO.1 hd;simp only[TV.aO,AV.dI,hh]
   cases hb:Nat.beq idx id with
   | false=>simp
   | true =>
    simp only[cond_true,hb]at e
    cases e;have hp:len<=off:=hp;simp[Nat.ble_eq_true_of_le hp]
  | false =>
   rw[hd]at e;simp only[cond_false]at e;obtain⟨hf,_⟩:=QX e;simp only[TV.aO,AV.dI]
   split
   ·rename_i hh;rw[wO.2 ⟨_,_,_,_,_,_,hh⟩]at hd;cases hd
   ·exact ns hf
 | bs us l b8 g p =>
  simp only[TV.dI]at e;exact ns (QX e).1
 | c t v =>
  simp only[TV.dI]at e;exact ns (QX e).1
 | n us =>
  simp only[TV.dI]at e;exact ns (QX e).1
 | p a b c =>
  simp only[TV.dI]at e;exact ns (QX e).1
 | q a b c =>
  simp only[TV.dI]at e;exact ns (QX e).1
 | bq a b c d f g i =>
  simp only[TV.dI]at e;exact ns (QX e).1
 | _=>simp[TV.one]at hx
theorem QLO{h:Nat->az}{x:TV}(hx:x.one=true):x.aA.de (λi=>(h i).aA)=x.de h:=by
 rw[qT hx]
 cases x with
 | r us idx off l =>
  simp only[TV.aO,AV.de,TV.de]
  cases hd:(h idx).kH with
  | true =>
   obtain⟨_,_,_,_,_,_,hh⟩:=wO.1 hd;rw[hh];rfl
  | false =>
   split
   ·rename_i hh;rw[wO.2 ⟨_,_,_,_,_,_,hh⟩]at hd;cases hd
   ·rfl
 | _=>first | rfl | simp[TV.one]at hx
theorem RW{id g i:Nat}:∀(ts:List CT)(x:aR ts)(j:Nat),(aR.cj id g i j ts x).map TV.aO=cj id g i j (aV ts x)
 | [],x,j=>by rw[aV,aR.cj];rfl
 | t::ts,x,j=>by
  cases t <;> (rw[aV];simp only[aR.cj,enc,cj,List.map_cons,RW ts,TV.aO])
theorem RX{id g i:Nat}{p:cE}:∀(ts:List CT)(x:aR ts)(j:Nat),(aR.bQ id g p i j ts x).map TV.aO=bQ id g p i j (aV ts x)
 | [],x,j=>by rw[aV,aR.bQ];rfl
 | t::ts,x,j=>by
  cases t <;> (rw[aV];simp only[aR.bQ,enc,bQ,List.map_cons,RX ts,TV.aO])
theorem QLD{m:Mo}{id i:Nat}(ts:List CT)(x:aR ts):(aR.da m id i ts x).map TV.aO=da m id i 0 (aV ts x):=by
 cases m with
 | dp g t H=>exact RW ts x 0
 | _=>exact oQ ts x
theorem RY{id g i:Nat}:∀(n j:Nat)(l:List D),(cj id g i j l).drop n=cj id g i (j+n) (l.drop n)
 | 0,j,l=>rfl
 | n+1,j,[]=>by simp[cj]
 | n+1,j,d::l=>by simp only[cj,List.drop_succ_cons];rw[RY n (j+1) l];congr 1;omega
theorem RZ{id g i:Nat}:∀(n j:Nat)(l:List D),(cj id g i j l).take n=cj id g i j (l.take n)
 | 0,j,l=>by simp[cj]
 | n+1,j,[]=>by simp[cj]
 | n+1,j,d::l=>by simp only[cj,List.take_succ_cons];rw[RZ n (j+1) l]
theorem R0{id g i:Nat}{p:cE}:∀(n j:Nat)(l:List D),(bQ id g p i j l).drop n=bQ id g p i (j+n) (l.drop n)
 | 0,j,l=>rfl
 | n+1,j,[]=>by simp[bQ]
 | n+1,j,d::l=>by simp only[bQ,List.drop_succ_cons];rw[R0 n (j+1) l];congr 1;omega
theorem R1{id g i:Nat}{p:cE}:∀(n j:Nat)(l:List D),(bQ id g p i j l).take n=bQ id g p i j (l.take n)
 | 0,j,l=>by simp[bQ]
 | n+1,j,[]=>by simp[bQ]
 | n+1,j,d::l=>by simp only[bQ,List.take_succ_cons];rw[R1 n (j+1) l]
theorem QKS{m:Mo}{id i j n:Nat}{l:List D}{c:List AV}(h:cut (da m id i 0 l) j n=some c):∃ l',cut l j n=some l'/\c=da m id i j l':=by
 unfold cut at h
 split at h
 rotate_left
 ·cases h
 rename_i hle
 cases h;rw[OK]at hle;refine⟨_,if_pos hle,?_⟩
 cases m with
 | dp g t H=>simp only[da];rw[RY,RZ,Nat.zero_add]
 | _=>simp only[da,List.map_take,List.map_drop]
theorem QSd{id g i j n:Nat}{p:cE}{l:List D}{c:List AV}(h:cut (bQ id g p i 0 l) j n=some c):∃ l',cut l j n=some l'/\c=bQ id g p i j l':=by
 unfold cut at h
 split at h
 rotate_left
 ·cases h
 rename_i hle
 cases h;rw[DV]at hle;exact⟨_,if_pos hle,by rw[R0,R1,Nat.zero_add]⟩
end Go.Proofs.YtdplaepmjogjjaaGreat.Am
namespace Go.Proofs.YtdplaepmjogjjaaGreat.Am
open Go Go.RowKit
structure iH(Γ:aF)(ΓA:eA):Prop where
 md:∀ f row,Jm Γ.rows f=some row->ΓA.md f=gu row.sg
 fn:∀ f row vs pre r,Jm Γ.rows f=some row->ZU row.sg vs=true->row.fn vs=some (pre,r)->holds pre->ΓA f (vs.map TV.aA)=some r.aA
 dp:ΓA.dp=Γ.dp
theorem tF{ts:List CT}{l:List (aR ts)}{i:Nat}(h:i<l.length):l[i]? = some (gt ts l i):=by
 unfold gt;rw[List.getElem?_eq_getElem h,List.getD_eq_getElem?_getD,List.getElem?_eq_getElem h];rfl
theorem R2{x:TV}(h:x.st=true):x.cl=x.aA:=by cases x <;> first | rfl | simp[TV.st,TV.one]at h
theorem FD{h:Nat->aQ}:∀(xs ys:List AV)(ds:List D),AV.ds h (xs++ys)=some ds->∃ d1 d2,AV.ds h xs=some d1/\AV.ds h ys=some d2/\ds=d1++d2
 | [],ys,ds,e=>⟨[],ds,rfl,e,rfl⟩
 | x::xs,ys,ds,e=>by
  simp only[List.cons_append,AV.ds]at e
  split at e
  rotate_left
  ·cases e
  rename_i a b ha hb;simp only[Option.some.injEq]at e;subst e;obtain⟨d1,d2,h1,h2,h3⟩:=FD xs ys b hb;exact⟨a::d1,d2,by simp only[AV.ds,ha,h1],h2,by rw[h3];rfl⟩
theorem R3{h:Nat->aQ}:∀(ds:List D),AV.ds h (ds.map AV.c)=some ds
 | []=>rfl
 | d::ds=>by simp only[List.map_cons,AV.ds,AV.d,R3 ds]
theorem FE{h:Nat->aQ}{l:List D}{j:Nat}{xs:List AV}{r:List D}(e:AV.ds h (bu (l.map AV.c) j xs)=some r)(_hj:j+xs.length<=l.length) :
  ∃ ds,AV.ds h xs=some ds/\r=bu l j ds:=by
 unfold bu at e;rw[<- List.map_take,<- List.map_drop]at e;obtain⟨d1,d2,h1,h2,rfl⟩:=FD _ _ _ e;obtain⟨d3,d4,h3,h4,rfl⟩:=FD _ _ _ h1;rw[R3]at h2 h3
 cases h2
 cases h3;refine⟨d4,h4,?_⟩;unfold bu;rw[(AV.dX h4).1]
section
variable {Γ:aF} {ΓA:eA} (hΓ:iH Γ ΓA) {T:Nat->TV} {h:Nat->az} {b:Nat}
def TE.aA(e:TE):fj:=⟨e.val.aA,e.fU.map dL⟩
theorem QTS{m:Mo}{id i j n:Nat}{ts:List CT}{x:aR ts}{l:List TV}(h:iG (aR.da m id i ts x) j n=some l):∃ l',cut (aV ts x) j n=some l'/\l.map TV.aO=da m id i j l':=by
 have h2:=wI h;rw[QLD]at h2;exact QKS h2
theorem QKR{id g i j n:Nat}{p:cE}{ts:List CT}{x:aR ts}{l:List TV}(h:iG (aR.bQ id g p i 0 ts x) j n=some l):∃ l',cut (aV ts x) j n=some l'/\l.map TV.aO=bQ id g p i j l':=by
 have h2:=wI h;rw[RX]at h2;exact QSd h2
theorem R4{x:bD}{n:Nat}{agg:Bool}{e:TE}(he:Zn Γ T h b (.load x n agg)=some e)(hp:holds e.pre):Qv ΓA (aW.ev λs=>(T s).aA) (λi=>(h i).aA) b (d7.er (.load x n agg))=some e.aA:=by
 simp only[Zn]at he;simp only[d7.er,Qv,Zv]
 split at he
 ·rename_i id i j hx;rw[hx];show(match(h id).aA with
   | .box cs=>_
   | .sl _ _ m es=>_
   | _=>_)=_
  split at he
  ·rename_i cs hh;rw[hh]
   split at he
   ·split at he
    ·rename_i l hl
     split at he
     ·rename_i v hv
      cases he;have:=wJ hv;simp only[az.bH,az.eM,if_true,wI hl,this];rfl
     ·cases he
    ·cases he
   ·cases he
  ·rename_i e' ts m es hh;rw[hh];obtain⟨hf,he⟩:=QX he
   split at he
   ·rename_i l hl
    split at he
    ·rename_i v hv
     cases he;simp only[holds]at hp;have h1:=tF hp;have:=wJ hv;obtain⟨l',k1,k2⟩:=QTS hl;rw[k2]at this;simp only[az.bH,az.eM,List.getElem?_map,h1,Option.map_some,k1,this,hf,if_true];rfl
    ·cases he
   ·cases he
  ·cases he
 ·rename_i ts x' j id g p i hx;rw[hx];obtain⟨FF,he⟩:=QX he
  split at he
  ·rename_i l hl
   split at he
   ·rename_i v hv
    cases he;have:=wJ hv;obtain⟨l',k1,k2⟩:=QKR hl;rw[k2]at this;simp only[TV.aA,TV.cl,TV.aO,qU FF,if_true,k1,this];rfl
   ·cases he
  ·cases he
 ·rename_i ts x' j hx;rw[hx]
  split at he
  ·rename_i l hl
   split at he
   ·rename_i v hv
    cases he;have:=wJ hv;have h2:=wI hl;rw[oQ]at h2;unfold cut at h2
    split at h2
    rotate_left
    ·cases h2
    rename_i hle;simp only[Option.some.injEq]at h2;simp only[List.length_map]at hle;simp only[TV.aA,TV.cl,TV.aO,cut,hle,if_true];rw[<- h2]at this;simp only[List.map_drop,List.map_take];rw[this];rfl
   ·cases he
  ·cases he
 ·cases he
theorem QUP{x v:bD}{n:Nat}{e:TE}(he:Zn Γ T h b (.store x v n)=some e)(hp:holds e.pre) :
  Qv ΓA (aW.ev λs=>(T s).aA) (λi=>(h i).aA) b (d7.er (.store x v n))=some e.aA:=by
 simp only[Zn]at he;obtain⟨q,he⟩:=QX he;simp only[Bool.and_eq_true]at q;obtain⟨q1,q2⟩:=q;have q1:=Nat.eq_of_beq_eq_true q1;simp only[d7.er,Qv,Zv,wD q2,List.length_map,q1,Fu q2,and_self,if_true]
 split at he
 rotate_left
 ·cases he
 rename_i id i j hx;rw[hx];show(match(h id).aA with
  | .box cs=>_
  | .sl e sz .ow es=>_
  | .sl e sz (.dp g t []) es=>_
  | _=>_)=_
 split at he
 ·rename_i cs hh;rw[hh]
  split at he
  ·obtain⟨q3,he⟩:=QX he
   cases he;have q3:=Nat.le_of_ble_eq_true q3;simp only[az.bH,az.eM,List.length_map,q3,and_self,if_true,<- wG];rfl
  ·cases he
 ·rename_i e' ts es hh;rw[hh]
  split at he
  rotate_left
  ·cases he
  rename_i y hy;obtain⟨q3,he⟩:=QX he
  cases he;simp only[Bool.and_eq_true,Bool.not_eq_true']at q3;obtain⟨q3,q4⟩:=q3;have q3:=Nat.le_of_ble_eq_true q3;have q4:id∉(v.ev T).refs:=by simpa using q4
  simp only[holds]at hp;have h1:=tF hp;obtain⟨h2,h3⟩:=tD ts _ y hy;rw[wG,oQ]at h2;obtain⟨ds,h5,h6⟩:=FE h2 (by simp[qV,q1,q3]);simp only[az.bH,az.eM,List.getElem?_map,h1,Option.map_some,h5,qV,q3,zS,q4,not_false_eq_true,and_self,if_true];simp only[TE.aA,List.map_cons,dL,zT,az.bH,az.eM,h6,List.map_set];rfl
 ·rename_i e' ts g t es hh;rw[hh]
  split at he
  rotate_left
  ·cases he
  rename_i y hy
  split at he
  rotate_left
  ·cases he
  rename_i q hq;obtain⟨q3,he⟩:=QX he
  cases he;simp only[Bool.and_eq_true]at q3;obtain⟨q3,q4⟩:=q3;have q3:=Nat.le_of_ble_eq_true q3;have q4:=wL q4;obtain⟨eT,fh⟩:=nr hp;simp only[holds]at eT;have h1:=tF eT;obtain⟨h2,h3⟩:=tD ts _ y hy;rw[wG,oQ]at h2;obtain⟨ds,h5,h6⟩:=FE h2 (by simp[qV,q1,q3]);simp only[az.bH,az.eM,List.getElem?_map,h1,Option.map_some,h5,qV,q3,FC hq fh,Fw,q4,and_self,if_true];simp only[TE.aA,List.map_cons,dL,wN,az.bH,az.eM,h6,List.map_set];rfl
 ·cases he
theorem QW5{x i:bD}{ts:List CT}{e:TE}(he:Zn Γ T h b (.jv x i ts)=some e)(hp:holds e.pre) :
  Qv ΓA (aW.ev λs=>(T s).aA) (λi=>(h i).aA) b (d7.er (.jv x i ts))=some e.aA:=by
 simp only[Zn]at he;simp only[d7.er,Qv,Zv]
 split at he
 rotate_left
 ·cases he
 rename_i k n hi;rw[hi]
 split at he
 ·rename_i b5 l hx;obtain⟨q,eI⟩:=QX he;clear he;obtain rfl:=CT.bS _ _ q
  cases eI;simp only[holds]at hp;rw[hx];have h1:=tF (ts:=b5) (l:=l) hp.2;show(if(0:Int)<=n then(if b5.length=b5.length then(match(List.map (aV b5) l)[n.toNat]? with | some e=>some (⟨AV.q e 0,[]⟩:fj) | none=>none) else none) else none)=_;rw[if_pos hp.1,if_pos rfl,List.getElem?_map,h1];rfl
 ·rename_i b5 id off len hx;obtain⟨q,eI⟩:=QX he;clear he;simp only[Bool.and_eq_true]at q;obtain rfl:=CT.bS _ _ q.1
  cases eI;simp only[holds]at hp;rw[hx];show(if(0:Int)<=n then(if b5.length=b5.length/\n.toNat<len/\((h id).aA).alive=true then some (⟨AV.p id (off+n.toNat) 0,[]⟩:fj) else none) else none)=_;rw[if_pos hp.1,wH,if_pos ⟨rfl,hp.2,q.2⟩];rfl
 ·rename_i b5 l id g p hx;obtain⟨q,eI⟩:=QX he;clear he;simp only[Bool.and_eq_true]at q;obtain rfl:=CT.bS _ _ q.1
  cases eI;simp only[holds]at hp;rw[hx];have h1:=tF (ts:=b5) (l:=l) hp.2;show(if(0:Int)<=n then(if b5.length=b5.length/\((h id).aA).dq=some g then(match(List.map (aV b5) l)[n.toNat]? with | some e=>some (⟨AV.bq e 0 id g p n.toNat,[]⟩:fj) | none=>none) else none) else none)=_;rw[if_pos hp.1,if_pos ⟨rfl,qU q.2⟩,List.getElem?_map,h1];rfl
 ·cases he
theorem QG7{x:bD}{lo hi:Option bD}{ts:List CT}{e:TE}(he:Zn Γ T h b (.fx x lo hi ts)=some e)(hp:holds e.pre) :
  Qv ΓA (aW.ev λs=>(T s).aA) (λi=>(h i).aA) b (d7.er (.fx x lo hi ts))=some e.aA:=by
 simp only[Zn]at he;simp only[d7.er,Qv,Zv]
 split at he
 rotate_left
 ·cases he
 rename_i l0 hP;rw[zU hP]
 split at he
 ·rename_i b5 l hx
  split at he
  rotate_left
  ·cases he
  rename_i h0 jA;obtain⟨q,eI⟩:=QX he;clear he;obtain rfl:=CT.bS _ _ q
  cases eI;simp only[holds]at hp;rw[hx];have jA:=zU jA;show(match Yk (aW.ev λs=>(T s).aA) ((List.map (aV b5) l).length:Int) (oL hi) with
   | some hi=>if b5.length=b5.length/\0<=l0/\l0<=hi/\hi<=(List.map (aV b5) l).length then some (⟨AV.c (.sl b5.length (((List.map (aV b5) l).drop l0.toNat).take (hi.toNat-l0.toNat))),[]⟩:fj) else none
   | none=>none)=_
  rw[List.length_map,jA];simp only;rw[if_pos ⟨trivial,hp.1,hp.2.1,hp.2.2⟩,<- List.map_drop,<- List.map_take];rfl
 ·rename_i b5 id off len hx
  split at he
  rotate_left
  ·cases he
  rename_i h0 jA;obtain⟨q,eI⟩:=QX he;clear he;simp only[Bool.and_eq_true]at q;obtain rfl:=CT.bS _ _ q.1
  cases eI;simp only[holds]at hp;rw[hx];have jA:=zU jA;show(match Yk (aW.ev λs=>(T s).aA) (len:Int) (oL hi) with
   | some hi=>if b5.length=b5.length/\0<=l0/\l0<=hi/\hi<=len/\((h id).aA).alive=true then some (⟨AV.r b5.length id (off+l0.toNat) (hi.toNat-l0.toNat),[]⟩:fj) else none
   | none=>none)=_
  rw[jA];simp only;rw[wH,if_pos ⟨trivial,hp.1,hp.2.1,hp.2.2,q.2⟩];rfl
 ·rename_i b5 hx
  split at he
  rotate_left
  ·cases he
  rename_i h0 jA
  cases he;simp only[holds]at hp;rw[hx];have jA:=zU jA;show(match Yk (aW.ev λs=>(T s).aA) 0 (oL hi) with
   | some hi=>if l0=0/\hi=0 then some (⟨AV.n ts.length,[]⟩:fj) else none
   | none=>none)=_
  rw[jA];simp only;rw[if_pos hp];rfl
 ·cases he
include hΓ in
theorem QHI{s x:bD}{e0:TypeId}{ts:List CT}{e:TE}(he:Zn Γ T h b (.app s x e0 ts)=some e)(hp:holds e.pre) :
  Qv ΓA (aW.ev λs=>(T s).aA) (λi=>(h i).aA) b (d7.er (.app s x e0 ts))=some e.aA:=by
 simp only[Zn]at he;simp only[d7.er,Qv,Zv,hΓ.dp]
 split at he
 rotate_left
 ·cases he
 rename_i xs hx;have h3:=QRX (t:=.sl ts) hx;have h1:(x.ev T).aA.fp (λi=>(h i).aA) ts.length=some (xs.map (aV ts)):=by
  have h2:=RA (t:=.sl ts) hx;rw[qT h3]
  cases hv:x.ev T with
  | c t y =>
   rw[hv]at h2;simp only[TV.aO,AV.d,Option.some.injEq]at h2;simp only[TV.aO,AV.fp,h2,enc,if_true]
  | n b5 =>
   rw[hv]at h2;simp only[TV.aO,AV.d,Option.some.injEq,enc,D.sl.injEq]at h2;simp only[TV.aO,AV.fp,<- h2.2]
  | r b5 id off len =>
   rw[hv]at h2 hx;simp only[TV.aO,AV.d]at h2;simp only[TV.aO,AV.fp]
   cases hh:h id with
   | sl e iQ m es =>
    rw[hh]at h2;simp only[az.bH]at h2
    split at h2
    rotate_left
    ·cases h2
    rename_i hf;simp only[Option.some.injEq,enc,D.sl.injEq]at h2;simp only[az.bH,h2.1,h2.2,hf,and_self,if_true]
   | none=>rw[hh]at h2;cases h2
   | dead=>rw[hh]at h2;cases h2
   | box cs=>rw[hh]at h2;cases h2
  | bs b5 l id g p =>
   rw[hv]at h2;simp only[TV.aO,AV.d]at h2
   split at h2
   rotate_left
   ·cases h2
   rename_i hf;simp only[Option.some.injEq,enc,D.sl.injEq]at h2;simp only[TV.aO,AV.fp,h2.1,h2.2,hf,and_self,if_true]
  | _=>rw[hv]at h3;simp[TV.one]at h3 <;> (rw[hv]at hx;simp[TV.eE]at hx)
 rw[h1];simp only;have oR:=QLO (h:=h) h3
 split at he
 ·rename_i b5 hs;rw[hs]
  split at he
  ·rename_i iX
   split at he
   rotate_left
   ·cases he
   rename_i q hq
   cases he;obtain⟨eT,fh⟩:=nr hp;simp only[holds]at eT;show(if(xs.map (aV ts)).length<=cc then(if Γ.dp=true then(if((x.ev T).aA.dI (λi=>(h i).aA) b 0 (xs.map (aV ts)))=true then some (⟨.r ts.length b 0 (xs.map (aV ts)).length,iS ((x.ev T).aA.de (λi=>(h i).aA))++[(b,.sl e0 ts.length (.dp 0 true []) (xs.map (aV ts)))]⟩:fj) else none) else _) else none)=_;rw[List.length_map,if_pos eT,if_pos iX,if_pos (RV h3 hq fh),oR];simp only[TE.aA,List.map_append,wN];rfl
  ·rename_i iX;obtain⟨cI,he⟩:=QX he
   cases he;simp only[holds]at hp;show(if(xs.map (aV ts)).length<=cc then(if Γ.dp=true then _ else if((x.ev T).aA.iT (λi=>(h i).aA) (xs.map (aV ts)))=true then some (⟨.r ts.length b 0 (xs.map (aV ts)).length,[(b,.sl e0 ts.length .ow (xs.map (aV ts)))]⟩:fj) else none) else none)=_;rw[List.length_map,if_pos hp,if_neg (by rw[iX];simp),if_pos (RU h3 cI)];rfl
 ·rename_i b5 id len hs;rw[hs]
  split at he
  ·rename_i e' iQ es hh
   split at he
   rotate_left
   ·cases he
   rename_i q;obtain rfl:=CT.bS _ _ q;obtain⟨q2,he⟩:=QX he;simp only[Bool.and_eq_true]at q2;obtain⟨q2,q3⟩:=q2;have q2:=Nat.eq_of_beq_eq_true q2;subst q2
   cases he;simp only[holds]at hp;show(match(h id).aA with
    | .sl e2 ba .ow es=>if e2=e'/\ba=iQ.length/\(len=es.length\/len+(xs.map (aV iQ)).length<=es.length)/\len+(xs.map (aV iQ)).length<=cc/\((x.ev T).aA.iT (λi=>(h i).aA) (xs.map (aV iQ)))=true then
      some (⟨.r iQ.length b 0 (len+(xs.map (aV iQ)).length),[(id,.dead),(b,.sl e' iQ.length .ow (es.take len++xs.map (aV iQ)))]⟩:fj) else none
    | .sl e2 ba (.dp _ true []) es=>_
    | _=>none)=_
   rw[hh];simp only[az.bH];rw[if_pos ⟨trivial,trivial,by simpa using hp.1,by simpa using hp.2,RU h3 q3⟩,<- List.map_take,<- List.map_append,List.length_map];rfl
  ·rename_i e' iQ g es hh
   split at he
   rotate_left
   ·cases he
   rename_i q;obtain rfl:=CT.bS _ _ q;obtain⟨q2,he⟩:=QX he;have q2:=Nat.eq_of_beq_eq_true q2;subst q2
   split at he
   rotate_left
   ·cases he
   rename_i q3 wP
   cases he;obtain⟨eT,fh⟩:=nr hp;simp only[holds]at eT;show(match(h id).aA with
    | .sl e2 ba .ow es=>_
    | .sl e2 ba (.dp _ true []) es=>if e2=e'/\ba=iQ.length/\(len=es.length\/len+(xs.map (aV iQ)).length<=es.length)/\len+(xs.map (aV iQ)).length<=cc/\((x.ev T).aA.dI (λi=>(h i).aA) id len (xs.map (aV iQ)))=true then
      some (⟨.r iQ.length b 0 (len+(xs.map (aV iQ)).length),(id,aQ.dead)::iS ((x.ev T).aA.de (λi=>(h i).aA))++[(b,aQ.sl e' iQ.length (.dp 0 true []) (es.take len++xs.map (aV iQ)))]⟩:fj) else none
    | _=>none)=_
   rw[hh];simp only[az.bH];rw[if_pos ⟨trivial,trivial,by simpa using eT.1,by simpa using eT.2,RV h3 wP fh⟩,<- List.map_take,<- List.map_append,List.length_map,oR];simp only[TE.aA,List.map_append,List.map_cons,List.map_nil,List.cons_append,wN,dL,az.jd,az.bH,TV.aA,TV.cl,TV.aO,Ft]
  ·cases he
 ·cases he
theorem QKw{x:TV}(h:qS x=true):iu x.aA=true/\x.aA=x.aO:=by
 cases x with
 | c t v =>
  obtain⟨v',iz⟩:=wK (x:=v) h;refine⟨?_,rfl⟩;simp only[TV.aA,TV.cl,TV.aO,iz,iu]
 | _=>simp[qS]at h
theorem QFw{ms:List AM}{xs:List TV}{id g i j:Nat}{r:List TV}(h:Fq ms xs=some (id,g,i,j,r)):pY ms (xs.map TV.aA)=some (id,g,i,j,r.map TV.aA)/\∃ ts l,xs = .bs ts l id g [(i,j)]::r:=by
 unfold Fq at h
 split at h
 rotate_left
 ·cases h
 split at h
 ·rename_i ew
  cases h;refine⟨?_,_,_,rfl⟩;simp only[List.map_cons,TV.aA,TV.cl,TV.aO,pY,ew,if_true]
 ·cases h
theorem QHp{h:Nat->az}{ms:List AM}{xs ys:List TV}{p:Option Prop}(hm:oN h ms xs=some (p,ys)):pY ms (xs.map TV.aA)=none:=by
 cases ms with
 | nil=>rfl
 | cons m ms =>
  cases xs with
  | nil=>cases m <;> rfl
  | cons x xs =>
   cases m with
   | p =>
    simp only[oN,zM]at hm
    split at hm
    rotate_left
    ·cases hm
    rename_i p1 d q ds h1 h2;unfold zL at h1
    split at h1
    ·rfl
    ·rfl
    ·cases h1
   | _=>rfl
theorem QGF{α:Type}{l:List α}{j:Nat}{a:α}(h:j<l.length):bu l j [a]=l.set j a:=by
 have hg:=J4 (l:=l) (xs:=[a]) (j:=j) (by simp;omega);apply List.ext_getElem?;intro k;rw[hg k,List.getElem?_set];by_cases h1:k<j
 ·rw[if_pos h1,if_neg (by omega)]
 ·rw[if_neg h1];by_cases h2:j=k
  ·subst h2;simp[h]
  ·rw[if_neg (by simp;omega),if_neg h2]
include hΓ in
theorem QW8{f:FuncId}{X:List TV}{row:aI}(jM:Jm Γ.rows f=some row){e:TE}(he:Fs Γ h b f X row=some e)(hp:holds e.pre) :
  pY (gu row.sg) (X.map TV.aA)=none/\u9 ΓA (λi=>(h i).aA) b f (X.map TV.aA)=some e.aA:=by
 unfold Fs at he
 split at he
 rotate_left
 ·cases he
 rename_i p0 vs qv;refine⟨QHp qv,?_⟩;obtain⟨q,he⟩:=QX he
 split at he
 rotate_left
 ·cases he
 rename_i pre r hr;obtain⟨q2,he⟩:=QX he
 cases he;obtain⟨gI,hp⟩:=nr hp;simp only[Bool.and_eq_true]at q2;obtain⟨⟨⟨⟨q3,q4⟩,q5⟩,q6⟩,q7⟩:=q2;have q3:=Nat.le_of_ble_eq_true q3;have h0:=hΓ.md f row jM;have h1:=RK qv gI;have h2:=hΓ.fn f row vs pre r jM q hr hp;unfold u9;simp only[h0,RN,RO,QJH,QUl];simp only[h1,h2,aB.aA];have q4':(((r.bx.map (·.map TV.aO)).isEmpty&&(r.gv.map az.aA).isEmpty)||r.al)=true:=by rw[List.isEmpty_map,List.isEmpty_map];exact q4
 rw[if_pos ⟨by rw[List.length_map];exact q3,q4',wL q5,wL q6,RP q7⟩];simp only[TE.aA,List.map_append,FB,RF,RG,RH];congr 3
 split
 ·exact(zT h _).symm
 ·rfl
include hΓ in
theorem QWb{f:FuncId}{id g i j:Nat}{rest:List TV}{e:TE}(he:Fp Γ h b f id g i j rest=some e)(hp:holds e.pre) :
  u7 ΓA (λi=>(h i).aA) b f id g i j (rest.map TV.aA)=some e.aA:=by
 unfold Fp at he
 split at he
 rotate_left
 ·cases he
 rename_i e0 ts g0 t es hh
 split at he
 rotate_left
 ·cases he
 rename_i us l dj
 split at he
 rotate_left
 ·cases he
 rename_i row jM;obtain⟨q,he⟩:=QX he;simp only[Bool.and_eq_true,Bool.not_eq_true']at q;obtain⟨⟨⟨q1,q2⟩,q3⟩,q4⟩:=q;have q2:=Nat.eq_of_beq_eq_true q2;subst q2
 split at he
 rotate_left
 ·cases he
 rename_i pre v al e1 lS g1 t1 eP hr
 split at he
 rotate_left
 ·cases he
 rename_i x' oJ;obtain⟨q5,eI⟩:=QX he;clear he;obtain rfl:=CT.bS _ _ q5
 cases eI;obtain⟨eT,fh⟩:=nr hp;have eT:i<es.length:=eT;have h1:=tF eT;have h2:=hΓ.fn f row _ pre _ jM q1 hr fh;have R5:(aV ts (gt ts es i))[j]? = some (.sl lS.length (l.map (aV lS))):=by
  have:=congrArg (λz=>z[j]?) (oQ ts (gt ts es i));simp only[List.getElem?_map,dj,Option.map_some,TV.aO]at this
  cases hx:(aV ts (gt ts es i))[j]? with
  | none=>rw[hx]at this;cases this
  | some d=>rw[hx]at this;simp only[Option.map_some,Option.some.injEq,AV.c.injEq]at this;rw[<- this];rw[enc]
 have mq:j<(aV ts (gt ts es i)).length:=(List.getElem?_eq_some_iff.1 R5).1;obtain⟨h3,_⟩:=tD ts _ x' oJ;rw[wG,oQ]at h3;obtain⟨ds,h5,h6⟩:=FE h3 (by simp;omega);simp only[List.map_cons,List.map_nil,TV.aO,AV.ds,AV.d,Option.some.injEq]at h5;subst h5;rw[QGF mq]at h6;have bU:(rest.map TV.aA).all iu=true:=by
  rw[List.all_map,List.all_eq_true];intro y hy;exact(QKw (List.all_eq_true.1 q3 y hy)).1
 have hus:0<lS.length:=by
  cases lS with
  | nil=>cases q4
  | cons=>simp
 unfold u7;have hhe:(λi=>(h i).aA) id = .sl e0 ts.length (.dp g0 t []) (es.map (aV ts)):=by show(h id).aA=_;rw[hh];rfl
 simp only[hhe,List.getElem?_map,h1,Option.map_some,R5];have kD:ΓA f (AV.ow 0 lS.length dw (l.map (aV lS))::rest.map TV.aA)=some ⟨v.aA,[],[],al,[.sl e1 lS.length (.dp g1 t1 []) (eP.map (aV lS))]⟩:=h2;simp only[kD,hus,bU,and_self,if_true];simp only[TE.aA,FB,List.map_cons,List.map_nil,dL,az.bH,List.map_set,h6,enc];rfl
include hΓ in
theorem QYP{f:FuncId}{args:List bD}{e:TE}(he:Zn Γ T h b (.call f args)=some e)(hp:holds e.pre) :
  Qv ΓA (aW.ev λs=>(T s).aA) (λi=>(h i).aA) b (d7.er (.call f args))=some e.aA:=by
 simp only[Zn]at he
 split at he
 rotate_left
 ·cases he
 rename_i row jM;have h0:=hΓ.md f row jM;simp only[d7.er,Qv,QE8,h0]
 split at he
 ·rename_i id g i j r hn;obtain⟨k1,_⟩:=QFw hn;rw[k1];exact QWb hΓ he hp
 ·obtain⟨k1,k2⟩:=QW8 hΓ jM he hp;rw[k1];exact k2
include hΓ in
theorem FG{op:d7}{e:TE}(he:Zn Γ T h b op=some e)(hp:holds e.pre):Qv ΓA (aW.ev λs=>(T s).aA) (λi=>(h i).aA) b op.er=some e.aA:=by
 cases op with
 | load x n agg=>exact R4 he hp
 | store x v n=>exact QUP he hp
 | jv x i ts=>exact QW5 he hp
 | fx x lo hi ts=>exact QG7 he hp
 | app s x e ts=>exact QHI hΓ he hp
 | call f args=>exact QYP hΓ he hp
 | eH x=>simp only[Zn]at he;cases he;simp only[d7.er,Qv,Zv];rfl
 | pick c x y =>
  simp only[Zn]at he;simp only[d7.er,Qv,Zv]
  split at he
  ·rename_i cb xb yb hc hx hy
   cases he;rw[hc,hx,hy]
   cases cb <;> rfl
  ·cases he
 | bin op x y =>
  simp only[Zn]at he;simp only[d7.er,Qv,Zv];obtain⟨a,c,v,h1,h2,h3,h4,h5⟩:=QUY he hp;rw[h1,h2];simp only[h3,TE.aA,h4,h5,List.map_nil]
 | gF n g x y =>
  simp only[Zn]at he;simp only[d7.er,Qv,Zv]
  split at he
  rotate_left
  ·cases he
  rename_i xs ys hx hy
  split at he
  rotate_left
  ·cases he
  rename_i l m hl hm;obtain⟨q,he⟩:=QX he
  cases he;simp only[Bool.and_eq_true]at q;rw[hx,hy];simp only[TV.aA,TV.cl,Fy hl,Fy hm];rw[if_pos ⟨Nat.eq_of_beq_eq_true q.1,Nat.eq_of_beq_eq_true q.2⟩]
  cases g <;> rfl
 | ij g x y =>
  simp only[Zn]at he;simp only[d7.er,Qv,Zv]
  split at he
  ·rename_i xb yb hx hy
   cases he;rw[hx,hy]
   cases g <;> rfl
  ·cases he
 | not x =>
  simp only[Zn]at he;simp only[d7.er,Qv,Zv]
  split at he
  ·rename_i xb hx
   cases he;rw[hx];rfl
  ·cases he
 | neg x =>
  simp only[Zn]at he;simp only[d7.er,Qv,Zv]
  split at he
  ·rename_i k n hx
   cases he;rw[hx];rfl
  ·cases he
 | new t zs=>simp only[Zn]at he;cases he;rfl
 | box t x n =>
  simp only[Zn]at he;simp only[d7.er,Qv,Zv];obtain⟨q,he⟩:=QX he
  cases he;simp only[Bool.and_eq_true]at q;simp only[wD q.2,List.length_map,Nat.eq_of_beq_eq_true q.1,Fu q.2,and_self,if_true];rfl
 | kp x off =>
  simp only[Zn]at he;simp only[d7.er,Qv,Zv]
  split at he
  ·rename_i id i j hx;obtain⟨q,he⟩:=QX he
   cases he;rw[hx];show(if((h id).aA).alive=true then some (⟨AV.p id i (j+off),[]⟩:fj) else none)=_;rw[wH,if_pos q];rfl
  ·rename_i ts y j hx
   cases he;rw[hx];rfl
  ·rename_i ts y j id g p i hx;obtain⟨q,he⟩:=QX he
   cases he;rw[hx];show(if((h id).aA).dq=some g then some (⟨.bq (aV ts y) (j+off) id g p i,[]⟩:fj) else none)=_;rw[if_pos (qU q)];rfl
  ·cases he
 | kY x off n agg =>
  simp only[Zn]at he;simp only[d7.er,Qv,Zv]
  split at he
  rotate_left
  ·cases he
  rename_i cs hx
  split at he
  rotate_left
  ·cases he
  rename_i l hl
  split at he
  rotate_left
  ·cases he
  rename_i v hv
  cases he;rw[hx];simp only[TV.aA,TV.cl,wI hl,wJ hv];rfl
 | build zs ps =>
  simp only[Zn]at he;simp only[d7.er,Qv]
  split at he
  ·rename_i cs dJ
   cases he;rw[RQ dJ];rfl
  ·cases he
 | bW t ts ps =>
  simp only[Zn]at he;simp only[d7.er,Qv,hΓ.dp]
  split at he
  rotate_left
  ·cases he
  rename_i es gm;rw[RR gm]
  split at he
  ·rename_i iX
   split at he
   rotate_left
   ·cases he
   rename_i q hq;obtain⟨q2,he⟩:=QX he
   cases he;simp only[iX,if_true,QMg,RS hq hp,wL q2,and_self];simp only[TE.aA,List.map_cons,dL,wN,az.bH,List.length_map];rfl
  ·rename_i iX
   cases he;simp only[iX,Bool.false_eq_true,if_false];simp only[TE.aA,List.map_cons,dL,zT,QGS,az.bH,List.length_map];rfl
 | mk t ts zs n =>
  simp only[Zn]at he;simp only[d7.er,Qv,Zv,hΓ.dp]
  split at he
  rotate_left
  ·cases he
  rename_i k m z hn hz;obtain⟨q,he⟩:=QX he
  cases he;simp only[holds]at hp;obtain⟨h1,h2⟩:=tD ts _ _ hz;have gA:Γ.dp=true->(aV ts z).all D.pl=true:=by
   intro hd;rw[hd]at q;simp only[Bool.not_true,Bool.false_or]at q;rw[List.all_eq_true];intro d hd;obtain⟨i,hi⟩:=List.getElem?_of_mem hd;have cp:=AV.dX h1;have tG:i<(zs.map TV.aO).length:=by rw[<- cp.1];exact(List.getElem?_eq_some_iff.1 hi).1
   obtain⟨d',h5,h6⟩:=cp.2 i _ (List.getElem?_eq_getElem tG);rw[hi]at h5
   cases h5;have FH:(zs[i]'(by simpa using tG)).pl=true:=List.all_eq_true.1 q _ (List.getElem_mem _);simp only[List.getElem_map]at h6;generalize zs[i]'(by simpa using tG)=y at FH h6
   cases y with
   | c t v =>
    obtain⟨v',iz⟩:=wK (x:=v) FH;simp only[TV.aO,AV.d,iz,Option.some.injEq]at h6;subst h6;rfl
   | n ts =>
    simp only[TV.aO,AV.d,Option.some.injEq]at h6;subst h6;rfl
   | _=>simp[TV.pl]at FH
  rw[hn,h1];show(if(0:Int)<=m/\m<=cc/\(aV ts z).length=ts.length/\(Γ.dp=true->(aV ts z).all D.pl=true) then some (⟨.r ts.length b 0 m.toNat,[(b,.sl t ts.length (if Γ.dp=true then .dp 0 true [] else .ow) (List.replicate m.toNat (aV ts z)))]⟩:fj) else none)=_;rw[if_pos ⟨hp.1,hp.2,qV _ _,gA⟩];simp only[TE.aA,List.map_cons,dL,az.bH,List.map_nil,List.map_replicate]
  cases Γ.dp <;> rfl
 | len x =>
  simp only[Zn]at he;simp only[d7.er,Qv,Zv]
  split at he
  ·rename_i ts l hx
   cases he;rw[hx];show some (⟨.c (.v (.int .i64 ((List.map (aV ts) l).length:Int))),[]⟩:fj)=_;rw[List.length_map];rfl
  ·rename_i ts hx
   cases he;rw[hx];rfl
  ·rename_i ts id off len hx;obtain⟨q,he⟩:=QX he
   cases he;rw[hx];show(if((h id).aA).alive=true then some (⟨.c (.v (.int .i64 (len:Int))),[]⟩:fj) else none)=_;rw[wH,if_pos q];rfl
  ·rename_i ts l id g p hx;obtain⟨q,he⟩:=QX he
   cases he;rw[hx];show(if((h id).aA).dq=some g then some (⟨.c (.v (.int .i64 ((l.map (aV ts)).length:Int))),[]⟩:fj) else none)=_;rw[if_pos (qU q),List.length_map];rfl
  ·cases he
 | mm mx x y =>
  simp only[Zn]at he;simp only[d7.er,Qv,Zv]
  split at he
  ·rename_i k xb k' yb hx hy
   cases he;rw[hx,hy]
   cases mx <;> rfl
  ·cases he
 | ext x i =>
  simp only[Zn]at he;simp only[d7.er,Qv,Zv]
  split at he
  rotate_left
  ·cases he
  rename_i vs hx
  split at he
  rotate_left
  ·cases he
  rename_i v hv;obtain⟨q,he⟩:=QX he
  cases he;rw[hx];show(match(vs.map TV.cl)[i]? with | some v=>some (⟨v,[]⟩:fj) | none=>none)=_;rw[List.getElem?_map,hv];simp only[Option.map_some,TE.aA,R2 q,List.map_nil]
 | conv k x =>
  simp only[Zn]at he;simp only[d7.er,Qv,Zv]
  split at he
  ·rename_i k' n hx
   cases he;rw[hx];rfl
  ·cases he
 | gh x =>
  simp only[Zn]at he;simp only[d7.er,Qv,Zv]
  split at he
  ·rename_i id i j hx;obtain⟨q,he⟩:=QX he
   cases he;rw[hx];show(if((h id).aA).alive=true then some (⟨AV.p id i j,[]⟩:fj) else none)=_;rw[wH,if_pos q];rfl
  ·rename_i ts y j hx
   cases he;rw[hx];rfl
  ·rename_i ts y j id g p i hx;obtain⟨q,he⟩:=QX he
   cases he;rw[hx];show(if((h id).aA).dq=some g then some (⟨.bq (aV ts y) j id g p i,[]⟩:fj) else none)=_;rw[if_pos (qU q)];rfl
  ·cases he
end
end Go.Proofs.YtdplaepmjogjjaaGreat.Am
namespace Go.Proofs.YtdplaepmjogjjaaGreat.Am
open Go Go.RowKit
inductive bz where
 | op (d:Option Nat) (o:d7)
 | bt (s:Nat) (w:Bool) (ss:List bz) (d:Nat) (x:bD)
 | gw (s:Nat) (w:Bool) (ss:List bz) (d2:Nat) (o:d7) (d:Nat) (x:bD)
mutual
def bz.len:bz->Nat
 | .op _ _=>1
 | .bt _ _ ss _ _=>cV ss+1
 | .gw _ _ ss _ _ _ _=>cV ss+2
def cV:List bz->Nat
 | []=>0
 | x::xs=>x.len+cV xs
end
def YH(w:Bool)(s:Nat)(x:bD):d7:=if w then .pick (.s s) x (.k (.c .bool false)) else .pick (.s s) (.k (.c .bool true)) x
mutual
def bz.er(g:Option (Nat × Bool))(i:Nat):bz->List AO
 | .op d o=>[⟨d,o.er,g,16*i⟩]
 | .bt s w ss d x=>im (some (s,w)) i ss++[⟨some d,(YH w s x).er,g,16*(i+cV ss)⟩]
 | .gw s w ss d2 o d x=>im (some (s,w)) i ss++[⟨some d2,o.er,some (s,w),16*(i+cV ss)⟩,⟨some d,(YH w s x).er,g,16*(i+(cV ss+1))⟩]
def im(g:Option (Nat × Bool))(i:Nat):List bz->List AO
 | []=>[]
 | x::xs=>x.er g i++im g (i+x.len) xs
end
mutual
def bz.fJ:bz->List Nat
 | .op (some d) _=>[d]
 | .op none _=>[]
 | .bt _ _ ss d _=>Q8 ss++[d]
 | .gw _ _ ss d2 _ d _=>Q8 ss++[d2]++[d]
def Q8:List bz->List Nat
 | []=>[]
 | x::xs=>x.fJ++Q8 xs
end
mutual
def bz.lT:bz->List Nat->Bool
 | .op (some _) _,_=>true
 | .op none _,_=>false
 | .bt s _ ss _ _,ds=>ds.elem s&&!((Q8 ss).elem s)&&nt ss ds
 | .gw _ _ _ _ _ _ _,_=>false
def nt:List bz->List Nat->Bool
 | [],_=>true
 | x::r,ds=>x.lT ds&&nt r (x.fJ++ds)
end
def qW:Option Prop->Option Prop->Option Prop
 | none,q=>q
 | some p,none=>some p
 | some p,some q=>some (p/\q)
def nu(b:Bool):Option Prop->Option Prop
 | none=>none
 | some p=>some (b=true->p)
def tH(g:Bool)(t1:Nat->TV):List Nat->List (Nat × TV)->List (Nat × TV)
 | [],t=>t
 | d::ds,t=>(d,.g g (t1 d))::tH g t1 ds t
abbrev Log:=List (List Nat × List Nat)
mutual
def bz.fK(Γ:aF)(h:List (Nat × az))(nx i:Nat):bz->List (Nat × TV)->Option (Option Prop × List (Nat × TV) × Log)
 | .op d o,t=>match Zn Γ (cH t) (dx h) (nx+16*i) o with
  | some ⟨pre,v,[]⟩=>match d with
   | some d=>some (pre,(d,v)::t,[(acc (aW.ev λs=>(cH t s).aA) o.er,[])])
   | none=>none
  | _=>none
 | .bt s w ss d x,t=>match cH t s with
  | .c .bool b=>bif nt ss []&&!((Q8 ss).elem s) then(match Je Γ h nx i ss t with
   | some (p,t1,l)=>match x.ev (cH t1) with
    | .c .bool v=>some (nu (d5 w b (!b)) p,(d,.c .bool (d5 w (b&&v) (b||v)))::tH (d5 w b (!b)) (cH t1) (Q8 ss) t,l++[([],[])])
    | _=>none
   | none=>none) else none
  | _=>none
 | .gw _ _ _ _ _ _ _,_=>none
def Je(Γ:aF)(h:List (Nat × az))(nx i:Nat):List bz->List (Nat × TV)->Option (Option Prop × List (Nat × TV) × Log)
 | [],t=>some (none,t,[])
 | x::xs,t=>match x.fK Γ h nx i t with
  | some (p,t1,l)=>match Je Γ h nx (i+x.len) xs t1 with
   | some (q,t2,m)=>some (qW p q,t2,l++m)
   | none=>none
  | none=>none
end
def cr.app(σ:cr)(d:Option Nat)(v:TV)(bl:List (Nat × az)):cr :=
 ⟨match d with | some d=>(d,v)::σ.t | none=>σ.t,bl.reverse++σ.h,σ.nx⟩
def wQ(g:Bool):TV->TV->Option TV
 | .c t x,.c t' y=>if e:t'.beq t=true then some (.c t (cond g x (zJ e y))) else none
 | _,_=>none
def Jt(g:Bool):List TV->List TV->Option (List TV)
 | [],[]=>some []
 | x::xs,y::ys=>match wQ g x y with
  | some z=>match Jt g xs ys with
   | some zs=>some (z::zs)
   | none=>none
  | none=>none
 | _,_=>none
def YX(g:Bool)(h:List (Nat × az)):List (Nat × az)->Option (List (Nat × az))
 | []=>some []
 | (i,.box cs)::r=>match dx h i with
  | .box fZ=>match Jt g cs fZ with
   | some zs=>match YX g h r with
    | some r'=>some ((i,.box zs)::r')
    | none=>none
   | none=>none
  | _=>none
 | _::_=>none
def FI(Γ:aF)(i s:Nat)(w:Bool)(ss:List bz)(d2:Nat)(o:d7)(d:Nat)(x:bD)(σ:cr):Option (Option Prop × cr × Log) :=
 match cH σ.t s with
 | .c .bool b=>bif (nt ss []&&!((Q8 ss).elem s))&&!(Nat.beq s d2) then(match Je Γ σ.h σ.nx i ss σ.t with
  | some (p,t1,l)=>match Zn Γ (cH t1) (dx σ.h) (σ.nx+16*(i+cV ss)) o with
   | some ⟨pre,v,bl⟩=>match YX (d5 w b (!b)) σ.h bl with
    | some iq=>match x.ev (cH ((d2,v)::t1)) with
     | .c .bool xv=>some (nu (d5 w b (!b)) (qW p pre),⟨(d,.c .bool (d5 w (b&&xv) (b||xv)))::tH (d5 w b (!b)) (cH ((d2,v)::t1)) (Q8 ss++[d2]) σ.t,iq.reverse++σ.h,σ.nx⟩,
       l++[(acc (aW.ev λs=>(cH t1 s).aA) o.er,bl.map Prod.fst),([],[])])
     | _=>none
    | none=>none
   | none=>none
  | none=>none) else none
 | _=>none
def ic(Γ:aF):Nat->List bz->cr->Option (Option Prop × cr × Log)
 | _,[],σ=>some (none,σ,[])
 | i,.op d o::r,σ=>match Zn Γ σ.T σ.H (σ.nx+16*i) o with
  | some ⟨pre,v,bl⟩=>match ic Γ (i+1) r (σ.app d v bl) with
   | some (q,σ',m)=>some (qW pre q,σ',(acc (aW.ev λs=>(σ.T s).aA) o.er,bl.map Prod.fst)::m)
   | none=>none
  | none=>none
 | i,.bt s w ss d x::r,σ=>match(bz.bt s w ss d x).fK Γ σ.h σ.nx i σ.t with
  | some (p,t1,l)=>match ic Γ (i+(cV ss+1)) r ⟨t1,σ.h,σ.nx⟩ with
   | some (q,σ',m)=>some (qW p q,σ',l++m)
   | none=>none
  | none=>none
 | i,.gw s w ss d2 o d x::r,σ=>match FI Γ i s w ss d2 o d x σ with
  | some (p,σ1,l)=>match ic Γ (i+(cV ss+2)) r σ1 with
   | some (q,σ',m)=>some (qW p q,σ',l++m)
   | none=>none
  | none=>none
theorem wR{p q:Option Prop}:holds (qW p q)↔holds p/\holds q:=by
 cases p <;> cases q <;> simp[qW,holds]
theorem R6{b:Bool}{p:Option Prop}:holds (nu b p)↔(b=true->holds p):=by
 cases p <;> simp[nu,holds]
theorem FJ{j d:Nat}(h:¬ j=d):Nat.beq j d=false:=by
 cases hb:Nat.beq j d with
 | true=>exact absurd (Nat.eq_of_beq_eq_true hb) h
 | false=>rfl
theorem Y4(d:Nat)(v:TV)(t:List (Nat × TV)):cH ((d,v)::t)=bI (cH t) d v:=by
 funext j
 simp only[cH,bI];by_cases h:j=d
 ·subst h;simp
 ·rw[if_neg h,FJ h];rfl
theorem qX(d:Nat)(v:az)(t:List (Nat × az)):dx ((d,v)::t)=bI (dx t) d v:=by
 funext j
 simp only[dx,bI];by_cases h:j=d
 ·subst h;simp
 ·rw[if_neg h,FJ h];rfl
theorem QRO(T:Nat->TV)(d:Nat)(v:TV):(λs=>(bI T d v s).aA)=bI (λs=>(T s).aA) d v.aA:=by
 funext s;simp only[bI];split <;> rfl
theorem QVH(T:Nat->az)(d:Nat)(v:az):(λs=>(bI T d v s).aA)=bI (λs=>(T s).aA) d v.aA:=by
 funext s;simp only[bI];split <;> rfl
theorem FK:∀(bl:List (Nat × az))(h:List (Nat × az)),(λi=>(dx (bl.reverse++h) i).aA)=bn (λi=>(dx h i).aA) (bl.map dL)
 | [],h=>rfl
 | (d,v)::bl,h=>by
  rw[List.reverse_cons,List.append_assoc,List.singleton_append,FK bl ((d,v)::h),List.map_cons,dL,bn,qX,QVH]
theorem FL(σ:cr)(d:Option Nat)(v:TV)(bl:List (Nat × az)):(σ.app d v bl).aA=σ.aA.app d ⟨v.aA,bl.map dL⟩:=by
 unfold cr.app cr.aA St.app cr.T cr.H;simp only[FK,cP]
 cases d with
 | none=>rfl
 | some d=>simp only[Y4,QRO]
theorem R7(bl:List (Nat × az)):keys (bl.map dL)=bl.map Prod.fst:=by
 simp[keys,dL,List.map_map,Function.comp_def]
theorem nv{Γ:eA}:∀(l m:List AO)(σ:St),ZC Γ (l++m) σ=match ZC Γ l σ with
  | some (σ',a)=>match ZC Γ m σ' with
   | some (σ'',b)=>some (σ'',a++b)
   | none=>none
  | none=>none
 | [],m,σ=>by
  simp only[List.nil_append,ZC]
  cases ZC Γ m σ with
  | none=>rfl
  | some x=>obtain⟨a,b⟩:=x;rfl
 | o::l,m,σ=>by
  simp only[List.cons_append,ZC]
  cases Zw Γ o σ with
  | none=>rfl
  | some x =>
   obtain⟨σ',a,w⟩:=x;simp only[nv l m σ']
   cases ZC Γ l σ' with
   | none=>rfl
   | some x =>
    obtain⟨σ2,b⟩:=x;simp only
    cases ZC Γ m σ2 with
    | none=>rfl
    | some y=>obtain⟨σ3,c⟩:=y;rfl
def mC(t:Nat->AV)(s:Nat)(w:Bool):Prop:=t s = .t []\/∃ c,t s = .c (.v (.bool c))/\c≠w
def cF(ds:List Nat)(t:Nat->AV):Nat->AV:=λj=>if j∈ds then .t [] else t j
theorem FM{Γ:eA}{d:Option Nat}{op:eb}{s:Nat}{w:Bool}{off:Nat}{σ:St}(h:mC σ.t s w) :
  Zw Γ ⟨d,op,some (s,w),off⟩ σ=some (⟨cP σ.t d (.t []),σ.h,σ.nx⟩,[],[]):=by
 unfold Zw
 rcases h with h | ⟨c,h,hc⟩
 ·simp only[h]
 ·simp only[h,if_neg hc]
theorem zV(a b:List Nat)(t:Nat->AV):cF (a++b) t=cF b (cF a t):=by
 funext j
 simp only[cF,List.mem_append];by_cases h1:j∈b
 ·simp[h1]
 ·by_cases h2:j∈a <;> simp[h1,h2]
theorem wS(d:Nat)(t:Nat->AV):bI t d (.t [])=cF [d] t:=by
 funext j
 simp only[cF,bI,List.mem_singleton]
theorem mC.cF{t:Nat->AV}{s:Nat}{w:Bool}(h:mC t s w)(ds:List Nat)(hs:s∉ds):mC (cF ds t) s w:=by
 have:Am.cF ds t s=t s:=by simp[Am.cF,hs]
 unfold mC;rw[this];exact h
theorem wT{Γ:eA}{h:Nat->aQ}{nx:Nat}:∀(ss:List bz)(ds:List Nat)(i s:Nat)(w:Bool)(t:Nat->AV),nt ss ds=true->(∀ d,d∈ds->t d = .t [])->mC t s w->s∉Q8 ss->
  ∃ l:Log,ZC Γ (im (some (s,w)) i ss) ⟨t,h,nx⟩=some (⟨cF (Q8 ss) t,h,nx⟩,l)/\l.length=cV ss/\∀ x,x∈l->x=([],[])
 | [],ds,i,s,w,t,hk,cp,ho,hs=>by
  refine⟨[],?_,rfl,by simp⟩;show some (_,_)=_;have:cF [] t=t:=by funext j;simp[cF]
  rw[Q8,this]
 | .op (some d) o::r,ds,i,s,w,t,hk,cp,ho,hs=>by
  simp only[nt,bz.lT,bz.fJ,List.singleton_append,Bool.true_and]at hk;simp only[Q8,bz.fJ,List.mem_append,not_or,List.mem_singleton]at hs;have iR:mC (bI t d (.t [])) s w:=by rw[wS];exact ho.cF [d] (by simpa using hs.1)
  obtain⟨l,h1,h2,h3⟩:=wT (Γ:=Γ) (h:=h) (nx:=nx) r (d::ds) (i+1) s w (bI t d (.t [])) hk (λd' dD=>by
   simp only[bI]
   split
   ·rfl
   ·rename_i dN
    rcases List.mem_cons.1 dD with rfl | dD
    ·exact absurd rfl dN
    ·exact cp d' dD) iR hs.2
  refine⟨([],[])::l,?_,by simp[cV,bz.len,h2,Nat.add_comm],by simpa using h3⟩;simp only[im,bz.er,bz.len,List.singleton_append,ZC,FM (σ:=⟨t,h,nx⟩) ho,cP,h1,Q8,bz.fJ];rw[wS,<- zV];rfl
 | .bt s2 w2 ss d x::r,ds,i,s,w,t,hk,cp,ho,hs=>by
  simp only[nt,bz.lT,bz.fJ,Bool.and_eq_true,Bool.not_eq_true']at hk;obtain⟨⟨⟨k1,k2⟩,k3⟩,k4⟩:=hk;have k1:s2∈ds:=by simpa using k1
  have k2:s2∉Q8 ss:=by simpa using k2
  simp only[Q8,bz.fJ,List.mem_append,not_or,List.mem_singleton]at hs;obtain⟨l1,h1,h2,h3⟩:=wT (Γ:=Γ) (h:=h) (nx:=nx) ss ds i s2 w2 t k3 cp (.inl (cp s2 k1)) k2;have m7:mC (cF (Q8 ss) t) s w:=ho.cF _ hs.1.1;have oq:mC (bI (cF (Q8 ss) t) d (.t [])) s w:=by rw[wS];exact m7.cF [d] (by simpa using hs.1.2)
  obtain⟨l2,h4,h5,h6⟩:=wT (Γ:=Γ) (h:=h) (nx:=nx) r ((Q8 ss++[d])++ds) (i+(cV ss+1)) s w (bI (cF (Q8 ss) t) d (.t [])) k4 (λd' dD=>by
   simp only[bI]
   split
   ·rfl
   ·rename_i dN;simp only[cF]
    split
    ·rfl
    ·rename_i hn;simp only[List.mem_append,List.mem_singleton]at dD
     rcases dD with(dD | dD) | dD
     ·exact absurd dD hn
     ·exact absurd dD dN
     ·exact cp d' dD) oq hs.2
  refine⟨l1++[([],[])]++l2,?_,by simp[cV,bz.len,h2,h5];omega,λy hy=>?_⟩
  ·simp only[im,bz.er,bz.len,List.append_assoc,nv,h1,List.singleton_append,ZC,FM (σ:=⟨cF (Q8 ss) t,h,nx⟩) m7,cP,h4,Q8,bz.fJ];rw[wS,<- zV,<- zV];rfl
  ·rcases List.mem_append.1 hy with hy | hy
   ·rcases List.mem_append.1 hy with hy | hy
    ·exact h3 y hy
    ·simpa using hy
   ·exact h6 y hy
 | .op none o::r,ds,i,s,w,t,hk,cp,ho,hs=>by simp[nt,bz.lT]at hk
 | .gw _ _ _ _ _ _ _::r,ds,i,s,w,t,hk,cp,ho,hs=>by simp[nt,bz.lT]at hk
theorem tI(g:Bool)(t1:Nat->TV):∀(ds:List Nat)(t:List (Nat × TV))(j:Nat),cH (tH g t1 ds t) j=if j∈ds then .g g (t1 j) else cH t j
 | [],t,j=>by simp[tH]
 | d::ds,t,j=>by
  simp only[tH,Y4,bI];by_cases h:j=d
  ·subst h;simp
  ·rw[if_neg h,tI g t1 ds t j];simp[h]
mutual
theorem R8{Γ:aF}{h:List (Nat × az)}{nx:Nat}:∀(x:bz){i:Nat}{t t1:List (Nat × TV)}{p:Option Prop}{l:Log},x.fK Γ h nx i t=some (p,t1,l)->∀ j,j∉x.fJ->cH t1 j=cH t j
 | .op d o,i,t,t1,p,l,e,j,hj=>by
  rw[bz.fK]at e
  split at e
  ·split at e
   ·cases e
    simp only[bz.fJ,List.mem_singleton]at hj
    rw[Y4]
    simp[bI,hj]
   ·cases e
  ·cases e
 | .bt s w ss d x,i,t,t1,p,l,e,j,hj=>by
  rw[bz.fK]at e
  split at e
  rotate_left
  ·cases e
  obtain⟨_,e⟩:=QX e
  split at e
  rotate_left
  ·cases e
  split at e
  rotate_left
  ·cases e
  cases e
  simp only[bz.fJ,List.mem_append,List.mem_singleton,not_or]at hj
  rw[Y4]
  simp only[bI,hj.2,if_false]
  rw[tI,if_neg hj.1]
 | .gw _ _ _ _ _ _ _,i,t,t1,p,l,e,j,hj=>by rw[bz.fK]at e;cases e
theorem FN{Γ:aF}{h:List (Nat × az)}{nx:Nat}:∀(ss:List bz){i:Nat}{t t1:List (Nat × TV)}{p:Option Prop}{l:Log},Je Γ h nx i ss t=some (p,t1,l)->∀ j,j∉Q8 ss->cH t1 j=cH t j
 | [],i,t,t1,p,l,e,j,hj=>by rw[Je]at e;cases e;rfl
 | x::xs,i,t,t1,p,l,e,j,hj=>by
  rw[Je]at e
  split at e
  rotate_left
  ·cases e
  rename_i h1
  split at e
  rotate_left
  ·cases e
  rename_i h2
  cases e
  simp only[Q8,List.mem_append,not_or]at hj
  rw[FN xs h2 j hj.2,R8 x h1 j hj.1]
end
def YC(l' l:List (List Nat × List Nat)):Prop:=l'.length=l.length/\∀(k:Nat)(a:List Nat × List Nat),l'[k]? = some a->a=([],[])\/l[k]? = some a
theorem YC.refl(l:Log):YC l l:=⟨rfl,λ_ _ h=>.inr h⟩
theorem YC.off{l' l:Log}(h:l'.length=l.length)(h2:∀ x,x∈l'->x=([],[])):YC l' l:=⟨h,λ_ a ha=>.inl (h2 a (List.mem_of_getElem? ha))⟩
theorem YC.append{a a' b b':Log}(h:YC a' a)(h2:YC b' b):YC (a'++b') (a++b):=by
 refine⟨by simp[h.1,h2.1],λk x hk=>?_⟩;rw[List.getElem?_append]at hk ⊢;rw[h.1]at hk
 split at hk
 ·rename_i aU;rw[if_pos aU];exact(h.2 k x hk)
 ·rename_i aU;rw[if_neg aU];exact(h2.2 _ x hk)
theorem QNE{l' l:Log}{U:List (Nat × Nat)}(h:YC l' l)(hn:s0 l U=true):s0 l' U=true:=by
 unfold s0 at hn ⊢;rw[List.all_eq_true]at hn ⊢;rintro⟨i,j⟩ qG
 have:=hn (i,j) qG;simp only at this ⊢
 split
 rotate_left
 ·rfl
 rename_i a w a' w' h1 h2
 rcases h.2 i _ h1 with e1 | e1
 ·cases e1;simp[JE]
 ·rcases h.2 j _ h2 with e2 | e2
  ·cases e2;simp[JE]
  ·rw[e1,e2]at this;exact this
mutual
theorem QUr{Γ:aF}{h:List (Nat × az)}{nx:Nat}:∀(x:bz){i:Nat}{t t1:List (Nat × TV)}{p:Option Prop}{l:Log},x.fK Γ h nx i t=some (p,t1,l)->l.length=x.len
 | .op d o,i,t,t1,p,l,e=>by
  rw[bz.fK]at e
  split at e
  ·split at e
   ·cases e;rfl
   ·cases e
  ·cases e
 | .bt s w ss d x,i,t,t1,p,l,e=>by
  rw[bz.fK]at e
  split at e
  rotate_left
  ·cases e
  obtain⟨_,e⟩:=QX e
  split at e
  rotate_left
  ·cases e
  rename_i hr
  split at e
  rotate_left
  ·cases e
  cases e
  simp[bz.len,FO ss hr]
 | .gw _ _ _ _ _ _ _,i,t,t1,p,l,e=>by rw[bz.fK]at e;cases e
theorem FO{Γ:aF}{h:List (Nat × az)}{nx:Nat}:∀(ss:List bz){i:Nat}{t t1:List (Nat × TV)}{p:Option Prop}{l:Log},Je Γ h nx i ss t=some (p,t1,l)->l.length=cV ss
 | [],i,t,t1,p,l,e=>by rw[Je]at e;cases e;rfl
 | x::xs,i,t,t1,p,l,e=>by
  rw[Je]at e
  split at e
  rotate_left
  ·cases e
  rename_i h1
  split at e
  rotate_left
  ·cases e
  rename_i h2
  cases e
  simp[cV,QUr x h1,FO xs h2]
end
theorem R9{Γ:aF}{h:List (Nat × az)}{nx:Nat}{ss:List bz}{i:Nat}{t t1:List (Nat × TV)}{p:Option Prop}{l:Log}(e:Je Γ h nx i ss t=some (p,t1,l)):l.length=cV ss:=FO ss e
section
variable {Γ:aF} {ΓA:eA} (hΓ:iH Γ ΓA) {h:List (Nat × az)} {nx:Nat}
def qY(g:Option (Nat × Bool))(t:List (Nat × TV)):Prop:=match g with
 | none=>True
 | some (s,w)=>cH t s = .c .bool w
def je(g:Option (Nat × Bool))(ds:List Nat):Prop:=match g with
 | none=>True
 | some (s,_)=>s∉ds
theorem qY.next{g:Option (Nat × Bool)}{t t1:List (Nat × TV)}{ds:List Nat}(h:qY g t)(ho:je g ds)(hk:∀ j,j∉ds->cH t1 j=cH t j):qY g t1:=by
 cases g with
 | none=>trivial
 | some x=>obtain⟨s,w⟩:=x;exact(hk s ho).trans h
theorem wU{op:eb}{d:Option Nat}{g:Option (Nat × Bool)}{off:Nat}{t:List (Nat × TV)}(hg:qY g t) :
  Zw ΓA ⟨d,op,g,off⟩ (cr.aA ⟨t,h,nx⟩)=match Qv ΓA (aW.ev λs=>(cH t s).aA) (λi=>(dx h i).aA) (nx+off) op with
   | some e=>some ((cr.aA ⟨t,h,nx⟩).app d e,acc (aW.ev λs=>(cH t s).aA) op,keys e.fU)
   | none=>none:=by
 unfold Zw
 cases g with
 | none=>rfl
 | some x =>
  obtain⟨s,w⟩:=x;have:(cr.aA ⟨t,h,nx⟩).t s = .c (.v (.bool w)):=by
   show(cH t s).aA=_;rw[show cH t s = .c .bool w from hg];rfl
  simp only[this,if_true];rfl
include hΓ in
mutual
theorem Sa:∀(x:bz){i:Nat}{g:Option (Nat × Bool)}{t t1:List (Nat × TV)}{p:Option Prop}{l:Log},x.fK Γ h nx i t=some (p,t1,l)->holds p->qY g t->je g x.fJ->
  ∃ l',ZC ΓA (x.er g i) (cr.aA ⟨t,h,nx⟩)=some (cr.aA ⟨t1,h,nx⟩,l')/\YC l' l
 | .op d o,i,g,t,t1,p,l,e,hp,hg,ho=>by
  rw[bz.fK]at e
  split at e
  rotate_left
  ·cases e
  rename_i pre v he
  split at e
  rotate_left
  ·cases e
  rename_i d
  cases e;have h1:=FG hΓ he hp;refine⟨[(acc (aW.ev λs=>(cH t s).aA) o.er,[])],?_,.refl _⟩;simp only[bz.er,ZC,wU (ΓA:=ΓA) hg,h1,TE.aA,List.map_nil,keys];congr 2
  have:=FL ⟨t,h,nx⟩ (some d) v [];simp only[List.map_nil]at this;exact this.symm
 | .bt s w ss d x,i,g,t,t1,p,l,e,hp,hg,ho=>by
  rw[bz.fK]at e
  split at e
  rotate_left
  ·cases e
  rename_i b hb;obtain⟨q,e⟩:=QX e;simp only[Bool.and_eq_true,Bool.not_eq_true']at q;have q2:s∉Q8 ss:=by simpa using q.2
  split at e
  rotate_left
  ·cases e
  rename_i p' t1 l1 hr
  split at e
  rotate_left
  ·cases e
  rename_i v hv
  cases e;have m7:je g (Q8 ss):=by
   cases g with
   | none=>trivial
   | some y=>obtain⟨sg,wg⟩:=y;simp only[je,bz.fJ,List.mem_append,not_or]at ho ⊢;exact ho.1
  have db:=FN ss hr;rw[R6]at hp;by_cases j7:(d5 w b (!b))=true
  ·have lf:b=w:=by cases b <;> cases w <;> simp[d5]at j7 ⊢
   obtain⟨l',h1,h2⟩:=FP ss (g:=some (s,w)) hr (hp j7) (by show cH t s=_;rw[hb,lf]) q2;have la:qY g t1:=hg.next m7 db;have mB:cH t1 s = .c .bool b:=by rw[db s q2,hb]
   refine⟨l'++[(acc (aW.ev λs=>(cH t1 s).aA) (YH w s x).er,[])],?_,h2.append ⟨rfl,λk a ha=>?_⟩⟩
   ·simp only[bz.er,nv,h1,ZC,wU (ΓA:=ΓA) la];have hd:Qv ΓA (aW.ev λs=>(cH t1 s).aA) (λi=>(dx h i).aA) (nx+16*(i+cV ss)) (YH w s x).er=some ⟨.c (.v (.bool (d5 w (b&&v) (b||v)))),[]⟩:=by
     subst lf;have e1:(bD.s s).ev (cH t1) = .c .bool b:=mB
     cases b
     ·simp only[YH,Bool.false_eq_true,if_false,d7.er,Qv,Zv,e1,hv];rfl
     ·simp only[YH,if_true,d7.er,Qv,Zv,e1,hv];rfl
    simp only[hd,keys,List.map_nil];congr 2
    rw[j7];unfold St.app cr.aA cr.T cr.H;simp only[cP,bn];congr 1
    funext j
    rw[Y4,bI,bI]
    split
    ·rfl
    ·rw[tI]
     split
     ·rfl
     ·rename_i hj;rw[db j hj]
   ·cases k with
    | zero =>
     left;simp only[List.getElem?_cons_zero,Option.some.injEq]at ha;rw[<- ha]
     cases w <;> rfl
    | succ k=>simp at ha
  ·have nw:(d5 w b (!b))=false:=by simpa using j7
   have lf:b≠w:=by rintro rfl;cases b <;> simp[d5]at j7
   obtain⟨l',h1,h2,h3⟩:=wT (Γ:=ΓA) (h:=λi=>(dx h i).aA) (nx:=nx) ss [] i s w (λs=>(cH t s).aA) q.1 (by simp) (.inr ⟨b,by show(cH t s).aA=_;rw[hb];rfl,lf⟩) q2;have qF:∀ s',s'∉Q8 ss->cF (Q8 ss) (λs=>(cH t s).aA) s'=(cH t s').aA:=λs' E3=>by simp[cF,E3]
   have lP:∀ op,Zw ΓA ⟨some d,op,g,16*(i+cV ss)⟩ ⟨cF (Q8 ss) (λs=>(cH t s).aA),λi=>(dx h i).aA,nx⟩=match Qv ΓA (aW.ev (cF (Q8 ss) λs=>(cH t s).aA)) (λi=>(dx h i).aA) (nx+16*(i+cV ss)) op with
     | some e=>some (St.app ⟨cF (Q8 ss) (λs=>(cH t s).aA),λi=>(dx h i).aA,nx⟩ (some d) e,acc (aW.ev (cF (Q8 ss) λs=>(cH t s).aA)) op,keys e.fU)
     | none=>none:=by
    intro op;unfold Zw
    cases g with
    | none=>rfl
    | some y =>
     obtain⟨sg,wg⟩:=y;have:cF (Q8 ss) (λs=>(cH t s).aA) sg = .c (.v (.bool wg)):=by
      rw[qF sg m7,show cH t sg = .c .bool wg from hg];rfl
     simp only[this,if_true];rfl
   refine⟨l'++[([],[])],?_,(YC.off (by rw[h2,R9 hr]) h3).append (.refl _)⟩;simp only[bz.er,nv];rw[show cr.aA ⟨t,h,nx⟩=⟨λs=>(cH t s).aA,λi=>(dx h i).aA,nx⟩ from rfl,h1];simp only[ZC,lP];have hd:Qv ΓA (aW.ev (cF (Q8 ss) λs=>(cH t s).aA)) (λi=>(dx h i).aA) (nx+16*(i+cV ss)) (YH w s x).er=some ⟨.c (.v (.bool (d5 w (b&&v) (b||v)))),[]⟩:=by
    have mB:cF (Q8 ss) (λs=>(cH t s).aA) s = .c (.v (.bool b)):=by rw[qF s q2,hb];rfl
    cases w <;> cases b <;> first
     | exact absurd rfl lf
     | (simp only[YH,Bool.false_eq_true,if_false,if_true,d7.er,Qv,bD.er,aW.ev,mB];rfl)
   simp only[hd,keys,List.map_nil];have ny:acc (aW.ev (cF (Q8 ss) λs=>(cH t s).aA)) (YH w s x).er=[]:=by cases w <;> rfl
   rw[ny,nw];congr 2
   unfold St.app cr.aA cr.T cr.H;simp only[cP,bn];congr 1
   funext j
   rw[Y4,bI,bI]
   split
   ·rfl
   ·rw[tI];simp only[cF]
    split
    ·rfl
    ·rfl
 | .gw _ _ _ _ _ _ _,i,g,t,t1,p,l,e,hp,hg,ho=>by rw[bz.fK]at e;cases e
theorem FP:∀(ss:List bz){i:Nat}{g:Option (Nat × Bool)}{t t1:List (Nat × TV)}{p:Option Prop}{l:Log},Je Γ h nx i ss t=some (p,t1,l)->holds p->qY g t->je g (Q8 ss)->
  ∃ l',ZC ΓA (im g i ss) (cr.aA ⟨t,h,nx⟩)=some (cr.aA ⟨t1,h,nx⟩,l')/\YC l' l
 | [],i,g,t,t1,p,l,e,hp,hg,ho=>by rw[Je]at e;cases e;exact⟨[],rfl,.refl _⟩
 | x::xs,i,g,t,t1,p,l,e,hp,hg,ho=>by
  rw[Je]at e
  split at e
  rotate_left
  ·cases e
  rename_i p1 t2 l1 h1
  split at e
  rotate_left
  ·cases e
  rename_i p2 t3 l2 h2
  cases e;rw[wR]at hp;have iR:je g x.fJ/\je g (Q8 xs):=by
   cases g with
   | none=>exact⟨trivial,trivial⟩
   | some y=>obtain⟨sg,wg⟩:=y;simp only[je,Q8,List.mem_append,not_or]at ho ⊢;exact ho
  obtain⟨wV,h3,h4⟩:=Sa x h1 hp.1 hg iR.1;obtain⟨l2',h5,h6⟩:=FP xs h2 hp.2 (hg.next iR.1 (R8 x h1)) iR.2;exact⟨wV++l2',by simp only[im,nv,h3,h5],h4.append h6⟩
end
theorem QQW{x y z:TV}(e:wQ true x y=some z):z=x:=by
 unfold wQ at e
 split at e
 ·split at e
  ·cases e;rfl
  ·cases e
 ·cases e
theorem Sb:∀ {x y z:List TV},Jt true x y=some z->z=x
 | [],[],z,e=>by simp only[Jt]at e;cases e;rfl
 | x::xs,y::ys,z,e=>by
  simp only[Jt]at e
  split at e
  rotate_left
  ·cases e
  rename_i h1
  split at e
  rotate_left
  ·cases e
  rename_i h2
  cases e;rw[QQW h1,Sb h2]
 | [],_::_,z,e=>by simp[Jt]at e
 | _::_,[],z,e=>by simp[Jt]at e
theorem Sc{h:List (Nat × az)}:∀ {bl iq:List (Nat × az)},YX true h bl=some iq->iq=bl
 | [],iq,e=>by simp only[YX]at e;cases e;rfl
 | (i,.box cs)::r,iq,e=>by
  simp only[YX]at e
  split at e
  rotate_left
  ·cases e
  split at e
  rotate_left
  ·cases e
  rename_i h1
  split at e
  rotate_left
  ·cases e
  rename_i h2
  cases e;rw[Sb h1,Sc h2]
 | (i,.none)::r,iq,e=>by simp[YX]at e
 | (i,.dead)::r,iq,e=>by simp[YX]at e
 | (i,.sl _ _ _ _)::r,iq,e=>by simp[YX]at e
theorem QKg{x y z:TV}(e:wQ false x y=some z):z=y:=by
 unfold wQ at e
 split at e
 ·split at e
  ·rename_i t x t' y h
   cases e;have:=CT.beq_eq _ _ h;subst this;rfl
  ·cases e
 ·cases e
theorem Sd:∀ {x y z:List TV},Jt false x y=some z->z=y
 | [],[],z,e=>by simp only[Jt]at e;cases e;rfl
 | x::xs,y::ys,z,e=>by
  simp only[Jt]at e
  split at e
  rotate_left
  ·cases e
  rename_i h1
  split at e
  rotate_left
  ·cases e
  rename_i h2
  cases e;rw[QKg h1,Sd h2]
 | [],_::_,z,e=>by simp[Jt]at e
 | _::_,[],z,e=>by simp[Jt]at e
theorem Se{h:List (Nat × az)}:∀ {bl iq:List (Nat × az)},YX false h bl=some iq->bn (λi=>(dx h i).aA) (iq.map dL)=λi=>(dx h i).aA
 | [],iq,e=>by simp only[YX]at e;cases e;rfl
 | (i,.box cs)::r,iq,e=>by
  simp only[YX]at e
  split at e
  rotate_left
  ·cases e
  rename_i fZ h0
  split at e
  rotate_left
  ·cases e
  rename_i h1
  split at e
  rotate_left
  ·cases e
  rename_i h2
  cases e;rw[Sd h1,List.map_cons,dL,bn];show bn (bI (λi=>(dx h i).aA) i (az.aA (.box fZ))) _=_;have:bI (λi=>(dx h i).aA) i (az.aA (.box fZ))=λi=>(dx h i).aA:=by
   funext j
   simp only[bI]
   split
   ·rename_i hj;rw[hj,<- h0]
   ·rfl
  rw[this];exact Se h2
 | (i,.none)::r,iq,e=>by simp[YX]at e
 | (i,.dead)::r,iq,e=>by simp[YX]at e
 | (i,.sl _ _ _ _)::r,iq,e=>by simp[YX]at e
include hΓ in
theorem QNa{i s:Nat}{w:Bool}{ss:List bz}{d2:Nat}{o:d7}{d:Nat}{x:bD}{σ σ':cr}{p:Option Prop}{l:Log}(e:FI Γ i s w ss d2 o d x σ=some (p,σ',l))(hp:holds p) :
  ∃ l',ZC ΓA ((bz.gw s w ss d2 o d x).er none i) σ.aA=some (σ'.aA,l')/\YC l' l:=by
 obtain⟨t,h,nx⟩:=σ;unfold FI at e
 split at e
 rotate_left
 ·cases e
 rename_i b hb;obtain⟨q,e⟩:=QX e;simp only[Bool.and_eq_true,Bool.not_eq_true']at q;obtain⟨⟨q1,q2⟩,q3⟩:=q;have q2:s∉Q8 ss:=by simpa using q2
 have q3:¬ s=d2:=λh=>by rw[h]at q3;simp at q3
 split at e
 rotate_left
 ·cases e
 rename_i p' t1 l1 hr
 split at e
 rotate_left
 ·cases e
 rename_i pre v bl he
 split at e
 rotate_left
 ·cases e
 rename_i iq hm
 split at e
 rotate_left
 ·cases e
 rename_i xv hv
 cases e;simp only at hb hr he hm ⊢;have db:=FN ss hr;rw[R6]at hp;by_cases j7:(d5 w b (!b))=true
 ·have lf:b=w:=by cases b <;> cases w <;> simp[d5]at j7 ⊢
  have hp:=hp j7;rw[wR]at hp;obtain⟨l',h1,h2⟩:=FP hΓ ss (g:=some (s,w)) hr hp.1 (by show cH t s=_;rw[hb,lf]) q2;have mB:cH t1 s = .c .bool b:=by rw[db s q2,hb]
  have hd1:=FG hΓ he hp.2;rw[j7]at hm;have gZ:=Sc hm;subst gZ;have E8:cH ((d2,v)::t1) s = .c .bool b:=by rw[Y4];simp[bI,q3,mB]
  have hd:Qv ΓA (aW.ev λs=>(cH ((d2,v)::t1) s).aA) (λi=>(dx (iq.reverse++h) i).aA) (nx+16*(i+(cV ss+1))) (YH w s x).er=some ⟨.c (.v (.bool (d5 w (b&&xv) (b||xv)))),[]⟩:=by
   subst lf;have e1:(bD.s s).ev (cH ((d2,v)::t1)) = .c .bool b:=E8
   cases b
   ·simp only[YH,Bool.false_eq_true,if_false,d7.er,Qv,Zv,e1,hv];rfl
   ·simp only[YH,if_true,d7.er,Qv,Zv,e1,hv];rfl
  refine⟨l'++[(acc (aW.ev λs=>(cH t1 s).aA) o.er,iq.map Prod.fst),(acc (aW.ev λs=>(cH ((d2,v)::t1) s).aA) (YH w s x).er,[])],?_,h2.append ⟨rfl,λk a ha=>?_⟩⟩
  ·simp only[bz.er,nv,h1,ZC,wU (ΓA:=ΓA) (g:=some (s,w)) (t:=t1) (by show cH t1 s=_;rw[mB,lf]),hd1,TE.aA,<- FL];simp only[cr.app,wU (ΓA:=ΓA) (g:=none) trivial,hd,R7];refine congrArg some (Prod.ext ?_ rfl);rw[j7];unfold St.app cr.aA cr.T cr.H;simp only[cP,bn];congr 1
   funext j
   rw[Y4 d,bI,bI]
   split
   ·rfl
   ·rw[tI]
    split
    ·rfl
    ·rename_i hj;rw[List.mem_append,List.mem_singleton,not_or]at hj;rw[Y4,bI,if_neg hj.2,db j hj.1]
  ·match k,ha with
   | 0,ha=>exact .inr ha
   | 1,ha =>
    left;simp only[List.getElem?_cons_succ,List.getElem?_cons_zero,Option.some.injEq]at ha;rw[<- ha]
    cases w <;> rfl
   | k+2,ha=>simp at ha
 ·have nw:(d5 w b (!b))=false:=by simpa using j7
  have lf:b≠w:=by rintro rfl;cases b <;> simp[d5]at j7
  have Sf:mC (λs=>(cH t s).aA) s w:=.inr ⟨b,by show(cH t s).aA=_;rw[hb];rfl,lf⟩;obtain⟨l',h1,h2,h3⟩:=wT (Γ:=ΓA) (h:=λi=>(dx h i).aA) (nx:=nx) ss [] i s w (λs=>(cH t s).aA) q1 (by simp) Sf q2;have iO:=λop dd off=>FM (Γ:=ΓA) (d:=dd) (op:=op) (off:=off) (σ:=⟨cF (Q8 ss) (λs=>(cH t s).aA),λi=>(dx h i).aA,nx⟩) (Sf.cF _ q2);rw[nw]at hm;have gZ:=Se hm;have mB:cF (Q8 ss++[d2]) (λs=>(cH t s).aA) s = .c (.v (.bool b)):=by
   have:s∉Q8 ss++[d2]:=by simp[q2,q3]
   simp only[cF,this,if_false,hb];rfl
  refine⟨l'++[([],[]),([],[])],?_,(YC.off (by rw[h2,R9 hr]) h3).append ⟨rfl,λk a ha=>.inl ?_⟩⟩;rotate_left
  ·match k,ha with
   | 0,ha=>simpa using ha.symm
   | 1,ha=>simpa using ha.symm
   | k+2,ha=>simp at ha
  simp only[bz.er,nv];rw[show cr.aA ⟨t,h,nx⟩=⟨λs=>(cH t s).aA,λi=>(dx h i).aA,nx⟩ from rfl,h1];simp only[ZC,iO,cP];rw[wS,<- zV];have hd:Qv ΓA (aW.ev (cF (Q8 ss++[d2]) λs=>(cH t s).aA)) (λi=>(dx h i).aA) (nx+16*(i+(cV ss+1))) (YH w s x).er=some ⟨.c (.v (.bool (d5 w (b&&xv) (b||xv)))),[]⟩:=by
   cases w <;> cases b <;> first
    | exact absurd rfl lf
    | (simp only[YH,Bool.false_eq_true,if_false,if_true,d7.er,Qv,bD.er,aW.ev,mB];rfl)
  have ny:acc (aW.ev (cF (Q8 ss++[d2]) λs=>(cH t s).aA)) (YH w s x).er=[]:=by cases w <;> rfl
  simp only[Zw,hd,keys,List.map_nil,ny,nw];congr 2
  unfold St.app cr.aA cr.T cr.H;simp only[cP,bn,FK,gZ];congr 1
  funext j
  rw[Y4,bI,bI]
  split
  ·rfl
  ·rw[tI];simp only[cF]
   split
   ·rfl
   ·rfl
include hΓ in
theorem wW:∀(ss:List bz){i:Nat}{σ σ':cr}{p:Option Prop}{l:Log},ic Γ i ss σ=some (p,σ',l)->holds p->∃ l',ZC ΓA (im none i ss) σ.aA=some (σ'.aA,l')/\YC l' l
 | [],i,σ,σ',p,l,e,hp=>by rw[ic]at e;cases e;exact⟨[],rfl,.refl _⟩
 | .op d o::r,i,σ,σ',p,l,e,hp=>by
  rw[ic]at e
  split at e
  rotate_left
  ·cases e
  rename_i pre v bl he
  split at e
  rotate_left
  ·cases e
  rename_i q σ2 m h2
  cases e;rw[wR]at hp;have h1:=FG hΓ he hp.1;obtain⟨l',h3,h4⟩:=wW r h2 hp.2;refine⟨(acc (aW.ev λs=>(σ.T s).aA) o.er,bl.map Prod.fst)::l',?_,(YC.refl [(acc (aW.ev λs=>(σ.T s).aA) o.er,bl.map Prod.fst)]).append h4⟩;obtain⟨t,h,nx⟩:=σ;simp only[im,bz.er,bz.len,List.singleton_append,ZC,wU (ΓA:=ΓA) (g:=none) (t:=t) trivial];have h1:Qv ΓA (aW.ev λs=>(cH t s).aA) (λi=>(dx h i).aA) (nx+16*i) o.er=some (TE.aA ⟨pre,v,bl⟩):=h1;rw[h1];simp only[TE.aA,R7,<- FL,h3];rfl
 | .bt s w ss d x::r,i,σ,σ',p,l,e,hp=>by
  rw[ic]at e
  split at e
  rotate_left
  ·cases e
  rename_i p1 t1 l1 h1
  split at e
  rotate_left
  ·cases e
  rename_i q σ2 m h2
  cases e;rw[wR]at hp;obtain⟨t,h,nx⟩:=σ;obtain⟨wV,h3,h4⟩:=Sa hΓ _ (g:=none) h1 hp.1 trivial trivial;obtain⟨l',h5,h6⟩:=wW r h2 hp.2;refine⟨wV++l',?_,h4.append h6⟩;simp only[im,nv,h3];rw[show(bz.bt s w ss d x).len=cV ss+1 from by rw[bz.len],h5]
 | .gw s w ss d2 o d x::r,i,σ,σ',p,l,e,hp=>by
  rw[ic]at e
  split at e
  rotate_left
  ·cases e
  rename_i p1 σ1 l1 h1
  split at e
  rotate_left
  ·cases e
  rename_i q σ2 m h2
  cases e;rw[wR]at hp;obtain⟨wV,h3,h4⟩:=QNa hΓ h1 hp.1;obtain⟨l',h5,h6⟩:=wW r h2 hp.2;refine⟨wV++l',?_,h4.append h6⟩;simp only[im,nv,h3];rw[show(bz.gw s w ss d2 o d x).len=cV ss+2 from by rw[bz.len],h5]
end
theorem Sg{Γ:eA}{K:St->Prop}:∀(l:List AO){σ σ':St}{log:Log},ZC Γ l σ=some (σ',log)->K σ'->gH Γ l K σ
 | [],σ,σ',log,e,hk=>by simp only[ZC,Option.some.injEq,Prod.mk.injEq]at e;rw[e.1];exact hk
 | o::l,σ,σ',log,e,hk=>by
  simp only[ZC]at e
  split at e
  rotate_left
  ·cases e
  rename_i σ1 a w h1
  split at e
  rotate_left
  ·cases e
  rename_i σ2 m h2
  cases e;have ih:=Sg l h2 hk;unfold Zw at h1;rw[gH];clear h2
  split at h1
  ·rename_i hg
   split at h1
   rotate_left
   ·cases h1
   rename_i e he
   cases h1;exact ih
  ·rename_i s wt hg
   split at h1
   ·rename_i c hc
    split at h1
    ·rename_i jr
     split at h1
     rotate_left
     ·cases h1
     rename_i e he
     cases h1;exact⟨λ_=>ih,λhn=>absurd jr hn⟩
    ·rename_i jr
     cases h1;exact⟨λh=>absurd h jr,λ_=>ih⟩
   ·rename_i hc
    cases h1;exact ih
   ·cases h1
end Go.Proofs.YtdplaepmjogjjaaGreat.Am

