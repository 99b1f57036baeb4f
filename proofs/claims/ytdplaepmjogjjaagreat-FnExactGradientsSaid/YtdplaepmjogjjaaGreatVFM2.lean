/- -/
import Derived.Test.YtdplaepmjogjjaaGreatVFM1
import Derived.Orders
import Derived.Control
import Derived.ProofKit
import Derived.OpenShut
set_option linter.all false
namespace Go.Proofs.YtdplaepmjogjjaaGreat.Am
open Go Go.RowKit
theorem Yt{t t':Nat->AV}{y:bc}(h:∀ s,s∈y.bR->t' s=t s):y.ev t'=y.ev t:=by
 cases y with
 | s i=>exact h i (by simp[bc.bR])
 | k x=>rfl
theorem IF{h h':Nat->aX}{x:AV}(hh:∀ id,id∈x.b4->h' id=h id):x.d h'=x.d h:=by
 cases x with
 | r sz id off len=>simp only[AV.d,hh id (by simp[AV.b4])]
 | b d id g p=>simp only[AV.d,hh id (by simp[AV.b4])]
 | _=>rfl
theorem yw{h h':Nat->aX}:∀ {xs:List AV},(∀ id,id∈AV.bU xs->h' id=h id)->AV.ds h' xs=AV.ds h xs
 | [],_=>rfl
 | x::xs,hh=>by
  simp only[AV.ds];rw[IF (x:=x) λid bp=>hh id (by simp[AV.bU,bp]),yw λid bp=>hh id (by simp[AV.bU,bp])]
theorem UP{h h':Nat->aX}{x:AV}(hh:∀ id,id∈x.refs->h' id=h id):AV.ds h' x.cells=AV.ds h x.cells:=by
 refine yw λid bp=>hh id ?_
 cases x with
 | a cs=>exact bp
 | _=>simpa[AV.cells,AV.bU,AV.refs]using bp
theorem QQb{h h':Nat->aX}{sz:Nat}{x:AV}(hh:∀ id,id∈x.refs->h' id=h id):x.fP h' sz=x.fP h sz:=by
 cases x with
 | r bt id off len=>simp only[AV.fP,hh id (by simp[AV.refs,AV.b4])]
 | b d id g p=>cases d <;> first | rfl | simp only[AV.fP,hh id (by simp[AV.refs,AV.b4])]
 | c d=>cases d <;> rfl
 | _=>rfl
theorem UQ{h h':Nat->aX}{x:AV}(hh:∀ id,id∈x.refs++x.cp->h' id=h id):x.arg h'=x.arg h:=by
 cases x with
 | r sz id off len=>simp only[AV.arg];rw[IF λi hi=>hh i (by simp[AV.refs];exact .inl hi)]
 | b d id g p=>simp only[AV.arg];rw[IF λi hi=>hh i (by simp[AV.refs];exact .inl hi)]
 | a cs=>simp only[AV.arg];rw[yw λi hi=>hh i (by simp[AV.refs];exact .inl hi)]
 | p id i j =>
  have h1:=hh id (by simp[AV.cp])
  match i,j with
  | 0,0 =>
   simp only[AV.arg,h1]
   cases h id with
   | box cs =>
    simp only;by_cases hn:AV.bU cs=[]
    ·rw[if_pos hn,if_pos hn,yw (h:=h) (h':=h') (xs:=cs) λi hi=>by rw[hn]at hi;cases hi]
    ·rw[if_neg hn,if_neg hn]
   | _=>rfl
  | 0,j+1=>rfl
  | i+1,_=>rfl
 | _=>rfl
theorem UR{h h':Nat->aX}:∀ {xs:List AV},(∀ id,id∈xs.flatMap (λx=>x.refs++x.cp)->h' id=h id)->AV.iK h' xs=AV.iK h xs
 | [],_=>rfl
 | x::xs,hh=>by
  simp only[AV.iK];rw[UQ (x:=x) λid bp=>hh id (by simp only[List.flatMap_cons,List.mem_append]at bp ⊢;exact .inl bp),
   UR λid bp=>hh id (by simp only[List.flatMap_cons,List.mem_append]at bp ⊢;exact .inr bp)]
theorem QVE{h h':Nat->aX}{x:AV}(hh:∀ id,id∈x.refs++x.cp->h' id=h id):x.iL h'=x.iL h:=by
 cases x with
 | r sz id off len=>simp only[AV.iL];rw[hh id (by simp[AV.refs,AV.b4])]
 | _=>rfl
theorem US{h h':Nat->aX}{x:AV}(hh:∀ id,id∈x.b4->h' id=h id):x.dX h'=x.dX h:=by
 cases x with
 | r sz id off len=>simp only[AV.dX];rw[hh id (by simp[AV.b4])]
 | c d=>cases d <;> rfl
 | _=>rfl
theorem UT{h h':Nat->aX}:∀ {xs:List AV},(∀ id,id∈AV.bU xs->h' id=h id)->AV.fQ h' xs=AV.fQ h xs
 | [],_=>rfl
 | x::xs,hh=>by
  simp only[AV.fQ];rw[US (x:=x) λid bp=>hh id (by simp[AV.bU,bp]),UT λid bp=>hh id (by simp[AV.bU,bp])]
theorem Q1r{h h':Nat->aX}{m:AM}{x:AV}(hh:∀ id,id∈x.refs++x.cp->h' id=h id):x.gI h' m=x.gI h m:=by
 cases m with
 | d=>exact UQ hh
 | o=>exact QVE hh
 | p =>
  cases x with
  | r sz id off len=>simp only[AV.gI,AV.iZ];exact US λi hi=>hh i (by simp[AV.refs];exact .inl hi)
  | a cs=>simp only[AV.gI,AV.iZ];rw[UT λi hi=>hh i (by simp[AV.refs];exact .inl hi)]
  | _=>rfl
theorem UU{h h':Nat->aX}:∀ {ms:List AM} {xs:List AV},(∀ id,id∈xs.flatMap (λx=>x.refs++x.cp)->h' id=h id)->AV.d8 h' ms xs=AV.d8 h ms xs
 | [],xs,hh=>UR hh
 | _::_,[],_=>rfl
 | m::ms,x::xs,hh=>by
  simp only[AV.d8];rw[Q1r (x:=x) λid bp=>hh id (by simp only[List.flatMap_cons,List.mem_append]at bp ⊢;exact .inl bp),
   UU (ms:=ms) λid bp=>hh id (by simp only[List.flatMap_cons,List.mem_append]at bp ⊢;exact .inr bp)]
theorem QLR{h h':Nat->aX}{id g i j:Nat}{x:AV}(hh:∀ id,id∈x.b4->h' id=h id):x.eY h' id g i j=x.eY h id g i j:=by
 cases x with
 | r sz cn off len=>simp only[AV.eY,hh cn (by simp[AV.b4])]
 | c d=>cases d <;> rfl
 | _=>rfl
theorem IG{h h':Nat->aX}{id g i:Nat}:∀ {xs:List AV} {j:Nat},(∀ id,id∈AV.bU xs->h' id=h id)->AV.dM h' id g i j xs=AV.dM h id g i j xs
 | [],_,_=>rfl
 | x::xs,j,hh=>by
  simp only[AV.dM];rw[QLR (x:=x) λid bp=>hh id (by simp[AV.bU,bp]),IG λid bp=>hh id (by simp[AV.bU,bp])]
theorem UW{x:AV}{id:Nat}(h:id∈AV.bU x.cells):id∈x.refs:=by
 cases x with
 | a cs=>exact h
 | _=>simpa[AV.cells,AV.bU,AV.refs]using h
theorem UX{t t':Nat->AV}{h h':Nat->aX}{b:Nat}:∀ {ps:List bc} {i:Nat},(∀ s,s∈ps.flatMap bc.bR->t' s=t s)->(∀ id,id∈ps.flatMap (λx=>(bc.ev t x).refs)->h' id=h id)->iq h' b (bc.ev t') i ps=iq h b (bc.ev t) i ps
 | [],_,_,_=>rfl
 | x::ps,i,hs,hh=>by
  simp only[List.flatMap_cons,List.mem_append]at hs hh;simp only[iq];rw[Yt (y:=x) λs h=>hs s (.inl h),IG (xs:=(bc.ev t x).cells) λid h=>hh id (.inl (UW h)),UX (λs h=>hs s (.inr h)) (λid h=>hh id (.inr h))]
theorem QW2{h h':Nat->aX}{xs:List (List D)}{x:AV}(hh:∀ id,id∈x.refs->h' id=h id):x.jy h' xs=x.jy h xs:=by
 cases x with
 | r sz cn off len=>simp only[AV.jy,hh cn (by simp[AV.refs,AV.b4])]
 | _=>rfl
theorem Q2O{h h':Nat->aX}{xs:List (List D)}{id len:Nat}{x:AV}(hh:∀ id,id∈x.refs->h' id=h id):x.dT h' id len xs=x.dT h id len xs:=by
 cases x with
 | r sz cn off len=>simp only[AV.dT,hh cn (by simp[AV.refs,AV.b4])]
 | _=>rfl
theorem QNL{h h':Nat->aX}{x:AV}(hh:∀ id,id∈x.refs->h' id=h id):x.dy h'=x.dy h:=by
 cases x with
 | r sz cn off len=>simp only[AV.dy,hh cn (by simp[AV.refs,AV.b4])]
 | _=>rfl
theorem UY{h h':Nat->aX}:∀ {ids:List Nat} {l:List aX},(∀ id,id∈ids->h' id=h id)->Y0 h' ids l=Y0 h ids l
 | [],l,_=>by cases l <;> rfl
 | id::ids,[],_=>rfl
 | id::ids,x::l,hh=>by
  simp only[Y0];rw[hh id (by simp),UY λi hi=>hh i (by simp[hi])]
theorem IH{x:AV}:∀ {ms:List AM} {xs:List AV},x∈cT ms xs->x∈xs
 | [],xs,h=>by simp[cT]at h
 | _::_,[],h=>by simp[cT]at h
 | m::ms,y::xs,h=>by
  simp only[cT]at h
  split at h
  ·rcases List.mem_cons.1 h with h | h
   ·exact List.mem_cons.2 (.inl h)
   ·exact List.mem_cons_of_mem _ (IH h)
  ·exact List.mem_cons_of_mem _ (IH h)
theorem II{x:AV}:∀ {ms:List AM} {xs:List AV},x∈cy ms xs->x∈xs
 | [],xs,h=>h
 | _::_,[],h=>by simp[cy]at h
 | m::ms,y::xs,h=>by
  simp only[cy]at h
  split at h
  ·exact List.mem_cons_of_mem _ (II h)
  ·rcases List.mem_cons.1 h with h | h
   ·exact List.mem_cons.2 (.inl h)
   ·exact List.mem_cons_of_mem _ (II h)
theorem UZ{t t':Nat->AV}:∀ {ps:List (Nat × Nat × bc)} {cs:List AV},(∀ s,s∈ps.flatMap (λx=>x.2.2.bR)->t' s=t s)->nR (bc.ev t') cs ps=nR (bc.ev t) cs ps
 | [],_,_=>rfl
 | (off,n,x)::ps,cs,h=>by
  simp only[List.flatMap_cons,List.mem_append]at h;simp only[nR];rw[Yt (y:=x) λs hs=>h s (.inl hs)]
  split
  ·exact UZ λs hs=>h s (.inr hs)
  ·rfl
theorem U0{t t':Nat->AV}{h h':Nat->aX}{sz:Nat}:∀ {ps:List bc},(∀ s,s∈ps.flatMap bc.bR->t' s=t s)->(∀ id,id∈ps.flatMap (λx=>(bc.ev t x).refs)->h' id=h id)->elems h' (bc.ev t') sz ps=elems h (bc.ev t) sz ps
 | [],_,_=>rfl
 | x::ps,hs,hh=>by
  simp only[List.flatMap_cons,List.mem_append]at hs hh;simp only[elems];rw[Yt (y:=x) λs h=>hs s (.inl h),UP (x:=bc.ev t x) λid h=>hh id (.inl h),U0 (λs h=>hs s (.inr h)) (λid h=>hh id (.inr h))]
theorem yx{t t':Nat->AV}{β:Type}(g:AV->List β):∀ {ps:List bc},(∀ s,s∈ps.flatMap bc.bR->t' s=t s)->(ps.flatMap λx=>g (bc.ev t' x))=ps.flatMap λx=>g (bc.ev t x)
 | [],_=>rfl
 | x::ps,hs=>by
  simp only[List.flatMap_cons,List.mem_append]at hs ⊢;rw[Yt (y:=x) λs h=>hs s (.inl h),yx g λs h=>hs s (.inr h)]
theorem Ct{h h':Nat->aX}:∀ {ids:List Nat},(∀ id,id∈ids->h' id=h id)->fu h' ids=fu h ids
 | [],_=>rfl
 | id::ids,hh=>by
  simp only[fu];rw[hh id (by simp),Ct λi hi=>hh i (by simp[hi])]
theorem U1{t t':Nat->AV}{m:Int}{lo:Option bc}(h:∀ s,s∈(match lo with | some l=>l.bR | none=>[])->t' s=t s):YY (bc.ev t') m lo=YY (bc.ev t) m lo:=by
 cases lo with
 | none=>rfl
 | some l=>simp only[YY];rw[Yt h]
theorem U2{Γ:eR}{t t':Nat->AV}{h h':Nat->aX}{b:Nat}{op:eG}(ht:∀ s,s∈op.bR->t' s=t s)(hh:∀ id,id∈acc (bc.ev t) op->h' id=h id) :
  QD Γ (bc.ev t') h' b op=QD Γ (bc.ev t) h b op/\acc (bc.ev t') op=acc (bc.ev t) op:=by
 cases op with
 | eY x | not x | neg x | ext x i | conv k x | lY x off n agg =>
  have e:=Yt (y:=x) (t:=t) (t':=t') (λs hs=>ht s (by simpa[eG.bR]using hs));simp only[QD,acc,e,and_self]
 | box e0 x n =>
  have e:=Yt (y:=x) (t:=t) (t':=t') (λs hs=>ht s (by simpa[eG.bR]using hs));simp only[QD,acc,e,and_self]
 | new e zs=>exact⟨rfl,rfl⟩
 | pick c x y =>
  have e1:=Yt (y:=c) (t:=t) (t':=t') (λs hs=>ht s (by simp[eG.bR,hs]));have e2:=Yt (y:=x) (t:=t) (t':=t') (λs hs=>ht s (by simp[eG.bR,hs]));have e3:=Yt (y:=y) (t:=t) (t':=t') (λs hs=>ht s (by simp[eG.bR,hs]));simp only[QD,acc,e1,e2,e3,and_self]
 | bin op x y | im n neg x y | j1 neg x y | mm mx x y =>
  have e2:=Yt (y:=x) (t:=t) (t':=t') (λs hs=>ht s (by simp[eG.bR,hs]));have e3:=Yt (y:=y) (t:=t) (t':=t') (λs hs=>ht s (by simp[eG.bR,hs]));simp only[QD,acc,e2,e3,and_self]
 | load x n agg | lj x off | gU x =>
  have e:=Yt (y:=x) (t:=t) (t':=t') (λs hs=>ht s (by simpa[eG.bR]using hs));simp only[QD,acc,e]at hh ⊢
  cases hx:bc.ev t x with
  | p id i j =>
   rw[hx]at hh;simp only[hh id (by simp),and_self]
  | bq cs j id g p i =>
   rw[hx]at hh;simp only[hh id (by simp),and_self]
  | _=>first | exact⟨rfl,rfl⟩ | exact⟨rfl,trivial⟩
 | store x v n =>
  have e2:=Yt (y:=x) (t:=t) (t':=t') (λs hs=>ht s (by simp[eG.bR,hs]));have e3:=Yt (y:=v) (t:=t) (t':=t') (λs hs=>ht s (by simp[eG.bR,hs]));simp only[QD,acc,e2,e3]at hh ⊢;have hr:∀ id,id∈(bc.ev t v).refs->h' id=h id:=λid bp=>hh id (List.mem_append.2 (.inr bp));rw[UP hr,Ct hr]
  cases hx:bc.ev t x with
  | p id i j =>
   rw[hx]at hh;have hm:∀ g,AV.dM h' id g i j (bc.ev t v).cells=AV.dM h id g i j (bc.ev t v).cells:=λg=>IG λk hk=>hr k (UW hk);simp only[hh id (by simp),hm,and_self]
  | _=>first | exact⟨rfl,rfl⟩ | exact⟨rfl,trivial⟩
 | j9 x i sz =>
  have e2:=Yt (y:=x) (t:=t) (t':=t') (λs hs=>ht s (by simp[eG.bR,hs]));have e3:=Yt (y:=i) (t:=t) (t':=t') (λs hs=>ht s (by simp[eG.bR,hs]));simp only[QD,acc,e2,e3]at hh ⊢
  cases hx:bc.ev t x with
  | r bt id off len =>
   rw[hx]at hh;simp only[hh id (by simp[AV.refs,AV.b4]),and_self]
  | b d id g p =>
   rw[hx]at hh
   cases d with
   | v=>first | exact⟨rfl,rfl⟩ | exact⟨rfl,trivial⟩
   | sl=>simp only[hh id (by simp[AV.refs,AV.b4]),and_self]
  | c d=>cases d <;> first | exact⟨rfl,rfl⟩ | exact⟨rfl,trivial⟩
  | _=>first | exact⟨rfl,rfl⟩ | exact⟨rfl,trivial⟩
 | len x =>
  have e:=Yt (y:=x) (t:=t) (t':=t') (λs hs=>ht s (by simpa[eG.bR]using hs));simp only[QD,acc,e]at hh ⊢
  cases hx:bc.ev t x with
  | r bt id off len =>
   rw[hx]at hh;simp only[hh id (by simp[AV.refs,AV.b4]),and_self]
  | b d id g p =>
   rw[hx]at hh
   cases d with
   | v=>first | exact⟨rfl,rfl⟩ | exact⟨rfl,trivial⟩
   | sl=>simp only[hh id (by simp[AV.refs,AV.b4]),and_self]
  | c d=>cases d <;> first | exact⟨rfl,rfl⟩ | exact⟨rfl,trivial⟩
  | _=>first | exact⟨rfl,rfl⟩ | exact⟨rfl,trivial⟩
 | fO x lo hi sz =>
  have e2:=Yt (y:=x) (t:=t) (t':=t') (λs hs=>ht s (by simp[eG.bR,hs]));have e3:∀ m,YY (bc.ev t') m lo=YY (bc.ev t) m lo:=λm=>U1 (λs hs=>ht s (by simp only[eG.bR,List.mem_append];exact .inl (.inr hs)));have e4:∀ m,YY (bc.ev t') m hi=YY (bc.ev t) m hi:=λm=>U1 (λs hs=>ht s (by simp only[eG.bR,List.mem_append];exact .inr hs));simp only[QD,acc,e2,e3,e4]at hh ⊢
  cases hx:bc.ev t x with
  | r bt id off len =>
   rw[hx]at hh;simp only[hh id (by simp[AV.refs,AV.b4]),and_self]
  | c d=>cases d <;> first | exact⟨rfl,rfl⟩ | exact⟨rfl,trivial⟩
  | _=>first | exact⟨rfl,rfl⟩ | exact⟨rfl,trivial⟩
 | mk e0 sz zs n =>
  have e:=Yt (y:=n) (t:=t) (t':=t') (λs hs=>ht s (by simpa[eG.bR]using hs));simp only[QD,acc,e]at hh ⊢;rw[yw (xs:=zs) (h:=h) (h':=h') λid bp=>hh id bp]
  first | exact⟨rfl,rfl⟩ | exact⟨rfl,trivial⟩
 | build zs ps =>
  simp only[QD,acc];rw[UZ (ps:=ps) λs hs=>ht s (by simpa[eG.bR]using hs)]
  first | exact⟨rfl,rfl⟩ | exact⟨rfl,trivial⟩
 | bO e0 sz ps =>
  have hs:∀ s,s∈ps.flatMap bc.bR->t' s=t s:=λs hs=>ht s (by simpa[eG.bR]using hs);simp only[acc]at hh;simp only[QD,acc];rw[U0 hs hh,yx AV.refs hs,yx AV.dx hs,Ct hh,UX hs hh]
  first | exact⟨rfl,rfl⟩ | exact⟨rfl,trivial⟩
 | app s x e0 sz =>
  have e2:=Yt (y:=s) (t:=t) (t':=t') (λs hs=>ht s (by simp[eG.bR,hs]));have e3:=Yt (y:=x) (t:=t) (t':=t') (λs hs=>ht s (by simp[eG.bR,hs]));simp only[QD,acc,e2,e3]at hh ⊢;have vv:∀ id,id∈(bc.ev t x).refs->h' id=h id:=λid bp=>hh id (List.mem_append.2 (.inr bp));rw[QQb (x:=bc.ev t x) vv,QNL vv];simp only[QW2 vv,Q2O vv]
  cases hx:bc.ev t s with
  | r bt id off len =>
   rw[hx]at hh;have h1:=hh id (by simp[AV.refs,AV.b4])
   cases off with
   | zero=>simp only[h1,and_self]
   | succ k=>first | exact⟨rfl,rfl⟩ | exact⟨rfl,trivial⟩
  | c d=>cases d <;> first | exact⟨rfl,rfl⟩ | exact⟨rfl,trivial⟩
  | _=>first | exact⟨rfl,rfl⟩ | exact⟨rfl,trivial⟩
 | call f args =>
  have hs:∀ s,s∈args.flatMap bc.bR->t' s=t s:=λs hs=>ht s (by simpa[eG.bR]using hs);have hm:args.map (bc.ev t')=args.map (bc.ev t):=List.map_congr_left λx hx=>Yt λs h=>hs s (List.mem_flatMap.2 ⟨x,hx,h⟩);simp only[acc]at hh;have ha:AV.d8 h' (Γ.md f) (args.map (bc.ev t))=AV.d8 h (Γ.md f) (args.map (bc.ev t)):=UU λid bp=>by
   rw[List.flatMap_map]at bp;obtain⟨x,hx,bp⟩:=List.mem_flatMap.1 bp;refine hh id ?_
   rcases List.mem_append.1 bp with bp | bp
   ·exact List.mem_append.2 (.inl (List.mem_flatMap.2 ⟨x,hx,bp⟩))
   ·exact List.mem_append.2 (.inr (List.mem_flatMap.2 ⟨x,hx,bp⟩))
  have eN:∀ x,x∈args.map (bc.ev t)->∀ id,id∈x.refs->h' id=h id:=λx hx id bp=>by
   obtain⟨y,hy,rfl⟩:=List.mem_map.1 hx;exact hh id (List.mem_append.2 (.inl (List.mem_flatMap.2 ⟨y,hy,bp⟩)))
  simp only[QD,acc];rw[hm,yx AV.cp hs,yx AV.refs hs];refine⟨?_,rfl⟩;generalize hX:args.map (bc.ev t)=X at *
  split
  ·rename_i id g i j r hn;obtain⟨iy,d,_,rfl,_⟩:=UJ hn;unfold xE;rw[eN _ (List.mem_cons_self) id (by simp[AV.refs,AV.b4])]
  ·unfold xF;rw[ha,Ct (h:=h) (h':=h') λid bp=>(by
    obtain⟨x,hx,bp⟩:=List.mem_flatMap.1 bp;exact eN x (II hx) id bp)]
   have hhd:∀ l,Y0 h' ((cT (Γ.md f) X).flatMap AV.refs) l=Y0 h ((cT (Γ.md f) X).flatMap AV.refs) l:=λl=>UY λid bp=>by
    obtain⟨x,hx,bp⟩:=List.mem_flatMap.1 bp;exact eN x (IH hx) id bp
   simp only[hhd]
end Go.Proofs.YtdplaepmjogjjaaGreat.Am
namespace Go.Proofs.YtdplaepmjogjjaaGreat.Am
open Go Go.RowKit
theorem vw:∀(l:List (Nat × aX))(h:Nat->aX)(i:Nat),i∉keys l->bA h l i=h i
 | [],_,_,_=>rfl
 | (k,x)::l,h,i,hi=>by
  simp only[keys,List.map_cons,List.mem_cons,not_or]at hi;simp only[bA];rw[vw l _ i hi.2,QK _ _ _ _ hi.1]
theorem IJ:∀(l:List (Nat × aX))(g h:Nat->aX)(i:Nat),(i∈keys l\/g i=h i)->bA g l i=bA h l i
 | [],g,h,i,hi=>by
  rcases hi with hi | hi
  ·simp[keys]at hi
  ·exact hi
 | (k,x)::l,g,h,i,hi=>by
  simp only[bA];refine IJ l _ _ i ?_;by_cases hk:i=k
  ·subst hk;right;rw[QQ,QQ]
  ·rcases hi with hi | hi
   ·simp only[keys,List.map_cons,List.mem_cons]at hi
    rcases hi with hi | hi
    ·exact absurd hi hk
    ·exact .inl hi
   ·right;rw[QK _ _ _ _ hk,QK _ _ _ _ hk];exact hi
theorem Q1j{l m:List (Nat × aX)}(HJ:∀ i,i∈keys l->i∉keys m)(h:Nat->aX):bA (bA h l) m=bA (bA h m) l:=by
 funext i
 by_cases h1:i∈keys l
 ·rw[vw m _ i (HJ i h1),IJ l (bA h m) h i (.inl h1)]
 ·rw[vw l (bA h m) i h1];exact IJ m _ _ i (.inr (vw l h i h1))
theorem IK{Γ:eR}{o:AO}{σ σ':St}{a w:List Nat}(h:ZN Γ o σ=some (σ',a,w)) :
  ∃ v bl,σ'=⟨cY σ.t o.dst v,bA σ.h bl,σ.nx⟩/\w=keys bl/\∀(t':Nat->AV)(h':Nat->aX),(∀ s,s∈o.reads->t' s=σ.t s)->(∀ id,id∈a->h' id=σ.h id)->
   ZN Γ o ⟨t',h',σ.nx⟩=some (⟨cY t' o.dst v,bA h' bl,σ.nx⟩,a,w):=by
 unfold ZN at h
 split at h
 ·rename_i hg
  split at h
  rotate_left
  ·cases h
  rename_i e he
  cases h;refine⟨e.val,e.gH,rfl,rfl,λt' h' ht hh=>?_⟩;obtain⟨d1,d2⟩:=U2 (Γ:=Γ) (t:=σ.t) (t':=t') (h:=σ.h) (h':=h') (b:=σ.nx+o.off) (op:=o.op) (λs hs=>ht s (List.mem_append.2 (.inl hs))) hh;unfold ZN;simp only[hg,d1,d2,he];rfl
 ·rename_i s wt hg;have hs:s∈o.reads:=by unfold AO.reads;rw[hg];simp
  split at h
  rotate_left
  ·rename_i hc
   cases h;refine⟨.t [],[],rfl,rfl,λt' h' ht hh=>?_⟩;unfold ZN;simp only[hg,ht s hs,hc];rfl
  ·cases h
  rename_i c hc
  split at h
  ·rename_i j5
   split at h
   rotate_left
   ·cases h
   rename_i e he
   cases h;refine⟨e.val,e.gH,rfl,rfl,λt' h' ht hh=>?_⟩;obtain⟨d1,d2⟩:=U2 (Γ:=Γ) (t:=σ.t) (t':=t') (h:=σ.h) (h':=h') (b:=σ.nx+o.off) (op:=o.op) (λs hs=>ht s (List.mem_append.2 (.inl hs))) hh;unfold ZN;simp only[hg,ht s hs,hc,j5,if_true,d1,d2,he];rfl
  ·rename_i j5
   cases h;refine⟨.t [],[],rfl,rfl,λt' h' ht hh=>?_⟩;unfold ZN;simp only[hg,ht s hs,hc,if_neg j5];rfl
theorem U3{t:Nat->AV}{d:Option Nat}{v:AV}{s:Nat}(h:∀ x,d=some x->s≠x):cY t d v s=t s:=by
 cases d with
 | none=>rfl
 | some x=>exact QK _ _ _ _ (h x rfl)
theorem U4{l m:List Nat}(h:mu l m=true):∀ x,x∈l->x∉m:=by
 intro x hx hm;have:=List.all_eq_true.1 h x hx;simp[hm]at this
theorem swap{Γ:eR}{p o:AO}{σ σp σ2:St}{ap wp ao wo:List Nat}(jL:p.free o=true)(h1:ZN Γ p σ=some (σp,ap,wp))(h2:ZN Γ o σp=some (σ2,ao,wo))
  (hap:mu wp (ao++wo)=true) (IL:mu wo ap=true):∃ σ1,ZN Γ o σ=some (σ1,ao,wo)/\ZN Γ p σ1=some (σ2,ap,wp):=by
 obtain⟨vp,lp,rfl,rfl,hp⟩:=IK h1;obtain⟨vo,lo,rfl,rfl,ho⟩:=IK h2;unfold AO.free at jL;rw[Bool.and_eq_true]at jL;obtain⟨f1,f2⟩:=jL;have hA:=U4 hap;have hB:=U4 IL;have U5:∀ d,p.dst=some d->d∉o.reads/\∀ d',o.dst=some d'->d≠d':=by
  intro d hd;rw[hd]at f1;simp only[Bool.and_eq_true,Bool.not_eq_true']at f1;refine⟨by simpa using f1.1,λd' dr=>?_⟩;have:=f1.2;rw[dr]at this;simpa using this
 have yu:∀ d,o.dst=some d->d∉p.reads:=by
  intro d hd;rw[hd]at f2;simpa using f2
 have s1:=ho σ.t σ.h (λs hs=>(U3 λx hx e=>(U5 x hx).1 (e ▸ hs)).symm) (λid bp=>(vw lp σ.h id (λhk=>hA id hk (List.mem_append.2 (.inl bp)))).symm);refine⟨_,s1,?_⟩;have s2:=hp (cY σ.t o.dst vo) (bA σ.h lo) (λs hs=>U3 λx hx e=>yu x hx (e ▸ hs)) (λid bp=>vw lo σ.h id (λhk=>hB id hk bp));rw[s2];congr 2
 ·congr 1
  ·cases IM:p.dst with
   | none=>cases o.dst <;> rfl
   | some d =>
    cases IP:o.dst with
    | none=>rfl
    | some d' =>
     have dk:=(U5 d IM).2 d' IP;funext s
     simp only[cY,bN];by_cases e1:s=d
     ·by_cases e2:s=d'
      ·exact absurd (e1.symm.trans e2) dk
      ·rw[if_pos e1,if_neg e2,if_pos e1]
     ·by_cases e2:s=d'
      ·rw[if_neg e1,if_pos e2,if_pos e2]
      ·rw[if_neg e1,if_neg e2,if_neg e2,if_neg e1]
  ·exact Q1j (λi hi hk=>hA i hk (List.mem_append.2 (.inr hi))) σ.h
theorem Sat.nx{C:Ctx}{U:Nat->Prop}{t:Nat->AV}{h:Nat->aX}{n m:Nat}{a:Act}{w:World}{ι:Io}(S:Sat C U ⟨t,h,n⟩ a w ι):Sat C U ⟨t,h,m⟩ a w ι :=
 ⟨S.dR,S.bz,S.size,S.defers,S.fH,S.inj,S.eL,S.fresh,S.live,S.cp,S.hand,S.dA⟩
theorem Sat.td{C:Ctx}{U U':Nat->Prop}{σ:St}{a:Act}{w:World}{ι:Io}(S:Sat C U σ a w ι)(h:∀ i,U' i->U i):Sat C U' σ a w ι :=
 { S with fresh:=λi hi=>S.fresh i (h i hi) }
theorem IQ{P:Program}{N:Nat}{ops:Array Oper}{o:Oper}{i:Nat}{ao:AO}(h:u9 P N ops o i=some ao) :
  ∃ op gd,xG P o=some op/\u7 ops o.guard=some gd/\ao=⟨o.dst,op,gd,16*i⟩/\(∀ d,o.dst=some d->d<N)/\∀ s b,gd=some (s,b)->s<N:=by
 unfold u9 at h;generalize h1:xG P o=x at h;generalize h2:u7 ops o.guard=y at h
 cases x with
 | none=>cases y <;> cases h
 | some op =>
  cases y with
  | none=>cases h
  | some gd =>
   simp only at h
   split at h
   rotate_left
   ·cases h
   rename_i fU;have h:=(Option.some.inj h).symm;unfold xH at fU;rw[Bool.and_eq_true]at fU;obtain⟨U6,jr⟩:=fU;refine⟨op,gd,rfl,rfl,h,λd hd=>?_,λs b hs=>?_⟩
   ·rw[hd]at U6;simpa using U6
   ·rw[hs]at jr;simpa using jr
section
variable {C:Ctx} {U U':Nat->Prop} {σ σ':St} {a:Act} {w:World} {Q:Exit->Act->World->Prop} {Γ:eR} {ops:Array Oper}
theorem U7(hΓ:oc C.P Γ)(S:cJ C U σ a w){i:Nat}{o:Oper}{ao:AO}(hi:ops[i]? = some o)(hc:u9 C.P C.N ops o i=some ao)(hb:∀ k,σ.nx+16*i<=k->k<σ.nx+16*i+16->U k)
  (bW:∀ k,U' k->U k/\¬ (σ.nx+16*i<=k/\k<σ.nx+16*i+16)) {ac wr:List Nat} (hs:ZN Γ ao σ=some (σ',ac,wr)) :
  wpOp C.P ops Q i (λa' w'=>cJ C U' σ' a' w') a w:=by
 obtain⟨op,gd,Cu,kJ,rfl,hd,jr⟩:=IQ hc;obtain⟨ι,S⟩:=S;have qP:Sat C U' ⟨cY σ.t o.dst (.t []),σ.h,σ.nx⟩ (a.put o.dst undef) w ι:=by
  have S':=S.td (U':=U') λk hk=>(bW k hk).1
  cases hx:o.dst with
  | none=>simpa[cY,Act.put]using S'
  | some d=>simpa[cY]using S'.put d (hd d hx) undef (.t []) (.t #[] [] rfl (by simp))
 unfold wpOp;rw[hi];simp only;unfold ZN at hs
 split at hs
 ·rename_i j3;simp only at j3;subst j3;have kT:o.guard=none:=by
   cases hx:o.guard with
   | none=>rfl
   | some x =>
    obtain⟨j,bb⟩:=x;rw[hx]at kJ;simp only[u7]at kJ
    split at kJ <;> cases kJ
  have hw:Region.wanted o (yielded ops a.tmps)=true:=by simp[Region.wanted,kT]
  rw[if_pos hw]
  split at hs
  rotate_left
  ·cases hs
  rename_i e he
  cases hs;exact .inl (UO hΓ S hd hb bW Cu he)
 ·rename_i s wt qQ;simp only at qQ;subst qQ;obtain⟨j,d,IU,U8⟩:∃ j d,o.guard=some (j,wt)/\(ops[j]?).bind (·.dst)=some s:=by
   cases hx:o.guard with
   | none=>rw[hx]at kJ;simp[u7]at kJ
   | some x =>
    obtain⟨j,bb⟩:=x;rw[hx]at kJ;simp only[u7]at kJ
    split at kJ
    ·rename_i s' mS
     cases kJ;exact⟨j,0,rfl,mS⟩
    ·cases kJ
  have U9:s<C.N:=jr s wt rfl
  split at hs
  rotate_left
  ·rename_i qR
   cases hs;have iA:a.tmps.getD s undef=undef:=by
    have h1:=S.bz s;rw[qR]at h1
    cases hq:a.tmps.getD s undef with
    | tuple vs =>
     rw[hq]at h1
     cases h1 with
     | t vs _ hl _ =>
      have:vs = #[]:=by simpa using hl
      rw[this];rfl
    | _=>rw[hq]at h1;cases h1
   have je:yielded ops a.tmps j=none:=by
    unfold yielded;rw[U8];have h3:s<a.tmps.size:=by rw[S.size];exact U9
    rw[Array.getD_eq_getD_getElem?,Array.getElem?_eq_getElem h3]at iA;simp only[Option.bind_some,Array.getElem?_eq_getElem h3];simp only[Option.getD_some]at iA;rw[iA];rfl
   have hw:¬ Region.wanted o (yielded ops a.tmps)=true:=by simp[Region.wanted,IU,je]
   rw[if_neg hw];exact⟨ι,qP⟩
  ·cases hs
  rename_i c qR;have iA:a.tmps[s]? = some (.bool c):=by
   have h1:=S.bz s;rw[qR]at h1;have h2:=h1.int;have h3:s<a.tmps.size:=by rw[S.size];exact U9
   rw[Array.getD_eq_getD_getElem?,Array.getElem?_eq_getElem h3]at h2;rw[Array.getElem?_eq_getElem h3];simpa using h2
  have je:yielded ops a.tmps j=some c:=by
   unfold yielded;rw[U8];simp[iA]
  split at hs
  ·rename_i j5
   split at hs
   rotate_left
   ·cases hs
   rename_i e he
   cases hs;have hw:Region.wanted o (yielded ops a.tmps)=true:=by simp[Region.wanted,IU,je,j5]
   rw[if_pos hw];exact .inl (UO hΓ S hd hb bW Cu he)
  ·rename_i j5
   cases hs;have hw:¬ Region.wanted o (yielded ops a.tmps)=true:=by simp[Region.wanted,IU,je,j5]
   rw[if_neg hw];exact⟨ι,qP⟩
theorem IV{P:Program}{N:Nat}{ops:Array Oper}:∀ {l:List Oper} {i:Nat} {kv:List AO},o6 P N ops l i=some kv->kv.length=l.length/\∀(j:Nat)(o:Oper),l[j]? = some o->∃ ao,kv[j]? = some ao/\u9 P N ops o (i+j)=some ao/\ao.off=16*(i+j)
 | [],i,kv,h=>by simp[o6]at h;subst h;simp
 | o::l,i,kv,h=>by
  simp only[o6]at h
  split at h
  ·rename_i ao te h1 h2
   cases h;obtain⟨h3,h4⟩:=IV h2;refine⟨by simp[h3],λj o' hj=>?_⟩
   cases j with
   | zero =>
    simp at hj;subst hj;obtain⟨_,_,_,_,h5,_⟩:=IQ h1;exact⟨ao,rfl,h1,by rw[h5];rfl⟩
   | succ j =>
    simp at hj;obtain⟨Va,h5,h6,h7⟩:=h4 j o' hj;exact⟨Va,by simpa using h5,by rw[show i+(j+1)=i+1+j by omega];exact h6,by rw[show i+(j+1)=i+1+j by omega];exact h7⟩
  ·cases h
theorem Vb(hΓ:oc C.P Γ){K:St->Prop}:∀(l:List Oper)(i:Nat)(kv:List AO)(σ:St)(a:Act)(w:World),o6 C.P C.N ops l i=some kv->(∀ j,l[j]? = ops[i+j]?)->
  cJ C (λk=>σ.nx+16*i<=k) σ a w->ir Γ kv K σ->(∀ σ' a w,cJ C (λk=>σ.nx+16*(i+l.length)<=k) σ' a w->σ'.nx=σ.nx->K σ'->Q .normal a w)->
  wpOps C.P ops Q (List.range' i l.length) a w
 | [],i,kv,σ,a,w,hc,hl,S,hk,hQ=>by
  simp[o6]at hc;subst hc;exact hQ σ a w (by simpa using S) rfl hk
 | o::l,i,kv,σ,a,w,hc,hl,S,hk,hQ=>by
  have h0:ops[i]? = some o:=by simpa using(hl 0).symm
  simp only[o6]at hc
  split at hc
  rotate_left
  ·cases hc
  rename_i ao te h1 h2
  cases hc;have tf:ao.off=16*i:=by
   obtain⟨_,_,_,_,h5,_⟩:=IQ h1;rw[h5]
  have gq:∀ j,l[j]? = ops[i+1+j]?:=λj=>by have:=hl (j+1);simpa[Nat.add_assoc,Nat.add_comm 1 j]using this
  have go:∀ σ',(∃ ac wr,ZN Γ ao σ=some (σ',ac,wr))->ir Γ te K σ'->σ'.nx=σ.nx->wpOps C.P ops Q (List.range' i (l.length+1)) a w:=by
   rintro σ' ⟨ac,wr,hs⟩ eQ hn
   rw[List.range'_succ,wpOps_cons];refine wpOp_mono (λa' w' S'=>?_) (U7 (U':=λk=>σ.nx+16*(i+1)<=k) hΓ S h0 h1 (λk hk _=>hk) (λk hk=>⟨by omega,by omega⟩) hs);exact Vb hΓ l (i+1) te σ' a' w' h2 gq (by rw[hn];exact S') eQ (λσ2 a2 w2 S2 nV hK2=>hQ σ2 a2 w2 (by
    rw[hn]at S2;simpa[Nat.add_assoc,Nat.add_comm 1 l.length]using S2) (nV.trans hn) hK2)
  simp only[ir]at hk
  split at hk
  ·rename_i hg
   split at hk
   rotate_left
   ·exact hk.elim
   rename_i e he;exact go (σ.app ao.dst e) ⟨acc (bc.ev σ.t) ao.op,keys e.gH,by unfold ZN;simp only[hg,he]⟩ hk rfl
  ·rename_i s wt hg
   split at hk
   rotate_left
   ·rename_i qR;exact go _ ⟨[],[],by unfold ZN;simp only[hg,qR]⟩ hk rfl
   ·exact hk.elim
   rename_i c qR;by_cases j5:c=wt
   ·have hk:=hk.1 j5
    split at hk
    rotate_left
    ·exact hk.elim
    rename_i e he;exact go (σ.app ao.dst e) ⟨acc (bc.ev σ.t) ao.op,keys e.gH,by unfold ZN;simp only[hg,qR,j5,if_true,he]⟩ hk rfl
   ·exact go _ ⟨[],[],by unfold ZN;simp only[hg,qR,if_neg j5]⟩ (hk.2 j5) rfl
end
end Go.Proofs.YtdplaepmjogjjaaGreat.Am
namespace Go.Proofs.YtdplaepmjogjjaaGreat.Am
open Go Go.RowKit
def j6(Γ:eR)(l:List AO)(L:Nat->List Nat × List Nat):List Nat->St->St->Prop
 | [],σ,σ'=>σ'=σ
 | i::p,σ,σ'=>∃ ao σ1,l[i]? = some ao/\ZN Γ ao σ=some (σ1,(L i).1,(L i).2)/\j6 Γ l L p σ1 σ'
def IW(l:List AO)(L:Nat->List Nat × List Nat)(i j:Nat):Prop :=
 ∀ oi oj,l[i]? = some oi->l[j]? = some oj->oi.free oj=true/\mu (L i).2 ((L j).1++(L j).2)=true/\mu (L j).2 (L i).1=true
theorem j6.pull{Γ:eR}{l:List AO}{L:Nat->List Nat × List Nat}{j:Nat}{p2:List Nat}:∀(p1:List Nat){σ σ':St},j6 Γ l L (p1++j::p2) σ σ'->(∀ i,i∈p1->IW l L i j)->j6 Γ l L (j::(p1++p2)) σ σ'
 | [],_,_,h,_=>h
 | i::p1,σ,σ',h,hi=>by
  obtain⟨ao,σ1,h1,h2,h3⟩:=h;obtain⟨bo,σ2,h4,h5,h6⟩:=j6.pull p1 h3 λk hk=>hi k (List.mem_cons_of_mem _ hk);obtain⟨f1,f2,f3⟩:=hi i (List.mem_cons_self ..) ao bo h1 h4;obtain⟨σ1',h7,h8⟩:=swap f1 h2 h5 f2 f3;exact⟨bo,σ1',h4,h7,ao,σ2,h1,h8,h6⟩
theorem j6.mem{Γ:eR}{l:List AO}{L:Nat->List Nat × List Nat}{j:Nat}:∀(p:List Nat){σ σ':St},j6 Γ l L p σ σ'->j∈p->∃ ao s s',l[j]? = some ao/\ZN Γ ao s=some (s',(L j).1,(L j).2)
 | [],_,_,_,hj=>by cases hj
 | i::p,σ,σ',h,hj=>by
  obtain⟨ao,σ1,h1,h2,h3⟩:=h
  rcases List.mem_cons.1 hj with rfl | hj
  ·exact⟨ao,σ,σ1,h1,h2⟩
  ·exact j6.mem p h3 hj
theorem Vc{Γ:eR}{l:List AO}{L:Nat->List Nat × List Nat}:∀(kv:List AO)(i:Nat)(σ σ':St)(log:List (List Nat × List Nat)),Z0 Γ kv σ=some (σ',log)->(∀ j,kv[j]? = l[i+j]?)->(∀ j x,log[j]? = some x->L (i+j)=x)->
  j6 Γ l L (List.range' i kv.length) σ σ'/\log.length=kv.length
 | [],i,σ,σ',log,h,_,_=>by simp[Z0]at h;obtain⟨rfl,rfl⟩:=h;exact⟨rfl,rfl⟩
 | o::r,i,σ,σ',log,h,hl,hL=>by
  simp only[Z0]at h
  split at h
  rotate_left
  ·cases h
  rename_i σ1 a w hs
  split at h
  rotate_left
  ·cases h
  rename_i σ2 lg hr
  cases h;have h0:L i=(a,w):=hL 0 _ rfl;obtain⟨h1,h2⟩:=Vc r (i+1) σ1 σ' lg hr (λj=>by have:=hl (j+1);simpa[Nat.add_assoc,Nat.add_comm 1 j]using this) (λj x hx=>by
   have:=hL (j+1) x (by simpa using hx);rwa [show i+(j+1)=i+1+j by omega]at this)
  refine⟨?_,by simp[h2]⟩;rw[List.length_cons,List.range'_succ];exact⟨o,σ1,by simpa using(hl 0).symm,by rw[h0];exact hs,h1⟩
theorem Vd{ev:bc->AV}{op:eG}(h:op.cZ=false):acc ev op=[]:=by
 cases op <;> simp[eG.cZ]at h <;> rfl
theorem Ve{Γ:eR}{ev:bc->AV}{h:Nat->aX}{b:Nat}{op:eG}{e:fI}(hw:op.writes=false)(hd:QD Γ ev h b op=some e):e.gH=[]:=by
 cases op <;> simp[eG.writes]at hw <;> simp only[QD]at hd <;> (repeat' split at hd) <;> first | (cases hd;rfl) | cases hd | (have hd:=(Option.some.inj hd).symm;subst hd;rfl)
theorem Vf{op:eG}(h:op.cZ=false):op.writes=false:=by
 cases op <;> simp[eG.cZ]at h <;> rfl
theorem Vg{Γ:eR}{o:AO}{s s':St}{a w:List Nat}(h:ZN Γ o s=some (s',a,w)):(o.op.cZ=false->a=[])/\(o.op.writes=false->w=[]):=by
 unfold ZN at h
 split at h
 ·split at h
  rotate_left
  ·cases h
  rename_i e he
  cases h;exact⟨Vd,λhw=>by rw[Ve hw he];rfl⟩
 ·split at h
  rotate_left
  ·cases h;exact⟨λ_=>rfl,λ_=>rfl⟩
  ·cases h
  split at h
  ·split at h
   rotate_left
   ·cases h
   rename_i e he
   cases h;exact⟨Vd,λhw=>by rw[Ve hw he];rfl⟩
  ·cases h;exact⟨λ_=>rfl,λ_=>rfl⟩
theorem Vh(l:List Nat):mu l []=true:=by unfold mu;simp
theorem Vi{Γ:eR}{o:AO}{s s':St}{a w:List Nat}(h:ZN Γ o s=some (s',a,w)):s'.nx=s.nx:=by
 obtain⟨v,bl,rfl,_⟩:=IK h;rfl
theorem QQx{ops:Array Oper}{i j:Nat}(tg:i<j)(hj:j<ops.size)(hw:sA ops i j=false):(i,j)∈Yu ops:=by
 unfold Yu Tw;rw[List.mem_flatMap];refine⟨j,List.mem_range.2 hj,?_⟩;rw[List.mem_filterMap];unfold sA at hw;exact⟨i,List.mem_range.2 tg,by rw[hw];simp⟩
theorem QXq{Γ:eR}{l:List AO}{ops:Array Oper}{σ σ':St}{log:List (List Nat × List Nat)}(jL:Tx l (Yu ops)=true)(IX:u3 log (Hy l (Yu ops))=true)
  (hlen:log.length=l.length) (hr:j6 Γ l (λj=>(log[j]?).getD ([],[])) (List.range' 0 l.length) σ σ') {i j:Nat} (tg:i<j) (hj:j<ops.size) (n0:j<l.length) (hw:sA ops i j=false) :
  IW l (λj=>(log[j]?).getD ([],[])) i j:=by
 have hm:=QQx tg hj hw;intro oi oj hi IY;have f1:oi.free oj=true:=by
  have:=List.all_eq_true.1 jL (i,j) hm;simpa[hi,IY]using this
 obtain⟨ai,s1,s1',Vj,om⟩:=j6.mem (j:=i) _ hr (by simp;omega);obtain⟨aj,s2,s2',Vk,IZ⟩:=j6.mem (j:=j) _ hr (by simp;omega);rw[hi]at Vj;rw[IY]at Vk
 cases Vj
 cases Vk;obtain⟨q1,q2⟩:=Vg om;obtain⟨q3,q4⟩:=Vg IZ;refine⟨f1,?_⟩;by_cases eS:(i,j)∈Hy l (Yu ops)
 ·have:=List.all_eq_true.1 IX (i,j) eS;obtain⟨x,hx⟩:∃ x,log[i]? = some x:=⟨log[i]'(by omega),List.getElem?_eq_getElem (by omega)⟩
  obtain⟨y,hy⟩:∃ y,log[j]? = some y:=⟨log[j]'(by omega),List.getElem?_eq_getElem (by omega)⟩
  obtain⟨a,w⟩:=x;obtain⟨a',w'⟩:=y;simp only[hx,hy,Bool.and_eq_true]at this;simp only[hx,hy,Option.getD_some];exact this
 ·have fK:(oi.op.cZ&&oj.op.cZ&&(oi.op.writes||oj.op.writes))=false:=by
   cases hb:(oi.op.cZ&&oj.op.cZ&&(oi.op.writes||oj.op.writes)) with
   | false=>rfl
   | true=>exact absurd (List.mem_filter.2 ⟨hm,by simp only[hi,IY,hb]⟩) eS
  cases t1:oi.op.cZ with
  | false =>
   rw[q1 t1,q2 (Vf t1)];exact⟨rfl,Vh _⟩
  | true =>
   cases t2:oj.op.cZ with
   | false =>
    rw[q3 t2,q4 (Vf t2)];exact⟨Vh _,rfl⟩
   | true =>
    rw[t1,t2]at fK;simp only[Bool.and_self,Bool.true_and,Bool.or_eq_false_iff]at fK;rw[q2 fK.1,q4 fK.2];exact⟨rfl,rfl⟩
def th(nx n:Nat)(p:List Nat)(k:Nat):Prop:=nx+16*n<=k\/∃ j,j∈p/\nx+16*j<=k/\k<nx+16*j+16
theorem Vl:∀(l:List Oper)(acc:List (List Nat)),(∀(k:Nat)(x:List Nat),acc[k]? = some x->(sy l acc)[k]? = some x)/\
  ∀(j:Nat)(o:Oper),l[j]? = some o->∀ x,x∈((sy l acc)[acc.length+j]?).getD []->∃ k,k∈JZ o/\(x=k\/x∈((sy l acc)[k]?).getD [])
 | [],acc=>⟨λk x h=>h,λj o h=>by simp at h⟩
 | o::l,acc=>by
  obtain⟨h1,h2⟩:=Vl l (acc++[((JZ o).flatMap λk=>k::(acc[k]?).getD []).eraseDups]);have yy:∀(k:Nat)(x:List Nat),acc[k]? = some x->(sy (o::l) acc)[k]? = some x:=λk x hk=>h1 k x (by rw[List.getElem?_append_left (List.getElem?_eq_some_iff.1 hk).1];exact hk);refine⟨yy,λj o' hj x hx=>?_⟩
  cases j with
  | zero =>
   simp only[List.getElem?_cons_zero,Option.some.injEq]at hj;subst hj;have h3:=h1 acc.length ((JZ o).flatMap λk=>k::(acc[k]?).getD []).eraseDups (by simp);have h3:(sy (o::l) acc)[acc.length]? = some (((JZ o).flatMap λk=>k::(acc[k]?).getD []).eraseDups):=h3;rw[Nat.add_zero,h3,Option.getD_some]at hx;rw[List.mem_eraseDups,List.mem_flatMap]at hx;obtain⟨k,hk,hx⟩:=hx;refine⟨k,hk,?_⟩
   rcases List.mem_cons.1 hx with h | h
   ·exact .inl h
   ·right
    cases hq:acc[k]? with
    | none=>rw[hq]at h;cases h
    | some y=>rw[hq]at h;rw[yy k y hq];exact h
  | succ j =>
   have:=h2 j o' (by simpa using hj) x (by
    rw[List.length_append,List.length_singleton,Nat.add_assoc,Nat.add_comm 1 j];exact hx)
   exact this
theorem QJE{ops:Array Oper}{j:Nat}{o:Oper}(ho:ops[j]? = some o){x:Nat}(hx:x∈((lq ops)[j]?).getD []):∃ k,k∈JZ o/\(x=k\/x∈((lq ops)[k]?).getD []):=by
 have:=(Vl ops.toList []).2 j o (by simpa using ho) x (by simpa[lq]using hx);exact this
theorem Vm{o:Oper}{k:Nat}(h:k∈JZ o):∃ e∈o.after,Region.binds .any e=true/\e.on=k:=by
 unfold JZ at h;obtain⟨e,he,rfl⟩:=List.mem_map.1 h;obtain⟨h1,h2⟩:=List.mem_filter.1 he;exact⟨e,by simpa using h1,h2,rfl⟩
theorem QXn{ops:Array Oper}{p:List Nat}(kU:Hx ops=true)(lu:∀(j:Nat)(o:Oper),ops[j]? = some o->j∉p->∀ k,k∈JZ o->k∉p){j:Nat}{o:Oper}(ho:ops[j]? = some o)(hd:∀ k,k∈JZ o->k∉p){i:Nat}(hi:i∈p):sA ops i j=false:=by
 have key:∀(n j:Nat)(o:Oper),j<n->ops[j]? = some o->(∀ k,k∈JZ o->k∉p)->∀ x,x∈((lq ops)[j]?).getD []->x∉p:=by
  intro n
  induction n with
  | zero=>intro j o hj;omega
  | succ n ih =>
   intro j o hj ho hd x hx;obtain⟨k,hk,h⟩:=QJE ho hx
   rcases h with rfl | h
   ·exact hd _ hk
   ·have hkj:k<j:=by
     obtain⟨e,he,hb,rfl⟩:=Vm hk;have h1:=List.all_eq_true.1 kU j (List.mem_range.2 (Array.getElem?_eq_some_iff.1 ho).1);rw[ho]at h1;have h2:=Array.all_eq_true_iff_forall_mem.1 h1 e he;simpa[hb]using h2
    have Cv:k<ops.size:=by have:=(Array.getElem?_eq_some_iff.1 ho).1;omega
    exact ih k ops[k] (by omega) (Array.getElem?_eq_getElem Cv) (lu k ops[k] (Array.getElem?_eq_getElem Cv) (hd k hk)) x h
 cases hw:sA ops i j with
 | false=>rfl
 | true =>
  unfold sA at hw;exact absurd hi (key (j+1) j o (by omega) ho hd i (by simpa using hw))
section
variable {C:Ctx} {Q:Exit->Act->World->Prop} {Γ:eR} {ops:Array Oper}
theorem QQg(hΓ:oc C.P Γ){l:List AO}{L:Nat->List Nat × List Nat}{σf:St}{nx:Nat}(hc:o6 C.P C.N ops ops.toList 0=some l)(kU:Hx ops=true)
  (I0:∀ i j,i<j->j<ops.size->sA ops i j=false->IW l L i j)
  (hQ:∀ a w,cJ C (λk=>nx+16*ops.size<=k) σf a w->Q .normal a w) :
  ∀(fuel:Nat)(p:List Nat)(cQ:Array Bool)(σ:St)(a:Act)(w:World),p.length<=fuel->p.Pairwise (· < ·)->(∀ j,j∈p->j<ops.size)->(∀ j,j<ops.size->(cQ.getD j true=false↔j∈p))->
   cQ.size=ops.size->(∀(j:Nat)(o:Oper),ops[j]? = some o->j∉p->∀ k,k∈JZ o->k∉p)->σ.nx=nx->j6 Γ l L p σ σf->cJ C (th nx ops.size p) σ a w->wpAny C.P .any ops Q fuel cQ a w:=by
 have fb:∀(i:Nat)(o:Oper),ops[i]? = some o->∃ ao,l[i]? = some ao/\u9 C.P C.N ops o i=some ao:=λi o ho=>by
  obtain⟨_,h⟩:=IV hc;obtain⟨ao,h1,h2,_⟩:=h i o (by simpa using ho);exact⟨ao,h1,by simpa using h2⟩
 have kV:∀(σ:St)(a:Act)(w:World)(cQ:Array Bool),(∀ j,j<ops.size->(cQ.getD j true=false↔j∈([]:List Nat)))->σ.nx=nx->j6 Γ l L [] σ σf->cJ C (th nx ops.size []) σ a w->Region.ready .any ops cQ=[]/\Q .normal a w:=by
  intro σ a w cQ hl hn hr S;refine⟨?_,?_⟩
  ·cases hx:Region.ready .any ops cQ with
   | nil=>rfl
   | cons i r =>
    have hi:i∈Region.ready .any ops cQ:=by rw[hx];exact List.mem_cons_self ..
    obtain⟨h0,o,ho,_⟩:=mem_ready.1 hi;have:=(hl i (Array.getElem?_eq_some_iff.1 ho).1).1 h0
    cases this
  ·have hr:σf=σ:=hr;subst hr;obtain⟨ι,S⟩:=S;exact hQ a w ⟨ι,S.td λk hk=>.inl hk⟩
 intro fuel
 induction fuel with
 | zero =>
  intro p cQ σ a w hf hp aY hl b7 lu hn hr S;have:p=[]:=List.eq_nil_of_length_eq_zero (by omega);subst this;exact kV σ a w cQ hl hn hr S
 | succ fuel ih =>
  intro p cQ σ a w hf hp aY hl b7 lu hn hr S;refine⟨λh0=>?_,λi hi=>?_⟩
  ·cases p with
   | nil=>exact(kV σ a w cQ hl hn hr S).2
   | cons j p =>
    exfalso;have hj:=aY j (List.mem_cons_self ..);have Vn:j∈Region.ready .any ops cQ:=by
     refine mem_ready.2 ⟨(hl j hj).2 (List.mem_cons_self ..),ops[j],Array.getElem?_eq_getElem hj,λe he hb=>?_⟩;have h1:=List.all_eq_true.1 kU j (List.mem_range.2 hj);rw[Array.getElem?_eq_getElem hj]at h1;have h2:=Array.all_eq_true_iff_forall_mem.1 h1 e he;simp only[hb,Bool.not_true,Bool.false_or,decide_eq_true_eq]at h2;have h3:e.on∉j::p:=by
      intro hm
      rcases List.mem_cons.1 hm with h | h
      ·omega
      ·have:=List.rel_of_pairwise_cons hp h;omega
     have h4:e.on<cQ.size:=by omega
     have h5:¬ cQ.getD e.on true=false:=λh=>h3 ((hl e.on (by omega)).1 h);simp only[Array.getD,h4,dif_pos]at h5 ⊢;simpa using h5
    rw[h0]at Vn
    cases Vn
  ·obtain⟨h0,o,ho,eN⟩:=mem_ready.1 hi;have eS:i<ops.size:=(Array.getElem?_eq_some_iff.1 ho).1;have Vo:i∈p:=(hl i eS).1 h0;obtain⟨p1,p2,rfl⟩:=List.append_of_mem Vo;have Vp:=List.pairwise_append.1 hp;have yz:∀ k,k∈p1->k<i:=λk hk=>Vp.2.2 k hk i (List.mem_cons_self ..);have mT:∀ k,k∈p2->i<k:=λk hk=>List.rel_of_pairwise_cons Vp.2.1 hk;have qS:∀ k,k∈JZ o->k∉p1++i::p2:=λk hk hm=>by
    obtain⟨e,he,hb,rfl⟩:=Vm hk;have h1:=eN e he hb;have sC:=aY _ hm;have h2:=(hl e.on sC).2 hm;have h4:e.on<cQ.size:=by omega
    simp only[Array.getD,h4,dif_pos]at h1 h2;rw[h1]at h2
    cases h2
   have hr':=j6.pull p1 hr λk hk =>
    I0 k i (yz k hk) eS (QXn kU lu ho qS (List.mem_append.2 (.inl hk)))
   obtain⟨ao,σ1,h1,h2,h3⟩:=hr';obtain⟨Va,h4,h5⟩:=fb i o ho;rw[h4]at h1
   cases h1;have du:∀ k,k∈p1++p2↔k∈p1++i::p2/\k≠i:=by
    intro k;simp only[List.mem_append,List.mem_cons];constructor
    ·rintro(h | h)
     ·exact⟨.inl h,by have:=yz k h;omega⟩
     ·exact⟨.inr (.inr h),by have:=mT k h;omega⟩
    ·rintro⟨h | h | h,hk⟩
     ·exact .inl h
     ·exact absurd h hk
     ·exact .inr h
   refine wpOp_mono (λa' w' S'=>?_) (U7 (U':=th nx ops.size (p1++p2)) hΓ S ho h5 (λk k1 k2=>.inr ⟨i,Vo,by omega,by omega⟩) (λk hk=>?_) h2)
   ·refine ih (p1++p2) _ σ1 a' w' ?_ ?_ (λj hj=>aY j ((du j).1 hj).1) (λj hj=>?_) (by simpa using b7) (λj o' jw hj k hk=>?_) ((Vi h2).trans hn) h3 S'
    ·simp only[List.length_append,List.length_cons]at hf ⊢;omega
    ·exact hp.sublist (List.Sublist.append (List.Sublist.refl _) (List.sublist_cons_self ..))
    ·rw[du];by_cases vx:j=i
     ·subst vx;have:j<cQ.size:=by omega
      simp[this]
     ·rw[getD_set_ne true (Ne.symm vx),hl j hj];exact⟨λh=>⟨h,vx⟩,λh=>h.1⟩
    ·intro kI;have kI:=((du k).1 kI).1;by_cases vx:j=i
     ·subst vx;rw[ho]at jw
      cases jw;exact qS k hk kI
     ·exact lu j o' jw (λhm=>hj ((du j).2 ⟨hm,vx⟩)) k hk kI
   ·rcases hk with hk | ⟨j,hj,k1,k2⟩
    ·refine⟨.inl hk,?_⟩;omega
    ·have yA:=(du j).1 hj;refine⟨.inr ⟨j,yA.1,k1,k2⟩,?_⟩;have:=yA.2;omega
end
end Go.Proofs.YtdplaepmjogjjaaGreat.Am
namespace Go.Proofs.YtdplaepmjogjjaaGreat.Am
open Go Go.RowKit
def nS.up:nS->Exit
 | .normal=>.normal
 | .exit id=>.exit id
 | .ret=>.ret
def I1(C:Ctx)(Qa:nS->St->Prop)(Q:Exit->Act->World->Prop):Prop:=∀ e σ a w,Qa e σ->fx C σ a w->Q e.up a w
theorem QYM{p:Nat->Prop}(h:∃ n,p n):∃ n,p n/\∀ m,p m->n<=m:=by
 obtain⟨n,hn⟩:=h
 induction n using Nat.strongRecOn with
 | _ n ih =>
  by_cases hx:∃ m,m<n/\p m
  ·obtain⟨m,hm,hp⟩:=hx;exact ih m hm hp
  ·refine⟨n,hn,λm hm=>?_⟩
   rcases Nat.lt_or_ge m n with h1 | h1
   ·exact absurd ⟨m,h1,hm⟩ hx
   ·exact h1
theorem QJr{α:Type}(p:α->Nat->Prop):∃ f:α->Nat,∀ x,(∃ n,p x n)->p x (f x)/\∀ m,p x m->f x<=m:=by
 have:∀ x,∃ n,(∃ n,p x n)->p x n/\∀ m,p x m->n<=m:=by
  intro x;by_cases h:∃ n,p x n
  ·obtain⟨n,hn⟩:=QYM h;exact⟨n,λ_=>hn⟩
  ·exact⟨0,λh'=>absurd h' h⟩
 exact⟨λx=>(this x).choose,λx hx=>(this x).choose_spec hx⟩
theorem fx.dN{C:Ctx}{σ:St}{a:Act}{w:World}{n:Nat}(S:cJ C (λk=>σ.nx+n<=k) σ a w):fx C (σ.dN n) a w:=by
 obtain⟨ι,S⟩:=S;exact⟨ι,S.nx⟩
theorem Sat.drawn{C:Ctx}{U:Nat->Prop}{σ:St}{a:Act}{w:World}{ι:Io}(S:Sat C U σ a w ι)(n:Nat):Sat C U σ a { w with drawn:=n } ι:=by
 have hr:∀ id,Rest w { w with drawn:=n } ι ι id:=λid=>⟨rfl,rfl,λ_ _=>rfl,λb p hk=>⟨hk,rfl⟩⟩
 exact S.eM (Tt:=σ.nx) ⟨S.dR.os,S.dR.tape,S.dR.output,S.dR.size,S.dR.block⟩ (λb hb=>⟨hb,rfl⟩) (λid=>(hr id).il rfl) (λi cs hx=>by rw[hx];simp) (λid=>.inl ⟨rfl,hr id⟩) S.inj S.eL S.fresh S.live
  (λb id p hk=>let L:=S.dA b id p hk;⟨L.pn,L.dp,L.fr,L.lt,L.ne⟩)
theorem Vq{C:Ctx}{U:Nat->Prop}{σ:St}{a:Act}{w:World}{ι:Io}(S:Sat C U σ a w ι){x:Operand}{x':bc}{ty:TypeId}(hx:cO C.P ty x=some x'){b:Bool}(hv:x'.ev σ.t = .c (.v (.bool b))):a.eval x = .bool b:=by
 have h1:=ZL S hx;rw[hv]at h1;exact h1.int
section
variable {C:Ctx} {Γ:eR}
theorem yB(hm:C.P.follows .mixedOrders=true)(hΓ:oc C.P Γ):∀(c:Code)(ac:eU)(Qa:nS->St->Prop)(Q:Exit->Act->World->Prop)(σ:St)(a:Act)(w:World),comp C.P C.N c=some ac->
  lk Γ ac Qa σ->fx C σ a w->I1 C Qa Q->c.wp C.P Q a w:=by
 intro c
 induction c with
 | skip =>
  intro ac Qa Q σ a w hc h S hQ;simp only[comp,Option.some.injEq]at hc;subst hc;exact wp_skip (hQ .normal σ a w h S)
 | region id ops draw =>
  intro ac Qa Q σ a w hc h S hQ;simp only[comp]at hc
  split at hc
  rotate_left
  ·cases hc
  rename_i l hl;have hlen:l.length=ops.size:=by have:=(IV hl).1;simpa using this
  cases draw with
  | false =>
   simp only[Bool.false_eq_true,if_false,Option.some.injEq]at hc;subst hc;refine wp_region ?_;rw[List.range_eq_range',show ops.size=ops.toList.length by simp];refine Vb hΓ ops.toList 0 l σ a w hl (λj=>by simp) (by simpa[fx]using S) h (λσ' a' w' S' hn hk=>?_);refine hQ .normal _ a' w' hk (fx.dN ?_);rw[hn];simpa[hlen]using S'
  | true =>
   simp only[if_true]at hc
   split at hc
   rotate_left
   ·cases hc
   rename_i I2;rw[Bool.and_eq_true]at I2;have hc:=(Option.some.inj hc).symm;subst hc;simp only[lk]at h
   split at h
   rotate_left
   ·exact h.elim
   rename_i σ' log hd;obtain⟨fK,hk⟩:=h;obtain⟨hr,hll⟩:=Vc (l:=l) (L:=λj=>(log[j]?).getD ([],[])) l 0 σ σ' log hd (λj=>by simp) (λj x hx=>by simp[hx]);refine wp_region_any hm ?_;obtain⟨ι,S⟩:=S;have hn:σ'.nx=σ.nx:=by
    have:∀(p:List Nat)(s s':St),j6 Γ l (λj=>(log[j]?).getD ([],[])) p s s'->s'.nx=s.nx:=by
     intro p
     induction p with
     | nil=>intro s s' h;rw[show s'=s from h]
     | cons i p ih =>
      intro s s' h;obtain⟨ao,s1,_,h2,h3⟩:=h;exact(ih s1 s' h3).trans (Vi h2)
    exact this _ _ _ hr
   refine QQg hΓ (nx:=σ.nx) (σf:=σ') hl I2.2 (λi j tg hj hw=>QXq I2.1 fK hll hr tg hj (by omega) hw) (λa' w' S'=>?_) ops.size (List.range' 0 l.length) _ σ a _ (by simp[hlen]) ?_ (λj hj=>by simp at hj;omega) (λj hj=>by simp[hj,hlen]) (by simp) (λj o ho hj=>absurd (show j∈List.range' 0 l.length by have:=(Array.getElem?_eq_some_iff.1 ho).1;simp[hlen];omega) hj) rfl hr ⟨ι,(S.drawn _).td λk hk=>?_⟩
   ·refine hQ .normal _ a' w' hk (fx.dN ?_);rw[hn,hlen];exact S'
   ·exact List.pairwise_lt_range'
   ·show σ.nx<=k
    rcases hk with hk | ⟨j,_,hk,_⟩ <;> omega
 | seq x y yC ti =>
  intro ac Qa Q σ a w hc h S hQ;simp only[comp]at hc
  split at hc
  rotate_left
  ·cases hc
  rename_i x' y' hx hy
  cases hc;simp only[lk]at h;refine wp_seq (yC _ _ _ σ a w hx h S ?_);intro e σ' a' w' he S'
  cases e with
  | normal=>exact ti _ _ _ σ' a' w' hy he S' hQ
  | exit id=>exact hQ _ _ _ _ he S'
  | ret=>exact hQ _ _ _ _ he S'
 | cond x y z ti ihz =>
  intro ac Qa Q σ a w hc h S hQ;simp only[comp]at hc
  split at hc
  rotate_left
  ·cases hc
  rename_i x' y' z' hx hy hz
  cases hc;simp only[lk]at h
  split at h
  rotate_left
  ·exact h.elim
  rename_i t ht;obtain⟨ι,S0⟩:=S;exact wp_cond_split (Vq S0 hx ht) (λe=>ti _ _ _ σ a w hy (h.1 e) ⟨ι,S0⟩ hQ) (λe=>ihz _ _ _ σ a w hz (h.2 e) ⟨ι,S0⟩ hQ)
 | block id x ih =>
  intro ac Qa Q σ a w hc h S hQ;simp only[comp,Option.map_eq_some_iff]at hc;obtain⟨x',hx,rfl⟩:=hc;simp only[lk]at h;refine wp_block (ih _ _ _ σ a w hx h S ?_);intro e σ' a' w' he S'
  cases e with
  | normal=>exact hQ _ _ _ _ he S'
  | ret=>exact hQ _ _ _ _ he S'
  | exit cn =>
   simp only at he;show Exit.inBlock id Q (.exit cn) a' w';simp only[Exit.inBlock]
   split
   ·rename_i heq;rw[if_pos heq]at he;exact hQ .normal _ _ _ he S'
   ·rename_i heq;rw[if_neg heq]at he;exact hQ (.exit cn) _ _ _ he S'
 | loop x ih =>
  intro ac Qa Q σ a w hc h S hQ;simp only[comp,Option.map_eq_some_iff]at hc;obtain⟨x',hx,rfl⟩:=hc;simp only[lk]at h;obtain⟨I,μ,hI,mU⟩:=h;obtain⟨f,hf⟩:=QJr (λ(x:Act × World) n=>∃ σ,I σ/\fx C σ x.1 x.2/\μ σ=n);refine wp_loop (λa w=>∃ σ,I σ/\fx C σ a w) (λa w=>f (a,w)) ⟨σ,hI,S⟩ (λa w ⟨σ0,h0,S0⟩=>?_);obtain⟨⟨σ1,h1,S1,h2⟩,_⟩:=hf (a,w) ⟨_,σ0,h0,S0,rfl⟩;refine ih _ _ _ σ1 a w hx (mU σ1 h1) S1 ?_;intro e σ' a' w' he S'
  cases e with
  | normal =>
   obtain⟨h3,h4⟩:=he;refine⟨⟨σ',h3,S'⟩,?_⟩;have:=(hf (a',w') ⟨_,σ',h3,S',rfl⟩).2 _ ⟨σ',h3,S',rfl⟩;show f (a',w')<f (a,w);omega
  | exit id=>exact hQ _ _ _ _ he S'
  | ret=>exact hQ _ _ _ _ he S'
 | exit id =>
  intro ac Qa Q σ a w hc h S hQ;simp only[comp,Option.some.injEq]at hc;subst hc;exact wp_exit (hQ (.exit id) σ a w h S)
 | ret =>
  intro ac Qa Q σ a w hc h S hQ;simp only[comp,Option.some.injEq]at hc;subst hc;exact wp_ret (hQ .ret σ a w h S)
 | _=>intro ac Qa Q σ a w hc;simp[comp]at hc
end
end Go.Proofs.YtdplaepmjogjjaaGreat.Am
namespace Go.Proofs.YtdplaepmjogjjaaGreat.Am
open Go Go.RowKit
inductive bw where
 | t (s:Nat)
 | l (s n:Nat) (agg:Bool)
def Cw(P:Program):ResultVar->Option bw
 | .tmp t=>some (.t t)
 | .cell a ty=>match cK P ty,nT P ty with
  | some n,some agg=>some (.l a (if agg then n else 1) agg)
  | _,_=>none
def lE(P:Program):List ResultVar->Option (List bw)
 | []=>some []
 | x::xs=>match Cw P x,lE P xs with
  | some y,some ys=>some (y::ys)
  | _,_=>none
def Cx:eR:=⟨λ_=>[],λ_ _=>none,false⟩
def bw.get(σ:St):bw->Option AV
 | .t s=>some (σ.t s)
 | .l s n agg=>match QD Cx (bc.ev σ.t) σ.h 0 (.load (.s s) n agg) with
  | some e=>some e.val
  | none=>none
def tj(σ:St):List bw->Option (List AV)
 | []=>some []
 | x::xs=>match x.get σ,tj σ xs with
  | some y,some ys=>some (y::ys)
  | _,_=>none
def Vr:List AV->AV
 | [x]=>x
 | xs=>.t xs
def AV.fv(ids:List Nat):AV->AV
 | .r sz id off len=>if id∈ids then .r sz (ids.idxOf id) off len else .u
 | .p id i j=>if id∈ids then .p (ids.idxOf id) i j else .u
 | .c d=>.c d
 | .n sz=>.n sz
 | .q cs j=>.q cs j
 | _=>.u
def AV.jM(ids:List Nat):AV->AV
 | .a cs=>.a (cs.map (AV.fv ids))
 | x=>x.fv ids
def AV.rn(ids:List Nat):AV->AV
 | .t vs=>.t (vs.map (AV.jM ids))
 | x=>x.jM ids
def aX.rn(ids:List Nat):aX->aX
 | .box cs=>.box (cs.map (AV.fv ids))
 | x=>x
def qT(h:Nat->aX):Nat->Nat->Option (List (List AV))
 | 0,_=>some []
 | n+1,k=>match h k,qT h n (k+1) with
  | .box cs,some cL=>if cs.all oa then some (cs::cL) else none
  | _,_=>none
def pI(h:Nat->aX):Nat->Nat->Option (List aX)
 | 0,_=>some []
 | n+1,k=>match h k,pI h n (k+1) with
  | .sl e sz m es,some cL=>some (.sl e sz m es::cL)
  | .dead,some cL=>some (.dead::cL)
  | _,_=>none
def Cy(n m:Nat)(ids:List Nat)(σ:St)(v:AV):Option iS :=
 match qT σ.h n 0,pI σ.h m n with
 | some cL,some gs=>some ⟨v.rn ids,ids.map λid=>(σ.h id).rn ids,cL,true,gs⟩
 | _,_=>none
def gA:List AV->Nat->List AV
 | [],_=>[]
 | .ow _ sz _ es::r,m=>.r sz m 0 es.length::gA r (m+1)
 | x::r,m=>x::gA r m
def YG:List AV->List aX
 | []=>[]
 | .ow e sz m es::r=>.sl e sz m es::YG r
 | _::r=>YG r
def dV:List AV->Nat->Nat->List AV
 | [],_,_=>[]
 | .bx _::r,k,m=>.p k 0 0::dV r (k+1) m
 | .ow _ sz _ es::r,k,m=>.r sz m 0 es.length::dV r k (m+1)
 | .a cs::r,k,m=>.a (gA cs m)::dV r k (m+(YG cs).length)
 | x::r,k,m=>x::dV r k m
def dQ:List AV->List aX
 | []=>[]
 | .ow e sz m es::r=>.sl e sz m es::dQ r
 | .a cs::r=>YG cs++dQ r
 | _::r=>dQ r
def cV:List AV->List (List AV)
 | []=>[]
 | .bx cs::r=>cs::cV r
 | _::r=>cV r
def mc(xs:List AV):St :=
 ⟨λs=>((dV xs 0 (cV xs).length)[s]?).getD .u,λi=>match(cV xs)[i]? with | some cs=>.box cs | none=>((dQ xs)[i-(cV xs).length]?).getD .none,(cV xs).length+(dQ xs).length⟩
def nS.over:nS->Prop
 | .normal=>True
 | .ret=>True
 | .exit _=>False
theorem Vs{P:Program}{w:World}{α:Type}(f:α->Sem Value):∀(l:List α)(rest:List Value),rest.length=l.length->
  (∀(k:Nat)(v:Value)(x:α),rest[k]? = some v->l[k]? = some x->(f x).run P w = .ok v w)->(l.mapM f).run P w = .ok rest w
 | [],[],_,_=>by simp
 | [],v::rest,hl,_=>by simp at hl
 | x::l,[],hl,_=>by simp at hl
 | x::l,v::rest,hl,h=>by
  rw[List.mapM_cons,Sem.run_bind,h 0 v x rfl rfl,Result.andThen_ok,Sem.run_bind,Vs f l rest (by simpa using hl) (λk v x hk hx=>h (k+1) v x hk hx),Result.andThen_ok,Sem.run_pure]
theorem Vt{h:Nat->aX}:∀ {n k:Nat} {cL:List (List AV)},qT h n k=some cL->cL.length=n/\∀(i:Nat)(cs:List AV),cL[i]? = some cs->h (k+i) = .box cs/\cs.all oa=true
 | 0,k,cL,hx=>by simp[qT]at hx;subst hx;simp
 | n+1,k,cL,hx=>by
  simp only[qT]at hx
  split at hx
  ·rename_i cs mV h1 h2
   split at hx
   ·rename_i h3;have hx:=(Option.some.inj hx).symm;subst hx;obtain⟨h4,h5⟩:=Vt h2;refine⟨by simp[h4],λi c hi=>?_⟩
    cases i with
    | zero=>simp at hi;subst hi;exact⟨h1,h3⟩
    | succ i =>
     simp at hi;rw[show k+(i+1)=k+1+i by omega];exact h5 i c hi
   ·cases hx
  ·cases hx
theorem I3{h:Nat->aX}:∀ {n k:Nat} {cL:List aX},pI h n k=some cL->cL.length=n/\∀(i:Nat)(B:aX),cL[i]? = some B->h (k+i)=B/\(B = .dead\/∃ e sz m es,B = .sl e sz m es)
 | 0,k,cL,hx=>by simp[pI]at hx;subst hx;simp
 | n+1,k,cL,hx=>by
  simp only[pI]at hx
  split at hx
  ·rename_i e sz m es mV h1 h2
   cases hx;obtain⟨h4,h5⟩:=I3 h2;refine⟨by simp[h4],λi c hi=>?_⟩
   cases i with
   | zero=>simp at hi;subst hi;exact⟨h1,.inr ⟨_,_,_,_,rfl⟩⟩
   | succ i =>
    simp at hi;rw[show k+(i+1)=k+1+i by omega];exact h5 i c hi
  ·rename_i mV h1 h2
   cases hx;obtain⟨h4,h5⟩:=I3 h2;refine⟨by simp[h4],λi c hi=>?_⟩
   cases i with
   | zero=>simp at hi;subst hi;exact⟨h1,.inl rfl⟩
   | succ i =>
    simp at hi;rw[show k+(i+1)=k+1+i by omega];exact h5 i c hi
  ·cases hx
section
variable {w:World} {F F':Nat->Prop} {ι ι':Io} {h h':Nat->aX} {ids:List Nat}
theorem Jh{id:Nat}(bp:id∈ids):ids[ids.idxOf id]? = some id:=by
 have h1:ids.idxOf id<ids.length:=List.idxOf_lt_length_of_mem bp;rw[List.getElem?_eq_getElem h1,List.getElem_idxOf h1]
variable (hF:∀ b,F b->F' b) (hh:∀ i id,ids[i]? = some id->h' i=(h id).rn ids/\ι' i=ι id/\ι'.o i=ι.o id)
include hF hh
theorem VR.fv{v:Value}{x:AV}(hv:VR w F ι h v x):VR w F' ι' h' v (x.fv ids):=by
 cases hv with
 | u=>exact .u _
 | c v d hr=>exact .c _ _ (hr.mono λb hb=>⟨hF b hb,rfl⟩)
 | n sz=>exact .n _
 | cI v sz id off len h1 hd =>
  simp only[AV.fv]
  split
  ·rename_i hm;exact .cI _ _ _ _ _ h1 (by rw[(hh _ _ (Jh hm)).1,hd];rfl)
  ·exact .u _
 | cW id e sz m hi hx =>
  simp only[AV.fv]
  split
  ·rename_i hm;exact .cW _ e sz m ((hh _ _ (Jh hm)).2.1.trans hi) (by rw[(hh _ _ (Jh hm)).1,hx];rfl)
  ·exact .u _
 | dz ad cap id e sz m hi hx ht =>
  simp only[AV.fv]
  split
  ·rename_i hm;exact .dz ad cap _ e sz m ((hh _ _ (Jh hm)).2.1.trans hi) (by rw[(hh _ _ (Jh hm)).1,hx];rfl) ht
  ·exact .u _
 | r id off len bk ao cap e sz m es hi hx hlen cr j2 dm =>
  simp only[AV.fv]
  split
  ·rename_i hm;exact .r _ off len bk ao cap e sz m es ((hh _ _ (Jh hm)).2.1.trans hi) (by rw[(hh _ _ (Jh hm)).1,hx];rfl) hlen cr (by rw[(hh _ _ (Jh hm)).2.2];exact j2) dm
  ·exact .u _
 | dg v id i j h1 hd =>
  simp only[AV.fv]
  split
  ·rename_i hm;exact .dg _ _ _ _ h1 (by rw[(hh _ _ (Jh hm)).1,hd];rfl)
  ·exact .u _
 | p id i j bk hi hn hd =>
  simp only[AV.fv]
  split
  ·rename_i hm;have hs:(h' (ids.idxOf id)).sz=(h id).sz:=by rw[(hh _ _ (Jh hm)).1];cases h id <;> rfl
   rw[<- hs,<- (hh _ _ (Jh hm)).2.2];refine .p _ i j bk ((hh _ _ (Jh hm)).2.1.trans hi) ?_ ?_
   ·rw[(hh _ _ (Jh hm)).1];cases hx:h id <;> simp_all [aX.rn]
   ·rw[(hh _ _ (Jh hm)).1];cases hx:h id <;> simp_all [aX.rn]
  ·exact .u _
 | q bk o j cs x hb hc hr=>exact .q bk o j cs x (hF _ hb) hc (λk d hk=>(hr k d hk).mono λb hb=>⟨hF b hb,rfl⟩)
 | a=>exact .u _
 | t=>exact .u _
 | fN=>exact .u _
 | b=>exact .u _
 | fa=>exact .u _
 | bq=>exact .u _
theorem VR.jM{v:Value}{x:AV}(hv:VR w F ι h v x):VR w F' ι' h' v (x.jM ids):=by
 cases x with
 | a cs =>
  cases hv with
  | a vs _ hl h1 hv =>
   refine .a vs _ (by simpa using hl) h1 (λk v x hk hx=>?_);simp only[List.getElem?_map,Option.map_eq_some_iff]at hx;obtain⟨y,hy,rfl⟩:=hx;exact(hv k v y hk hy).fv hF hh
 | _=>exact hv.fv hF hh
theorem VR.rn{v:Value}{x:AV}(hv:VR w F ι h v x):VR w F' ι' h' v (x.rn ids):=by
 cases x with
 | t cs =>
  cases hv with
  | t vs _ hl hv =>
   refine .t vs _ (by simpa using hl) (λk v x hk hx=>?_);simp only[List.getElem?_map,Option.map_eq_some_iff]at hx;obtain⟨y,hy,rfl⟩:=hx;exact(hv k v y hk hy).jM hF hh
 | _=>exact hv.jM hF hh
theorem BR.rn{i id:Nat}(hi:ids[i]? = some id)(hk:∀ k p,ι.k k=some (id,p)->ι'.k k=some (i,p)){B:aX}(hv:BR w F ι h id B):BR w F' ι' h' i (B.rn ids):=by
 obtain⟨_,hιi,Cz⟩:=hh i id hi
 cases hv with
 | none=>exact .none
 | dead=>exact .dead
 | box bk e bz cs cc ho hb hl h1 hv =>
  refine .box bk e bz _ (hιi.trans cc) (Cz.trans ho) hb (by simpa using hl) h1 (λk v x hk hx=>?_);simp only[List.getElem?_map,Option.map_eq_some_iff]at hx;obtain⟨y,hy,rfl⟩:=hx;exact(hv k v y hk hy).fv hF hh
 | slnil e sz m hz cc=>exact .slnil e sz m hz (hιi.trans cc)
 | sl bk e e0 sz m es cur hz cc hb fj hle dj b7 hv =>
  refine .sl bk e e0 sz m es cur hz (hιi.trans cc) hb (by rw[Cz];exact fj) (by rw[Cz];exact hle) dj b7 (λp q x d hp hq=>?_);obtain⟨v,h1,h2⟩:=hv p q x d hp hq;refine⟨v,by rw[Cz];exact h1,?_⟩
  cases m with
  | dp g t H=>exact⟨h2.1,λdI=>(h2.2 dI).map _ λk r fJ=>⟨hk k _ fJ,rfl⟩⟩
  | _=>exact Rd.mono (λb hb=>⟨hF b hb,rfl⟩) h2
end
section
variable {C:Ctx} {U:Nat->Prop} {σ:St} {a:Act} {w:World} {ι:Io}
def vy(a:Act):ResultVar->Sem Value
 | .tmp t=>pure (a.tmps.getD t undef)
 | .cell ad t=>do loadVar t (<- asAddr (a.tmps.getD ad undef))
theorem QOI(S:Sat C U σ a w ι){x:ResultVar}{y:bw}(hx:Cw C.P x=some y){v:AV}(hv:y.get σ=some v) :
  ∃ u,(vy a x).run C.P w = .ok u w/\VR w (Fz C w ι σ.h) ι σ.h u v:=by
 cases x with
 | tmp t =>
  simp only[Cw,Option.some.injEq]at hx;subst hx;simp only[bw.get,Option.some.injEq]at hv;subst hv;exact⟨_,rfl,S.bz t⟩
 | cell ad t =>
  simp only[Cw]at hx
  split at hx
  rotate_left
  ·cases hx
  rename_i n agg hn fo
  cases hx;simp only[bw.get]at hv
  split at hv
  rotate_left
  ·cases hv
  rename_i e he
  cases hv;obtain⟨u,x1,rfl,h1,_,ad',h2,h3⟩:=TM (t1:=0) S (x:=.tmp ad) rfl (rfl:cO C.P 0 (.tmp ad)=some (.s ad)) fo (λh=>by simp[h,hn]) (λh=>by simp[h]) he;refine⟨u,?_,h1⟩;have h4:a.tmps.getD ad undef = .pointer (some ad'):=h2;simp only[vy,h4,asAddr,Sem.run_bind,Sem.run_pure,Result.andThen_ok];exact h3
theorem Vu(S:Sat C U σ a w ι):∀(xs:List ResultVar)(ys:List bw)(vs:List AV),lE C.P xs=some ys->tj σ ys=some vs->
  ∃ us:List Value,us.length=xs.length/\us.length=vs.length/\(∀(k:Nat)(u:Value)(x:ResultVar),us[k]? = some u->xs[k]? = some x->(vy a x).run C.P w = .ok u w)/\
   ∀(k:Nat)(u:Value)(v:AV),us[k]? = some u->vs[k]? = some v->VR w (Fz C w ι σ.h) ι σ.h u v
 | [],ys,vs,hx,hv=>by
  simp[lE]at hx;subst hx;simp[tj]at hv;subst hv;exact⟨[],rfl,rfl,by simp,by simp⟩
 | x::xs,ys,vs,hx,hv=>by
  simp only[lE]at hx
  split at hx
  rotate_left
  ·cases hx
  rename_i y l6 h1 h2
  cases hx;simp only[tj]at hv
  split at hv
  rotate_left
  ·cases hv
  rename_i v vA h3 h4
  cases hv;obtain⟨u,h5,h6⟩:=QOI S h1 h3;obtain⟨us,h7,h8,h9,vu⟩:=Vu S xs l6 vA h2 h4;refine⟨u::us,by simp[h7],by simp[h8],λk u' x' hu gB=>?_,λk u' v' hu i9=>?_⟩
  ·cases k with
   | zero=>simp at hu gB;subst hu;subst gB;exact h5
   | succ k=>exact h9 k u' x' (by simpa using hu) (by simpa using gB)
  ·cases k with
   | zero=>simp at hu i9;subst hu;subst i9;exact h6
   | succ k=>exact vu k u' v' (by simpa using hu) (by simpa using i9)
theorem QOa(S:Sat C U σ a w ι){fn:Func}{ys:List bw}{vs:List AV}(hx:lE C.P fn.results.toList=some ys)(hv:tj σ ys=some vs) :
  ∃ u,(results fn a.tmps).run C.P w = .ok u w/\VR w (Fz C w ι σ.h) ι σ.h u (Vr vs):=by
 obtain⟨us,h1,h2,h3,h4⟩:=Vu S _ _ _ hx hv;have hu:results fn a.tmps=(do let vs <- fn.results.mapM (vy a);pure (if h:vs.size=1 then vs[0] else .tuple vs)):=rfl;have hm:(fn.results.mapM (vy a)).run C.P w = .ok us.toArray w:=by
  obtain⟨l,hl⟩:∃ l,fn.results=List.toArray l:=⟨fn.results.toList,by simp⟩
  rw[hl]at h1 h3 ⊢;have:=Vs (P:=C.P) (w:=w) (vy a) l us (by simpa using h1) (λk v x hk hx=>h3 k v x hk (by simpa using hx));simp[this]
 have hr:(results fn a.tmps).run C.P w = .ok (if h:us.toArray.size=1 then us.toArray[0] else .tuple us.toArray) w:=by
  rw[hu,Sem.run_bind,hm];rfl
 refine⟨_,hr,?_⟩
 match us,vs,h2,h4 with
 | [u],[v],_,h4=>exact h4 0 u v rfl rfl
 | [],[],_,h4=>exact .t _ _ rfl (by simp)
 | u::u'::us,v::v'::vs,h2,h4 =>
  rw[dif_neg (by simp)];exact .t _ _ (by simpa using h2) (λk u v hk hx=>h4 k u v (by simpa using hk) hx)
end
end Go.Proofs.YtdplaepmjogjjaaGreat.Am
namespace Go.Proofs.YtdplaepmjogjjaaGreat.Am
open Go Go.RowKit
theorem VR.lift{w:World}{F F':Nat->Prop}(hF:∀ b,F b->F' b){ι:Io}{h:Nat->aX}{v:Value}{x:AV}(hx:x.eW=true)(hv:VR w F noι vt v x):VR w F' ι h v x:=by
 cases x with
 | c d=>exact hv.data hF
 | a cs =>
  cases hv with
  | a vs _ hl h1 hv =>
   refine .a vs cs hl h1 (λk v x hk jB=>?_);have:=List.all_eq_true.1 hx x (List.mem_of_getElem? jB)
   cases x with
   | c d=>exact(hv k v _ hk jB).data hF
   | _=>simp at this
 | _=>simp[AV.eW]at hx
theorem mJ.lift{w:World}{F F':Nat->Prop}{v:Value}{x:Hd}{e:TypeId}{sz:Nat}{mm:Mo}{es:List (List D)}(H:mJ w F v x e sz mm es){ι:Io}{h:Nat->aX}{m:Nat}(h1:ι m=x.o)(ho:ι.o m=x.base)(h2:h m=x.B) :
  VR w F' ι h v (.r sz m 0 es.length):=by
 have mA:=H.vr;rw[H.hB]at h2 mA;generalize hn:es.length=n at mA ⊢
 cases mA with
 | cI _ _ _ _ _ _ hd=>cases hd
 | cW _ e' _ Vv hi cq =>
  have:es=[]:=List.eq_nil_of_length_eq_zero hn;subst this;exact .cW m e sz mm (h1.trans hi) h2
 | dz ad cap _ e' _ Vv hi cq ht =>
  cases cq;exact .dz ad cap m e sz mm (h1.trans hi) h2 ht
 | r _ _ _ b ao cap e' _ Vv bZ hi cq hlen cr j2 dm =>
  cases cq;exact .r m 0 n b ao cap e sz mm es (h1.trans hi) h2 hlen cr (by rw[ho];exact j2) dm
theorem QMi:∀(xs:List AV)(m:Nat),(gA xs m).length=xs.length:=by
 intro xs
 induction xs with
 | nil=>intro m;rfl
 | cons x xs ih=>intro m;cases x <;> simp[gA,ih]
theorem QRu:∀(xs:List AV)(n m:Nat),(dV xs n m).length=xs.length:=by
 intro xs
 induction xs with
 | nil=>intro n m;rfl
 | cons x xs ih=>intro n m;cases x <;> simp[dV,ih]
theorem Vw:∀ {cs:List AV},cs.all lC=true->(∀ n m,dV cs n m=gA cs m)/\dQ cs=YG cs/\cV cs=[]
 | [],_=>⟨λ_ _=>rfl,rfl,rfl⟩
 | x::cs,h=>by
  simp only[List.all_cons,Bool.and_eq_true]at h;obtain⟨h1,h2,h3⟩:=Vw h.2
  cases x with
  | c d=>exact⟨λn m=>by simp only[dV,gA,h1],by simp only[dQ,YG,h2],by simp only[cV,h3]⟩
  | ow e sz m es=>exact⟨λn m=>by simp only[dV,gA,h1],by simp only[dQ,YG,h2],by simp only[cV,h3]⟩
  | _=>simp[lC]at h
structure Lay(w:World)(F0:Nat->Prop)(vs:List Value)(xs:List AV)(lb:List Nat)(gb:List Hd):Prop where
 nd:lb.Nodup
 len:lb.length=(cV xs).length
 vl:vs.length=xs.length
 bx:∀(i b:Nat)(cs:List AV),lb[i]? = some b->(cV xs)[i]? = some cs->cs.all oa=true/\∃ e bz,w.heap[b]? = some (.cells bz e (0,0))/\DR w F0 bz cs
 gl:gb.length=(dQ xs).length
 gM:∀(j:Nat)(x:Hd),gb[j]? = some x->(dQ xs)[j]? = some x.B/\(∃ e sz m es,x.B = .sl e sz m es/\∀ b p,x.K b=some p->p≠[]/\b<w.heap.size/\x.o≠some b/\∃ g t H,m = .dp g t H)/\BR w F0 x.io (λ_=>x.B) 0 x.B/\∀ b,x.has b->b∉lb
 jN:∀(i j b:Nat)(x y:Hd),gb[i]? = some x->gb[j]? = some y->x.has b->y.has b->i=j
 val:∀(n m:Nat)(F:Nat->Prop)(ι:Io)(h:Nat->aX),(∀ b,F0 b->F b)->(∀ i b,lb[i]? = some b->ι (n+i)=some b/\ι.o (n+i)=0)->(∀ i cs,(cV xs)[i]? = some cs->h (n+i) = .box cs)->
  (∀(j:Nat)(x:Hd),gb[j]? = some x->ι (m+j)=x.o/\ι.o (m+j)=x.base/\h (m+j)=x.B)->∀(k:Nat)(v:Value),vs[k]? = some v->VR w F ι h v (((dV xs n m)[k]?).getD .u)
theorem Vx{w:World}{F0:Nat->Prop}{vs:List Value}{xs:List AV}{lb:List Nat}{gb:List Hd}(hA:eO w F0 vs xs lb gb):Lay w F0 vs xs lb gb:=by
 induction hA with
 | nil=>exact⟨List.nodup_nil,rfl,rfl,by simp,rfl,by simp,by simp,by simp⟩
 | eW v x vs xs lb gb hv hr hx ih =>
  have hB:cV (x::xs)=cV xs:=by cases x <;> simp[cV,AV.eW]at hx ⊢
  have I4:∀ cs:List AV,(cs.all fun | .c _=>true | _=>false)=true->YG cs=[]/\∀ m,gA cs m=cs:=by
   intro cs
   induction cs with
   | nil=>intro _;exact⟨rfl,λ_=>rfl⟩
   | cons c cs tk =>
    intro h;simp only[List.all_cons,Bool.and_eq_true]at h;obtain⟨k1,k2⟩:=tk h.2
    cases c with
    | c d=>exact⟨by simp only[YG,k1],λm=>by simp only[gA,k2]⟩
    | _=>simp at h
  have hG:dQ (x::xs)=dQ xs:=by
   cases x with
   | a cs=>simp only[AV.eW]at hx;simp only[dQ,(I4 cs hx).1,List.nil_append]
   | _=>simp[dQ,AV.eW]at hx ⊢
  have hS:∀ n m,dV (x::xs) n m=x::dV xs n m:=by
   intro n m
   cases x with
   | a cs=>simp only[AV.eW]at hx;simp only[dV,(I4 cs hx).1,(I4 cs hx).2,List.length_nil,Nat.add_zero]
   | _=>simp[dV,AV.eW]at hx ⊢
  refine⟨ih.nd,by rw[hB];exact ih.len,by simp[ih.vl],by rw[hB];exact ih.bx,by rw[hG];exact ih.gl,by rw[hG];exact ih.gM,ih.jN,λn m F ι h hF hι hh hg k u hk=>?_⟩;rw[hS]
  cases k with
  | zero=>simp at hk;subst hk;exact hv.lift hF hx
  | succ k=>exact ih.val n m F ι h hF hι (by rw[hB]at hh;exact hh) hg k u (by simpa using hk)
 | box b e bz cs vs xs lb gb hb hd hc hn hng hr ih =>
  refine⟨List.nodup_cons.2 ⟨hn,ih.nd⟩,by simp[cV,ih.len],by simp[ih.vl],λi b' cs' hi dU=>?_,ih.gl,λj x hj=>?_,ih.jN,λn m F ι h hF hι hh hg k u hk=>?_⟩
  ·cases i with
   | zero=>simp[cV]at hi dU;subst hi;subst dU;exact⟨hc,e,bz,hb,hd⟩
   | succ i=>exact ih.bx i b' cs' (by simpa using hi) (by simpa[cV]using dU)
  ·obtain⟨g1,g2,g3,g4⟩:=ih.gM j x hj;refine⟨g1,g2,g3,λb' oY=>?_⟩;simp only[List.mem_cons,not_or];refine⟨λe=>?_,g4 b' oY⟩;subst e;exact hng ⟨x,List.mem_of_getElem? hj,oY⟩
  ·cases k with
   | zero =>
    simp at hk;subst hk;have g1:=hι 0 b rfl;have g2:=hh 0 cs rfl;simp only[Nat.add_zero]at g1 g2;have:VR w F ι h (.pointer (some ⟨b,ι.o n+0*(h n).sz+0,none⟩)) (.p n 0 0):=.p n 0 0 b g1.1 (by rw[g2];simp) (by rw[g2];simp);simpa[dV,g1.2]using this
   | succ k =>
    simp only[dV];exact ih.val (n+1) m F ι h hF (λi b hi=>by have:=hι (i+1) b (by simpa using hi);rwa [show n+(i+1)=n+1+i by omega]at this) (λi cs hi=>by have:=hh (i+1) cs (by simpa[cV]using hi);rwa [show n+(i+1)=n+1+i by omega]at this) hg k u (by simpa using hk)
 | own v x e sz mm es vs xs lb gb hv hn hr ih =>
  refine⟨ih.nd,ih.len,by simp[ih.vl],ih.bx,by simp[dQ,ih.gl],λj y hj=>?_,λi j b y z hi hj h1 h2=>?_,λn m F ι h hF hι hh hg k u hk=>?_⟩
  ·cases j with
   | zero=>simp at hj;subst hj;exact⟨by rw[hv.hB];rfl,⟨e,sz,mm,es,hv.hB,hv.dA⟩,hv.br,λb hb=>(hn b hb).1⟩
   | succ j=>exact ih.gM j y (by simpa using hj)
  ·cases i with
   | zero =>
    simp at hi;subst hi
    cases j with
    | zero=>rfl
    | succ j=>simp at hj;exact absurd ⟨z,List.mem_of_getElem? hj,h2⟩ (hn b h1).2
   | succ i =>
    cases j with
    | zero=>simp at hj;subst hj;simp at hi;exact absurd ⟨y,List.mem_of_getElem? hi,h1⟩ (hn b h2).2
    | succ j=>simp at hi hj;rw[ih.jN i j b y z hi hj h1 h2]
  ·cases k with
   | zero =>
    simp at hk;subst hk;obtain⟨g1,g2,g3⟩:=hg 0 _ rfl;simp only[Nat.add_zero]at g1 g2 g3;have:=hv.lift (F':=F) g1 g2 g3;simpa[dV]using this
   | succ k =>
    simp only[dV];exact ih.val n (m+1) F ι h hF hι hh (λj y hj=>by have:=hg (j+1) y (by simpa using hj);rwa [show m+(j+1)=m+1+j by omega]at this) k u (by simpa using hk)
 | agg arr cs vs xs lb g1 gb hc l7 h1 hn hr tk ih =>
  obtain⟨c1,c2,c3⟩:=Vw l7;have jO:g1.length=(YG cs).length:=by rw[<- c2];exact tk.gl
  refine⟨ih.nd,ih.len,by simp[ih.vl],ih.bx,by simp[dQ,ih.gl,jO],λj y hj=>?_,λi j b y z hi hj h1 h2=>?_,λn m F ι h hF hι hh hg k u hk=>?_⟩
  ·rw[List.getElem?_append]at hj;simp only[dQ];rw[List.getElem?_append,<- jO]
   split at hj
   ·rename_i aY;obtain⟨k1,k2,k3,_⟩:=tk.gM j y hj;rw[c2]at k1;rw[if_pos aY];exact⟨k1,k2,k3,λb hb=>(hn b ⟨y,List.mem_of_getElem? hj,hb⟩).1⟩
   ·rename_i aY;rw[if_neg aY];exact ih.gM _ y hj
  ·rw[List.getElem?_append]at hi hj
   split at hi <;> split at hj
   ·exact tk.jN i j b y z hi hj h1 h2
   ·exact absurd ⟨z,List.mem_of_getElem? hj,h2⟩ (hn b ⟨y,List.mem_of_getElem? hi,h1⟩).2
   ·exact absurd ⟨y,List.mem_of_getElem? hi,h1⟩ (hn b ⟨z,List.mem_of_getElem? hj,h2⟩).2
   ·have:=ih.jN _ _ b y z hi hj h1 h2;omega
  ·cases k with
   | zero =>
    simp at hk;subst hk;simp only[dV,List.getElem?_cons_zero,Option.getD_some];refine .a arr _ (by rw[QMi];simpa using tk.vl) (λk v hk=>h1 v (List.mem_of_getElem? (by simpa using hk))) (λk v x hk hx=>?_);have:=tk.val 0 m F ι h hF (by simp) (by rw[c3];simp) (λj y hj=>hg j y (by rw[List.getElem?_append_left (List.getElem?_eq_some_iff.1 hj).1];exact hj)) k v (by simpa using hk);rw[c1,hx]at this;exact this
   | succ k =>
    simp only[dV];refine ih.val n (m+(YG cs).length) F ι h hF hι hh (λj y hj=>?_) k u (by simpa using hk);have:=hg (g1.length+j) y (by rw[List.getElem?_append_right (by omega),show g1.length+j-g1.length=j by omega];exact hj);rwa [jO,show m+((YG cs).length+j)=m+(YG cs).length+j by omega]at this
def J2(P:Program)(w:World)(F0:Nat->Prop)(lb:List Nat)(gb:List Hd)(N:Nat):Ctx :=
 { P:=P,w0:=w,F0:=F0,X:=λb=>b∈lb\/Yo gb b,L:=λi=>lb[i]?,N:=N,G:=Yo gb,O:=λi=>if i<lb.length then none else gb[i-lb.length]?,GX:=λ_ h=>.inr h }
def gk:List Hd->Nat->Nat->Option (Nat × cM)
 | [],_,_=>none
 | x::r,k,b=>match x.K b with
  | some p=>some (k,p)
  | none=>gk r (k+1) b
theorem I5:∀ {gb:List Hd} {k b i:Nat} {p:cM},gk gb k b=some (i,p)->∃ j x,i=k+j/\gb[j]? = some x/\x.K b=some p
 | [],k,b,i,p,h=>by simp[gk]at h
 | x::r,k,b,i,p,h=>by
  simp only[gk]at h
  split at h
  ·rename_i p' hp;cases h;exact⟨0,x,rfl,rfl,hp⟩
  ·obtain⟨j,y,h1,h2,h3⟩:=I5 h;exact⟨j+1,y,by omega,by simpa using h2,h3⟩
theorem Vy:∀ {gb:List Hd} {k b:Nat},(∀ x,x∈gb->x.K b=none)->gk gb k b=none
 | [],_,_,_=>rfl
 | x::r,k,b,h=>by
  simp only[gk];rw[h x (by simp)];exact Vy λy hy=>h y (by simp[hy])
theorem Q1n{gb:List Hd}(sq:∀(i j b:Nat)(x y:Hd),gb[i]? = some x->gb[j]? = some y->x.has b->y.has b->i=j){k b j:Nat}{x:Hd}{p:cM}(hj:gb[j]? = some x)(hp:x.K b=some p):gk gb k b=some (k+j,p):=by
 cases hx:gk gb k b with
 | none =>
  have:∀(gb:List Hd)(k:Nat),gk gb k b=none->∀ y,y∈gb->y.K b=none:=by
   intro gb
   induction gb with
   | nil=>intro k _ y hy;cases hy
   | cons z r ih =>
    intro k h y hy;simp only[gk]at h
    split at h
    ·cases h
    ·rename_i hz
     rcases List.mem_cons.1 hy with rfl | hy
     ·exact hz
     ·exact ih (k+1) h y hy
  rw[this gb k hx x (List.mem_of_getElem? hj)]at hp
  cases hp
 | some z =>
  obtain⟨i,q⟩:=z;obtain⟨j',y,h1,h2,h3⟩:=I5 hx;have:=sq j' j b y x h2 hj (.inr ⟨q,h3⟩) (.inr ⟨p,hp⟩);subst this;rw[hj]at h2
  cases h2;rw[hp]at h3
  cases h3;rw[h1]
def ιs(lb:List Nat)(gb:List Hd):Io:=⟨λi=>if i<lb.length then lb[i]? else(gb[i-lb.length]?).bind (·.o),gk gb lb.length,λi=>if i<lb.length then 0 else((gb[i-lb.length]?).map (·.base)).getD 0⟩
theorem ιs_lt{lb:List Nat}{gb:List Hd}{i b:Nat}(h:lb[i]? = some b):ιs lb gb i=some b/\(ιs lb gb).o i=0:=by
 have:=(List.getElem?_eq_some_iff.1 h).1;exact⟨by show(if _ then _ else _)=_;rw[if_pos this];exact h,by show(if _ then _ else _)=_;rw[if_pos this]⟩
theorem ιs_ge{lb:List Nat}{gb:List Hd}{j:Nat}{x:Hd}(h:gb[j]? = some x):ιs lb gb (lb.length+j)=x.o/\(ιs lb gb).o (lb.length+j)=x.base:=by
 constructor
 ·show(if _ then _ else _)=_;rw[if_neg (by omega),show lb.length+j-lb.length=j by omega,h];rfl
 ·show(if _ then _ else _)=_;rw[if_neg (by omega),show lb.length+j-lb.length=j by omega,h];rfl
theorem ιs_cases{lb:List Nat}{gb:List Hd}{i b:Nat}(h:ιs lb gb i=some b):lb[i]? = some b\/lb.length<=i/\∃ x,gb[i-lb.length]? = some x/\x.o=some b:=by
 have h:(if i<lb.length then lb[i]? else(gb[i-lb.length]?).bind (·.o))=some b:=h
 split at h
 ·exact .inl h
 ·refine .inr ⟨by omega,?_⟩
  cases hx:gb[i-lb.length]? with
  | none=>rw[hx]at h;cases h
  | some p=>rw[hx]at h;exact⟨p,rfl,h⟩
theorem QJf{P:Program}{w:World}{F0:Nat->Prop}{vs:Array Value}{xs:List AV}{lb:List Nat}{gb:List Hd}(hA:eO w F0 vs.toList xs lb gb)(hF:∀ b,F0 b->b<w.heap.size/\b∉lb/\¬ Yo gb b){N:Nat}(hN:xs.length<=N) :
  fx (J2 P w F0 lb gb N) (mc xs) { tmps:=vs++Array.replicate (N-vs.size) undef,defers:=[] } w:=by
 have L:=Vx hA;have h2:=L.len;have h3:=L.vl;have jO:=L.gl;have hh:∀(i:Nat)(cs:List AV),(cV xs)[i]? = some cs->(mc xs).h i = .box cs:=λi cs hi=>by simp[mc,hi]
 have hk:∀(j:Nat)(B:aX),(dQ xs)[j]? = some B->(mc xs).h (lb.length+j)=B:=λj B hj=>by
  simp only[mc];rw[List.getElem?_eq_none (by omega),<- h2,show lb.length+j-lb.length=j by omega,hj];rfl
 have dt:∀ i,(cV xs).length+(dQ xs).length<=i->(mc xs).h i = .none/\ιs lb gb i=none:=λi hi=>by
  constructor
  ·simp only[mc];rw[List.getElem?_eq_none (by omega),List.getElem?_eq_none (by omega)];rfl
  ·show(if _ then _ else _)=_;rw[if_neg (by omega),List.getElem?_eq_none (by omega)];rfl
 have hex:∀(i b:Nat),lb[i]? = some b->∃ cs,(cV xs)[i]? = some cs:=λi b hi=>by
  have:i<lb.length:=(List.getElem?_eq_some_iff.1 hi).1;exact⟨(cV xs)[i]'(by omega),List.getElem?_eq_getElem (by omega)⟩
 have yD:∀ b,b∈lb->¬ Yo gb b:=λb hb ⟨x,hm,hx⟩=>by
  obtain⟨j,hj⟩:=List.getElem?_of_mem hm;exact(L.gM j _ hj).2.2.2 b hx hb
 have I6:∀ b,Yo gb b->b<w.heap.size:=λb ⟨x,hm,hx⟩=>by
  obtain⟨j,hj⟩:=List.getElem?_of_mem hm;obtain⟨_,⟨e,sz,m,es,hB,hl⟩,vB,_⟩:=L.gM j _ hj
  rcases hx with hx | ⟨p,hx⟩
  ·rw[hB]at vB
   cases vB with
   | slnil _ _ _ _ hi=>exact absurd (hi.symm.trans hx) (by simp)
   | sl bk _ _ _ _ _ cur hz hi hb =>
    have:some bk=some b:=hi.symm.trans hx
    cases this;exact(Array.getElem?_eq_some_iff.1 hb).1
  ·exact(hl b p hx).2.1
 have yE:∀ b,¬ Yo gb b->(ιs lb gb).k b=none:=λb hb=>Vy λx hx=>by
  cases hk:x.K b with
  | none=>rfl
  | some p=>exact absurd ⟨x,hx,.inr ⟨p,hk⟩⟩ hb
 have kR:∀ b,F0 b->Fz (J2 P w F0 lb gb N) w (ιs lb gb) (mc xs).h b:=λb hb=>⟨(hF b hb).1,.inl hb,λid bp=>by
  rcases ιs_cases bp with h | ⟨_,x,h,hx⟩
  ·exact absurd (List.mem_of_getElem? h) (hF b hb).2.1
  ·exact absurd ⟨x,List.mem_of_getElem? h,.inl hx⟩ (hF b hb).2.2,yE b (hF b hb).2.2⟩
 have iB:∀ id,id<lb.length\/(∃ j x,id=lb.length+j/\gb[j]? = some x)\/(cV xs).length+(dQ xs).length<=id:=λid=>by
  by_cases h:id<lb.length
  ·exact .inl h
  ·by_cases h':id<lb.length+gb.length
   ·exact .inr (.inl ⟨id-lb.length,gb[id-lb.length],by omega,List.getElem?_eq_getElem (by omega)⟩)
   ·exact .inr (.inr (by omega))
 refine⟨ιs lb gb,⟨rfl,rfl,rfl,Nat.le_refl _,λ_ _ _=>rfl⟩,λs=>?_,?_,rfl,λid=>?_,λi j b hi hj=>?_,λi b hi=>?_,λi hi=>dt i hi,λi b hi=>?_,λi b hi=>?_,λi x hi=>?_,λb id p ju=>?_⟩
 ·show VR _ _ _ _ _ (((dV xs 0 (cV xs).length)[s]?).getD .u)
  rcases Nat.lt_or_ge s vs.size with hs | hs
  ·have:=L.val 0 (cV xs).length (Fz (J2 P w F0 lb gb N) w (ιs lb gb) (mc xs).h) (ιs lb gb) (mc xs).h kR (λi b hi=>by rw[Nat.zero_add];exact ιs_lt hi) (λi cs hi=>by simpa using hh i cs hi)
    (λj x hj=>by rw[<- h2];exact⟨(ιs_ge hj).1,(ιs_ge hj).2,hk j _ (L.gM j x hj).1⟩) s vs[s] (by simp[hs])
   rw[show(vs++Array.replicate (N-vs.size) undef).getD s undef=vs[s] by simp[Array.getD_eq_getD_getElem?,Array.getElem?_append,hs]];exact this
  ·rw[List.getElem?_eq_none (by rw[QRu];simp at h3;omega)];exact .u _
 ·simp[J2]at h3 ⊢;omega
 ·rcases iB id with aY | ⟨j,x,rfl,hj⟩ | jq
  ·have hx:(cV xs)[id]? = some ((cV xs)[id]'(by omega)):=List.getElem?_eq_getElem (by omega);rw[hh id _ hx];obtain⟨hc,e,bz,hb,hd⟩:=L.bx id lb[id] _ (by simp) hx;refine .box lb[id] e bz _ (ιs_lt (by simp)).1 (ιs_lt (b:=lb[id]) (by simp)).2 hb hd.size hd.one (λk v x hk jB=>(hd.vr k v x hk jB).lift kR ?_);have:=List.all_eq_true.1 hc x (List.mem_of_getElem? jB)
   cases x <;> simp_all [oa,AV.eW]
  ·obtain⟨g1,⟨e,sz,m,es,hB,hl⟩,g3,_⟩:=L.gM j x hj;rw[hk j _ g1];obtain⟨hι,hιo⟩:=ιs_ge (lb:=lb) hj;rw[hB]at g3 ⊢
   cases g3 with
   | slnil _ _ _ hz hi=>exact .slnil e sz m hz (hι.trans hi)
   | sl bk _ e0 _ _ _ cur hz hi hb fj hle dj b7 hv =>
    refine .sl bk e e0 sz m es cur hz (hι.trans hi) hb (by rw[hιo];exact fj) (by rw[hιo];exact hle) dj b7 (λi j' el d hx hd=>?_);obtain⟨v,k1,k2⟩:=hv i j' el d hx hd;refine⟨v,by rw[hιo];exact k1,?_⟩
    cases m with
    | dp g t H =>
     refine⟨k2.1,λdI=>(k2.2 dI).map _ λb q ju=>⟨?_,rfl⟩⟩;have ju:(x.K b).map (λp=>((0:Nat),p))=some (0,[(i,j')]++q):=ju;obtain⟨p,hp,hpe⟩:=Option.map_eq_some_iff.1 ju
     cases hpe;exact Q1n L.jN hj hp
    | _=>exact Rd.mono (λb hb=>⟨kR b hb,rfl⟩) k2
  ·rw[(dt id jq).1];exact .none
 ·rcases ιs_cases hi with h1 | ⟨h1,x,gG,hx⟩
  ·rcases ιs_cases hj with h2 | ⟨h2,y,lF,hy⟩
   ·exact(List.getElem?_inj (List.getElem?_eq_some_iff.1 h1).1 L.nd).1 (h1.trans h2.symm)
   ·exact absurd ⟨y,List.mem_of_getElem? lF,.inl hy⟩ (yD b (List.mem_of_getElem? h1))
  ·rcases ιs_cases hj with h2 | ⟨h2,y,lF,hy⟩
   ·exact absurd ⟨x,List.mem_of_getElem? gG,.inl hx⟩ (yD b (List.mem_of_getElem? h2))
   ·have:=L.jN _ _ b x y gG lF (.inl hx) (.inl hy);omega
 ·rcases ιs_cases hi with h1 | ⟨h1,x,gG,hx⟩
  ·obtain⟨cs,dU⟩:=hex i b h1;obtain⟨_,e,bz,hb,_⟩:=L.bx i b cs h1 dU;exact⟨.inr ⟨.inl (List.mem_of_getElem? h1),cs,hh i cs dU⟩,(Array.getElem?_eq_some_iff.1 hb).1⟩
  ·have hg:Yo gb b:=⟨x,List.mem_of_getElem? gG,.inl hx⟩
   exact⟨.inl (.inr hg),I6 b hg⟩
 ·rcases ιs_cases hi with h1 | ⟨h1,x,gG,hx⟩
  ·obtain⟨cs,dU⟩:=hex i b h1;rw[hh i cs dU];simp
  ·obtain⟨g1,⟨e,sz,m,es,hB,_⟩,_⟩:=L.gM _ _ gG;have:=hk _ _ g1;rw[show lb.length+(i-lb.length)=i by omega]at this;rw[this,hB];simp
 ·obtain⟨cs,dU⟩:=hex i b hi;exact⟨(ιs_lt hi).1,⟨cs,hh i cs dU⟩,rfl⟩
 ·simp only[J2]at hi
  split at hi
  ·cases hi
  ·obtain⟨g1,⟨e,sz,m,es,hB,_⟩,_⟩:=L.gM _ _ hi;have h5:=hk _ _ g1;obtain⟨h6,h7⟩:=ιs_ge (lb:=lb) hi;rw[show lb.length+(i-lb.length)=i by omega]at h5 h6 h7;exact .inr ⟨h6,h7,by rw[h5,hB];exact⟨rfl,rfl,rfl,λh=>h,λh=>h⟩,λ_ _=>rfl⟩
 ·obtain⟨j,x,rfl,hj,hp⟩:=I5 ju;obtain⟨g1,⟨e,sz,m,es,hB,hl⟩,g3,g4⟩:=L.gM j x hj;obtain⟨q1,q2,q3,g,t,H,rfl⟩:=hl b p hp;refine⟨q1,⟨e,sz,g,t,H,es,by rw[hk j _ g1,hB]⟩,.inr ⟨x,List.mem_of_getElem? hj,.inr ⟨p,hp⟩⟩,q2,λi hi=>?_⟩
  rcases ιs_cases hi with h1 | ⟨h1,y,gG,hy⟩
  ·exact g4 b (.inr ⟨p,hp⟩) (List.mem_of_getElem? h1)
  ·have:=L.jN _ _ b y x gG hj (.inl hy) (.inr ⟨p,hp⟩);rw[this,hj]at gG
   cases gG;exact q3 hy
theorem QXi{x:aX}{ids:List Nat}(h:x≠.none/\x≠.dead):x.rn ids≠.none/\x.rn ids≠.dead:=by
 cases x <;> simp_all [aX.rn]
theorem QNz{P:Program}{w:World}{F0:Nat->Prop}{lb:List Nat}{gb:List Hd}{N n m:Nat}(hn:n=lb.length)(hm:m=gb.length){U:Nat->Prop}{σ:St}{a:Act}{w':World}{ι:Io}
  (S:Sat (J2 P w F0 lb gb N) U σ a w' ι) {ids:List Nat} (d9:ids.Nodup) (iO:∀ id,id∈ids->n+m<=id) {x:AV} {r:iS} (hr:Cy n m ids σ x=some r) {v:Value}
  (hv:VR w' (Fz (J2 P w F0 lb gb N) w' ι σ.h) ι σ.h v x) :
  ∃ ι',i7 w F0 lb gb r v w' ι':=by
 unfold Cy at hr
 split at hr
 rotate_left
 ·cases hr
 rename_i cL gs tn qQ;have hr:=(Option.some.inj hr).symm;subst hr;obtain⟨hl,js⟩:=Vt tn;obtain⟨jO,ye⟩:=I3 qQ;have tq:gs.length=m:=jO;obtain⟨R,hR⟩:∃ R:iS,R=⟨x.rn ids,ids.map λid=>(σ.h id).rn ids,cL,true,gs⟩:=⟨_,rfl⟩
 rw[<- hR];have tr:R.hb.length=ids.length:=by rw[hR];simp
 obtain⟨π,hπ⟩:∃ π:Nat->Option Nat,π=λi=>if i<ids.length then ids[i]? else if i<ids.length+m then some (n+(i-ids.length)) else none:=⟨_,rfl⟩
 obtain⟨ι',hι'⟩:∃ ι':Io,ι'=⟨λi=>(π i).bind ι,λb=>match ι.k b with
   | some (y,p)=>if y∈ids then some (ids.idxOf y,p) else if n<=y/\y<n+m then some (ids.length+(y-n),p) else none
   | none=>none,λi=>((π i).map ι.o).getD 0⟩:=⟨_,rfl⟩
 have hπ1:∀ i id,ids[i]? = some id->π i=some id:=λi id hi=>by rw[hπ];simp only;rw[if_pos (List.getElem?_eq_some_iff.1 hi).1];exact hi
 have hπ2:∀ k,k<m->π (ids.length+k)=some (n+k):=λk hk=>by rw[hπ];simp only;rw[if_neg (by omega),if_pos (by omega),show ids.length+k-ids.length=k by omega]
 have hπc:∀ i y,π i=some y->(ids[i]? = some y)\/(∃ k,i=ids.length+k/\k<m/\y=n+k):=λi y hy=>by
  rw[hπ]at hy;simp only at hy
  split at hy
  ·exact .inl hy
  ·split at hy
   ·cases hy;exact .inr ⟨i-ids.length,by omega,by omega,rfl⟩
   ·cases hy
 have hιb:∀ i y,π i=some y->ι' i=ι y/\ι'.o i=ι.o y:=λi y hy=>by rw[hι'];simp[hy]
 have hιs:∀ i b,ι' i=some b->∃ y,π i=some y/\ι y=some b:=λi b hi=>by
  rw[hι']at hi;simp only at hi
  cases hx:π i with
  | none=>rw[hx]at hi;cases hi
  | some y=>rw[hx]at hi;exact⟨y,rfl,hi⟩
 have hπinj:∀ i j y,π i=some y->π j=some y->i=j:=λi j y hi hj=>by
  rcases hπc i y hi with h1 | ⟨k,rfl,h1,rfl⟩ <;> rcases hπc j _ hj with h2 | ⟨k',rfl,h2,h3⟩
  ·exact(List.getElem?_inj (List.getElem?_eq_some_iff.1 h1).1 d9).1 (h1.trans h2.symm)
  ·have:=iO y (List.mem_of_getElem? h1);omega
  ·have:=iO _ (List.mem_of_getElem? h2);omega
  ·omega
 have fJ:∀ b i p,ι'.k b=some (i,p)↔∃ y,π i=some y/\ι.k b=some (y,p):=by
  intro b i p;rw[hι'];simp only;constructor
  ·intro h
   split at h
   rotate_left
   ·cases h
   rename_i y q hy
   split at h
   ·rename_i vk
    cases h;exact⟨y,hπ1 _ _ (Jh vk),hy⟩
   ·split at h
    ·rename_i h1 h2
     cases h;exact⟨y,by rw[hπ2 _ (by omega)];congr 1;omega,hy⟩
    ·cases h
  ·rintro⟨y,hy,hk⟩
   simp only[hk]
   rcases hπc i y hy with h1 | ⟨k,rfl,h1,rfl⟩
   ·have du:=List.mem_of_getElem? h1;rw[if_pos du];have:ids.idxOf y=i:=(List.getElem?_inj (List.idxOf_lt_length_of_mem du) d9).1 ((Jh du).trans h1.symm);rw[this]
   ·rw[if_neg (λdu=>by have:=iO _ du;omega),if_pos ⟨by omega,by omega⟩];congr 2
    omega
 have I7:∀ i id,ids[i]? = some id->R.h i=(σ.h id).rn ids:=λi id hi=>by rw[hR];simp[iS.h,hi]
 have mb:∀ i y,π i=some y->((R.hb++R.gv)[i]?).getD .none=(if i<ids.length then(σ.h y).rn ids else σ.h y):=λi y hy=>by
  rcases hπc i y hy with h1 | ⟨k,rfl,h1,rfl⟩
  ·have aY:=(List.getElem?_eq_some_iff.1 h1).1;rw[if_pos aY,List.getElem?_append_left (by rw[tr];exact aY)];exact I7 i y h1
  ·rw[if_neg (by omega),List.getElem?_append_right (by rw[tr];omega),tr,show ids.length+k-ids.length=k by omega,hR];simp only;have:k<gs.length:=by omega
   rw[List.getElem?_eq_getElem this];simp only[Option.getD_some];exact((ye k _ (List.getElem?_eq_getElem this)).1).symm
 have I8:∀ i y,π i=some y->(((R.hb++R.gv)[i]?).getD .none).own=(σ.h y).own:=λi y hy=>by
  rw[mb i y hy]
  split
  ·cases σ.h y <;> rfl
  ·rfl
 have hgh:∀(k:Nat)(y:Hd)(B:aX),gb[k]? = some y->gs[k]? = some B->σ.h (n+k)=B/\(B = .dead\/(ι (n+k)=y.o/\ι.o (n+k)=y.base/\YP y.B B/\∀ b,y.o=some b->w'.shape? b=w.shape? b)):=λk y B hk hB=>by
  obtain⟨h1,_⟩:=ye k B hB;refine⟨h1,?_⟩;have:=S.hand (n+k) y (by simp only[J2];rw[if_neg (by omega),show n+k-lb.length=k by omega];exact hk);rw[h1]at this;exact this
 have kR:∀ b,Fz (J2 P w F0 lb gb N) w' ι σ.h b->ob w w' F0 gb R ι' b:=by
  intro b ⟨g1,g2,g3,g4⟩;refine⟨g1,g2.imp (λh=>⟨by rw[hR],h⟩) (λh=>h),λi hi=>?_,?_⟩
  ·obtain⟨y,h1,h2⟩:=hιs i b hi;rw[I8 i y h1];exact g3 y h2
  ·rw[hι'];simp only[g4]
 have db:∀(k b:Nat),lb[k]? = some b->w'.shape? b=w.shape? b:=λk b hk=>(S.cp k b hk).2.2;have kW:∀(k b:Nat),lb[k]? = some b->ι k=some b:=λk b hk=>(S.cp k b hk).1;have yF:∀ i y,π i=some y->∀ k p,ι.k k=some (y,p)->ι'.k k=some (i,p):=λi y hy k p hk=>(fJ k i p).2 ⟨y,hy,hk⟩;have vC:∀ i id,ids[i]? = some id->R.h i=(σ.h id).rn ids/\ι' i=ι id/\ι'.o i=ι.o id:=λi id hi=>⟨I7 i id hi,hιb i id (hπ1 i id hi)⟩
 refine⟨ι',S.dR.os,S.dR.tape,S.dR.output,S.dR.size,λk hk h1 h2=>S.dR.block k hk (λh=>h.elim h1 h2),by rw[show R.v=x.rn ids by rw[hR]];exact hv.rn kR vC,λi hi=>?_,λi j b hi hj=>?_,λi b hi=>?_,λi b hi=>?_,λb i p hk=>?_,by rw[hR];exact hl.trans hn,λk b cs hk dU=>?_,by rw[hR];exact jO.trans hm,λk y B hk hB=>?_⟩
 ·have hx:ids[i]? = some ids[i]:=List.getElem?_eq_getElem (by omega);rw[I7 i _ hx];exact(S.fH ids[i]).rn kR vC hx (yF i _ (hπ1 i _ hx))
 ·obtain⟨y,h1,h2⟩:=hιs i b hi;obtain⟨z,h3,h4⟩:=hιs j b hj;have:=S.inj y z b h2 h4;subst this;exact hπinj i j y h1 h3
 ·obtain⟨y,h1,h2⟩:=hιs i b hi;obtain⟨h3,h4⟩:=S.eL y b h2;have hyn:n<=y:=by
   rcases hπc i y h1 with h5 | ⟨k,rfl,h5,rfl⟩
   ·have:=iO y (List.mem_of_getElem? h5);omega
   ·omega
  refine⟨?_,h4,?_⟩
  ·rcases h3 with(h3 | h3) | ⟨h3,_⟩
   ·exact .inl h3
   ·exact .inr h3
   ·rcases h3 with h3 | h3
    ·exfalso;obtain⟨k,hk⟩:=List.getElem?_of_mem h3;have:=S.inj y k b h2 (kW k b hk);subst this;have:=(List.getElem?_eq_some_iff.1 hk).1;omega
    ·exact .inr h3
  ·rw[tr,show R.gv=gs by rw[hR],tq]
   rcases hπc i y h1 with h5 | ⟨k,rfl,h5,rfl⟩
   ·have:=(List.getElem?_eq_some_iff.1 h5).1;omega
   ·omega
 ·obtain⟨y,h1,h2⟩:=hιs i b hi;rw[mb i y h1];have:=S.live y b h2
  split
  ·exact QXi this
  ·exact this
 ·obtain⟨y,h1,h2⟩:=(fJ b i p).1 hk;have L:=S.dA b y p h2;obtain⟨e,sz,g,t,H,es,jD⟩:=L.dp;refine⟨L.pn,⟨e,sz,g,t,H,es,?_⟩,L.fr,L.lt,λj hj=>?_⟩
  ·have:=mb i y h1;rw[jD]at this;have hs:(if i<ids.length then(aX.sl e sz (.dp g t H) es).rn ids else aX.sl e sz (.dp g t H) es) = .sl e sz (.dp g t H) es:=by split <;> rfl
   rw[hs]at this
   cases hx:(R.hb++R.gv)[i]? with
   | none=>rw[hx]at this;cases this
   | some B=>rw[hx]at this;simp only[Option.getD_some]at this;rw[this]
  ·obtain⟨z,_,h4⟩:=hιs j b hj;exact L.ne z h4
 ·have dU:cL[k]? = some cs:=by rw[hR]at dU;exact dU
  obtain⟨h1,h2⟩:=js k cs dU;simp only[Nat.zero_add]at h1;refine⟨h2,db k b hk,?_⟩;have hb:=S.fH k;rw[h1]at hb
  cases hb with
  | box b' e bz _ hi _ hb hl h3 d6 =>
   rw[kW k b hk]at hi
   cases hi;refine⟨e,bz,hb,hl,h3,λj v y hj hy=>?_⟩;have h4:=List.all_eq_true.1 h2 y (List.mem_of_getElem? hy)
   cases y with
   | c d=>exact(d6 j v _ hj hy).data kR
   | _=>simp[oa]at h4
 ·have hB:gs[k]? = some B:=by rw[hR]at hB;exact hB
  have kI:k<m:=by rw[<- tq];exact(List.getElem?_eq_some_iff.1 hB).1
  obtain⟨h1,h2 | ⟨h2,lF,h3,h4⟩⟩:=hgh k y B hk hB
  ·exact .inl h2
  ·refine .inr ⟨h3,?_,?_,?_,h4⟩
   ·rw[tr,(hιb _ _ (hπ2 k kI)).1];exact h2
   ·rw[tr,(hιb _ _ (hπ2 k kI)).2];exact lF
   ·have hb:=S.fH (n+k);rw[h1]at hb;rw[tr];obtain⟨q1,q2⟩:=hιb _ _ (hπ2 k kI)
    rcases(ye k B hB).2 with rfl | ⟨e,sz,mm,es,rfl⟩
    ·exact .dead
    ·cases hb with
     | slnil _ _ _ hz hi=>exact .slnil e sz mm hz (q1.trans hi)
     | sl bk _ e0 _ _ _ cur hz hi hb fj hle dj b7 hv =>
      refine .sl bk e e0 sz mm es cur hz (q1.trans hi) hb (by rw[q2];exact fj) (by rw[q2];exact hle) dj b7 (λi j el d hx hd=>?_);obtain⟨u,k1,k2⟩:=hv i j el d hx hd;refine⟨u,by rw[q2];exact k1,?_⟩
      cases mm with
      | dp g t H=>exact⟨k2.1,λdI=>(k2.2 dI).map _ λb q ju=>⟨yF _ _ (hπ2 k kI) b _ ju,rfl⟩⟩
      | _=>exact Rd.mono (λb hb=>⟨kR b hb,rfl⟩) k2
end Go.Proofs.YtdplaepmjogjjaaGreat.Am
namespace Go.Proofs.YtdplaepmjogjjaaGreat.Am
open Go Go.RowKit
def one(f:FuncId)(dec:List AV->Option iS):eR:=⟨λ_=>[],λg xs=>if g=f then dec xs else none,false⟩
theorem ok_one{P:Program}{f:FuncId}{dec:List AV->Option iS}(h:∀ args r,dec args=some r->sT P f args r):oc P (one f dec):=λg args r hr=>by
 simp only[one]at hr
 split at hr
 ·rename_i hg;subst hg;exact h args r hr
 ·cases hr
theorem sT.plain{P:Program}{f:FuncId}{args:List AV}{x:Value}(h:sT P f args ⟨.c (.v x),[],[],true,[]⟩):sT P f args ⟨.c (.v x),[],[],false,[]⟩:=by
 intro w F0 vs lb gb hA hF;refine(h w F0 vs lb gb hA hF).mono ?_;rintro e w' ⟨v,ι,rfl,Q⟩
 refine⟨v,ι,rfl,?_⟩;have I9:lb=[]:=List.eq_nil_of_length_eq_zero Q.It.symm;subst I9;have hgb:gb=[]:=List.eq_nil_of_length_eq_zero Q.Iu.symm;subst hgb;have hv:=Q.val;have i9:VR w' (ob w w' F0 [] ⟨.c (.v x),[],[],false,[]⟩ ι) ι (iS.h ⟨.c (.v x),[],[],false,[]⟩) v (.c (.v x)):=by
  cases hv with
  | c v d hr=>cases hr with
   | v x h1=>exact .c _ _ (.v _ h1)
 exact⟨Q.os,Q.tape,Q.output,Q.size,Q.block,i9,λi hi=>absurd hi (Nat.not_lt_zero _),Q.inj,Q.eL,Q.live,Q.dA,rfl,by simp,rfl,by simp⟩
def yG(P:Program)(f:FuncId):Option (eU × List bw × Nat) :=
 match P.funcs[f]? with
 | some fn=>match fn.body with
  | some c=>match comp P fn.ntmps c,lE P fn.results.toList with
   | some ac,some rs=>some (ac,rs,fn.ntmps)
   | _,_=>none
  | none=>none
 | none=>none
end Go.Proofs.YtdplaepmjogjjaaGreat.Am
namespace Go.Proofs.YtdplaepmjogjjaaGreat.Am
open Go Go.RowKit Go.ChangeShapes Go.WideShapes Go.ChangeAt
theorem QQ6{H:Type}{enc:TypeId × Value->H}{P:Program}{f:Func}{s:ChangeSpec}{apart fresh handsOn again:Bool}{W W':World}{args:Array Value}{v:Value}{ds gs:List (DataW H)}{before pa pv:List MemPlace}
  (hW:DataW.Whole enc P f.params.toList s.vars apart W args.toList ds gs before)
  (mW:∀(b:Nat)(sp:Nat->Bool)(hd:Bool),DataW.TrodAll enc P W' b sp hd f.resultTypes.toList (v.resultList f.resultTypes.size) (s.fn H (ds++gs)).results [])
  (qU:∀ sp:Nat->Bool,(∀ p∈before,sp p.block=true)->DataW.TrodAll enc P W' 0 sp true f.params.toList args.toList (s.fn H (ds++gs)).args pa)
  (jP:∀ sp:Nat->Bool,(∀ p∈before,sp p.block=true)->DataW.TrodVars enc P W' sp s.vars (s.fn H (ds++gs)).vars pv)
  (xO:before=pa++pv) (hB:Below W.heap.size W W')
  (cC:∀(j:Nat)(t:TypeId)(r:Value),f.resultTypes[j]? = some t->(v.resultList f.resultTypes.size)[j]? = some r->Value.okWide P W' .any 0 t r) :
  s.post enc P f apart fresh handsOn again W args v W':=by
 have aY:∀ p∈before,p.block<W.heap.size:=λp hp=>hW.lt p hp;have hold:∀ p∈before,(λb=>decide (b<W.heap.size)) p.block=true:=λp hp=>by simpa using aY p hp
 subst xO;refine⟨ds,gs,pa++pv,[],pa,pv,hW,mW _ _ _,qU _ hold,jP _ hold,hB.frame _,λ_=>?_⟩;obtain⟨_,_,_,_,_,hz,hn⟩:=hW;refine⟨cC,_,_,([]++pa)++pv,⟨[]++pa,pv,trodAll_append (qU _ (λ_ _=>rfl)) (mW _ _ _),jP _ (λ_ _=>rfl),rfl,?_,?_⟩,?_⟩
 ·intro b off hp;have iN:MemPlace.cell b off∈pa++pv:=by simpa using hp
  have h1:=aY _ iN;rw[hB.frozen (by exact h1)];exact hz b off iN
 ·intro ha;simpa using hn ha
 ·intro p hp _;simpa using hp
theorem Q1U{P:Program}{f:FuncId}{vs:Array Value}{xs:List AV}{x:Value}{al:Bool}(h:sT P f xs ⟨.c (.v x),[],[],al,[]⟩){w:World}{F0:Nat->Prop}(hA:eO w F0 vs.toList xs [] [])(hF:∀ b,F0 b->b<w.heap.size) :
  Calls P f vs w λe w'=>e = .returned x/\Below w.heap.size w w':=by
 refine(h w F0 vs [] [] hA (λb hb=>⟨hF b hb,by simp,λ⟨_,hm,_⟩=>by simp at hm⟩)).mono ?_;rintro e w' ⟨v,ι,rfl,Q⟩
 have hv:=Q.val.int;subst hv;exact⟨rfl,Q.os,Q.tape,Q.output,Q.size,λk hk=>Q.block k hk (by simp) (λ⟨_,hm,_⟩=>by simp at hm)⟩
end Go.Proofs.YtdplaepmjogjjaaGreat.Am

set_option linter.all false
namespace Go.Proofs.YtdplaepmjogjjaaGreat.Am
open Go Go.RowKit
inductive CT where
 | int (k:IntKind)
 | bool
 | str
 | dS
 | sl (ts:List CT)
def CA(A:Type):List CT->Type->Type
 | [],_=>A
 | _::_,B=>A × B
mutual
@[reducible] def CT.den:CT->Type
 | .int _=>Int
 | .bool=>Bool
 | .str=>ByteArray
 | .dS=>Unit
 | .sl ts=>List (aV ts)
@[reducible] def aV:List CT->Type
 | []=>Unit
 | t::ts=>CA t.den ts (aV ts)
end
def hd{A:Type}:(ts:List CT)->{B:Type}->CA A ts B->A
 | [],_,x=>x
 | _::_,_,x=>x.1
def tl{A:Type}:(ts:List CT)->CA A ts (aV ts)->aV ts
 | [],_=>()
 | _::_,x=>x.2
def mX{A:Type}:(ts:List CT)->A->aV ts->CA A ts (aV ts)
 | [],a,_=>a
 | _::_,a,b=>(a,b)
mutual
def enc:(t:CT)->t.den->D
 | .int k,x=>.v (.int k x)
 | .bool,b=>.v (.bool b)
 | .str,s=>.v (.string s)
 | .dS,_=>.v (.pointer none)
 | .sl ts,l=>.sl ts.length (List.map (a9 ts) l)
def a9:(ts:List CT)->aV ts->List D
 | [],_=>[]
 | t::ts,x=>enc t (hd ts x)::a9 ts (tl ts x)
end
mutual
def CT.beq:CT->CT->Bool
 | .int k,.int k'=>decide (k=k')
 | .bool,.bool=>true
 | .str,.str=>true
 | .dS,.dS=>true
 | .sl a,.sl b=>CT.dC a b
 | _,_=>false
def CT.dC:List CT->List CT->Bool
 | [],[]=>true
 | x::xs,y::ys=>x.beq y&&CT.dC xs ys
 | _,_=>false
end
mutual
def CT.yH:(t:CT)->t.den
 | .int _=>(0:Int)
 | .bool=>false
 | .str=>⟨#[]⟩
 | .dS=>()
 | .sl ts=>([]:List (aV ts))
def aV.yH:(ts:List CT)->aV ts
 | []=>()
 | t::ts=>mX ts t.yH (aV.yH ts)
end
mutual
theorem CT.beq_eq:∀(a b:CT),a.beq b=true->a=b
 | .int k,.int k',h=>by simp[CT.beq]at h;rw[h]
 | .bool,.bool,_=>rfl
 | .str,.str,_=>rfl
 | .dS,.dS,_=>rfl
 | .sl a,.sl b,h=>by simp only[CT.beq]at h;rw[CT.b6 a b h]
 | .int _,.bool,h=>by simp[CT.beq]at h
 | .int _,.str,h=>by simp[CT.beq]at h
 | .int _,.sl _,h=>by simp[CT.beq]at h
 | .bool,.int _,h=>by simp[CT.beq]at h
 | .bool,.str,h=>by simp[CT.beq]at h
 | .bool,.sl _,h=>by simp[CT.beq]at h
 | .str,.int _,h=>by simp[CT.beq]at h
 | .str,.bool,h=>by simp[CT.beq]at h
 | .str,.sl _,h=>by simp[CT.beq]at h
 | .sl _,.int _,h=>by simp[CT.beq]at h
 | .sl _,.bool,h=>by simp[CT.beq]at h
 | .sl _,.str,h=>by simp[CT.beq]at h
 | .int _,.dS,h=>by simp[CT.beq]at h
 | .dS,.int _,h=>by simp[CT.beq]at h
 | .bool,.dS,h=>by simp[CT.beq]at h
 | .dS,.bool,h=>by simp[CT.beq]at h
 | .str,.dS,h=>by simp[CT.beq]at h
 | .dS,.str,h=>by simp[CT.beq]at h
 | .sl _,.dS,h=>by simp[CT.beq]at h
 | .dS,.sl _,h=>by simp[CT.beq]at h
theorem CT.b6:∀(a b:List CT),CT.dC a b=true->a=b
 | [],[],_=>rfl
 | x::xs,y::ys,h=>by simp only[CT.dC,Bool.and_eq_true]at h;rw[CT.beq_eq x y h.1,CT.b6 xs ys h.2]
 | [],_::_,h=>by simp[CT.dC]at h
 | _::_,[],h=>by simp[CT.dC]at h
end
inductive TV where
 | u
 | c (t:CT) (x:t.den)
 | n (ts:List CT)
 | r (ts:List CT) (id off len:Nat)
 | p (id i j:Nat)
 | q (ts:List CT) (x:aV ts) (j:Nat)
 | a (cs:List TV)
 | tp (vs:List TV)
 | bx (cs:List TV)
 | ow (e:TypeId) (ts:List CT) (m:Mo) (es:List (aV ts))
 | bs (ts:List CT) (x:List (aV ts)) (id g:Nat) (p:cM)
 | bq (ts:List CT) (x:aV ts) (j id g:Nat) (p:cM) (i:Nat)
 | g (b:Bool) (v:TV)
inductive aG where
 | none
 | dead
 | box (cs:List TV)
 | sl (e:TypeId) (ts:List CT) (m:Mo) (es:List (aV ts))
def TV.aW:TV->AV
 | .c t x=>.c (enc t x)
 | .n ts=>.n ts.length
 | .r ts id off len=>.r ts.length id off len
 | .p id i j=>.p id i j
 | .q ts x j=>.q (a9 ts x) j
 | .ow e ts m es=>.ow e ts.length m (es.map (a9 ts))
 | .bs ts x id v pt=>.b (.sl ts.length (x.map (a9 ts))) id v pt
 | .bq ts x j id v pt i=>.bq (a9 ts x) j id v pt i
 | _=>.u
def TV.cw:TV->AV
 | .a cs=>.a (cs.map TV.aW)
 | x=>x.aW
def TV.aH:TV->AV
 | .tp vs=>.t (vs.map TV.cw)
 | .bx cs=>.bx (cs.map TV.aW)
 | .g b v=>bif b then v.aH else .t []
 | x=>x.cw
def aG.aH:aG->aX
 | .none=>.none
 | .dead=>.dead
 | .box cs=>.box (cs.map TV.aW)
 | .sl e ts m es=>.sl e ts.length m (es.map (a9 ts))
def cR:List (Nat × TV)->Nat->TV
 | [],_=>.u
 | (j,x)::r,i=>bif Nat.beq i j then x else cR r i
def dK:List (Nat × aG)->Nat->aG
 | [],_=>.none
 | (j,x)::r,i=>bif Nat.beq i j then x else dK r i
structure cD where
 t:List (Nat × TV)
 h:List (Nat × aG)
 nx:Nat
def cD.T(σ:cD):Nat->TV:=cR σ.t
def cD.H(σ:cD):Nat->aG:=dK σ.h
def cD.aH(σ:cD):St:=⟨λs=>(σ.T s).aH,λi=>(σ.H i).aH,σ.nx⟩
inductive bJ where
 | s (i:Nat)
 | k (x:TV)
def bJ.ev(T:Nat->TV):bJ->TV
 | .s i=>T i
 | .k x=>x
def bJ.er:bJ->bc
 | .s i=>.s i
 | .k x=>.k x.aH
inductive eB where
 | eY (x:bJ)
 | pick (c x y:bJ)
 | bin (op:BinOp) (x y:bJ)
 | im (n:Nat) (neg:Bool) (x y:bJ)
 | j1 (neg:Bool) (x y:bJ)
 | not (x:bJ)
 | neg (x:bJ)
 | new (e:TypeId) (zs:List TV)
 | box (e:TypeId) (x:bJ) (n:Nat)
 | load (x:bJ) (n:Nat) (agg:Bool)
 | store (x v:bJ) (n:Nat)
 | lj (x:bJ) (off:Nat)
 | j9 (x i:bJ) (ts:List CT)
 | lY (x:bJ) (off n:Nat) (agg:Bool)
 | build (zs:List TV) (ps:List (Nat × Nat × bJ))
 | bO (e:TypeId) (ts:List CT) (ps:List bJ)
 | mk (e:TypeId) (ts:List CT) (zs:List TV) (n:bJ)
 | fO (x:bJ) (lo hi:Option bJ) (ts:List CT)
 | len (x:bJ)
 | app (s x:bJ) (e:TypeId) (ts:List CT)
 | mm (mx:Bool) (x y:bJ)
 | call (f:FuncId) (args:List bJ)
 | ext (x:bJ) (i:Nat)
 | conv (k:IntKind) (x:bJ)
 | gU (x:bJ)
def Ka(p:Nat × Nat × bJ):Nat × Nat × bc:=(p.1,p.2.1,p.2.2.er)
def qV:Option bJ->Option bc
 | some x=>some x.er
 | none=>none
def eB.er:eB->eG
 | .eY x=>.eY x.er
 | .pick c x y=>.pick c.er x.er y.er
 | .bin op x y=>.bin op x.er y.er
 | .im n g x y=>.im n g x.er y.er
 | .j1 g x y=>.j1 g x.er y.er
 | .not x=>.not x.er
 | .neg x=>.neg x.er
 | .new e zs=>.new e (zs.map TV.aW)
 | .box e x n=>.box e x.er n
 | .load x n agg=>.load x.er n agg
 | .store x v n=>.store x.er v.er n
 | .lj x off=>.lj x.er off
 | .j9 x i ts=>.j9 x.er i.er ts.length
 | .lY x off n agg=>.lY x.er off n agg
 | .build zs ps=>.build (zs.map TV.aW) (ps.map Ka)
 | .bO e ts ps=>.bO e ts.length (ps.map bJ.er)
 | .mk e ts zs n=>.mk e ts.length (zs.map TV.aW) n.er
 | .fO x lo hi ts=>.fO x.er (qV lo) (qV hi) ts.length
 | .len x=>.len x.er
 | .app s x e ts=>.app s.er x.er e ts.length
 | .mm mx x y=>.mm mx x.er y.er
 | .call f args=>.call f (args.map bJ.er)
 | .ext x i=>.ext x.er i
 | .conv k x=>.conv k x.er
 | .gU x=>.gU x.er
structure TE where
 pre:Option Prop
 val:TV
 gH:List (Nat × aG)
def pJ:Option Prop->Prop->Prop
 | none,k=>k
 | some p,k=>p/\k
def holds:Option Prop->Prop
 | none=>True
 | some p=>p
inductive Sh where
 | c (t:CT)
 | a (ts:List CT)
 | b (ts:List CT)
 | o (e:TypeId) (ts:List CT)
 | d (ts:List CT)
 | s (ts:List CT)
def Sh.md:Sh->AM
 | .o _ _=>.o
 | .d _=>.p
 | .s _=>.p
 | _=>.d
def g7(sg:List Sh):List AM:=sg.map Sh.md
def CT.flat:CT->Bool
 | .sl _=>false
 | _=>true
abbrev dw:Mo:=.dp 0 false []
def lG:Mo->Bool
 | .dp 0 false []=>true
 | _=>false
def qW:List TV->Option (List CT)
 | []=>some []
 | .c t _::r=>match qW r with
  | some ts=>some (t::ts)
  | none=>none
 | _=>none
def mY:List CT->List TV->Bool
 | [],[]=>true
 | t::ts,x::xs=>(match x with
  | .c t' _=>t'.beq t&&t'.flat
  | .ow e' cl m _=>Nat.beq e' 0&&(CT.sl cl).beq t&&lG m
  | _=>false)&&mY ts xs
 | _,_=>false
def Sh.fits:Sh->TV->Bool
 | .c t,.c t' _=>t'.beq t
 | .a ts,.a cs=>match qW cs with
  | some cl=>CT.dC cl ts
  | none=>false
 | .b ts,.bx cs=>match qW cs with
  | some cl=>CT.dC cl ts
  | none=>false
 | .o e ts,.ow e' cl .ow _=>Nat.beq e' e&&CT.dC cl ts
 | .d ts,.ow e' cl m _=>Nat.beq e' 0&&CT.dC cl ts&&lG m
 | .s ts,.a cs=>mY ts cs
 | _,_=>false
def Yv:List Sh->List TV->Bool
 | [],[]=>true
 | s::ss,x::xs=>s.fits x&&Yv ss xs
 | _,_=>false
structure aJ where
 v:TV
 hb:List aG
 bx:List (List TV)
 al:Bool
 gv:List aG
structure aP where
 f:FuncId
 sg:List Sh
 fn:List TV->Option (Option Prop × aJ)
structure aN where
 rows:List aP
 dp:Bool:=false
def me:List aP->FuncId->Option aP
 | [],_=>none
 | r::rs,f=>bif Nat.beq r.f f then some r else me rs f
def vE{ts cl:List CT}(e:CT.dC ts cl=true)(l:List (aV ts)):List (aV cl):=CT.b6 ts cl e ▸ l
def CB{t t':CT}(e:t.beq t'=true)(x:t.den):t'.den:=CT.beq_eq t t' e ▸ x
def aG.dG:aG->Option Nat
 | .sl _ _ (.dp g _ []) _=>some g
 | _=>Option.none
def aG.sv:aG->Bool
 | .sl _ _ (.dp _ _ []) _=>true
 | _=>false
def aG.pK(b:aG)(g:Nat):Bool:=match b.dG with
 | some g'=>Nat.beq g' g
 | Option.none=>false
def TV.eW(h:Nat->aG)(t:CT):TV->Option t.den
 | .c t' x=>if e:t'.beq t=true then some (CB e x) else none
 | .n ts=>match t with
  | .sl cl=>bif CT.dC ts cl then some ([]:List (aV cl)) else none
  | _=>none
 | .r _ id off len=>match t with
  | .sl cl=>match h id with
   | .sl _ ts m es=>bif m.full then(if e:CT.dC ts cl=true then some (((vE e es).drop off).take len) else none) else none
   | _=>none
  | _=>none
 | .bs ts x id v _=>match t with
  | .sl cl=>bif (h id).pK v then(if e:CT.dC ts cl=true then some (vE e x) else none) else none
  | _=>none
 | _=>none
def TV.jf(h:Nat->aG):TV->Option TV
 | .c t x=>some (.c t x)
 | .n ts=>some (.c (.sl ts) [])
 | .r _ id off len=>match h id with
  | .sl _ ts m es=>bif m.full then some (.c (.sl ts) ((es.drop off).take len)) else none
  | _=>none
 | .bs ts x id v _=>bif (h id).pK v then some (.c (.sl ts) x) else none
 | _=>none
def TV.lH(h:Nat->aG):List TV->Option (List TV)
 | []=>some []
 | x::xs=>match x.jf h,TV.lH h xs with
  | some d,some ds=>some (d::ds)
  | _,_=>none
def aV.cells:(ts:List CT)->aV ts->List TV
 | [],_=>[]
 | t::ts,x=>.c t (hd ts x)::aV.cells ts (tl ts x)
def aV.of(h:Nat->aG):(ts:List CT)->List TV->Option (aV ts)
 | [],xs=>match xs with
  | []=>some ()
  | _=>none
 | t::ts,xs=>match xs with
  | x::xs=>match x.eW h t,aV.of h ts xs with
   | some a,some b=>some (mX ts a b)
   | _,_=>none
  | []=>none
def TV.cells:TV->List TV
 | .a cs=>cs
 | x=>[x]
def TV.one:TV->Bool
 | .c _ _ | .n _ | .r .. | .p .. | .q .. | .bs .. | .bq ..=>true
 | _=>false
def TV.st:TV->Bool
 | .a _=>true
 | x=>x.one
def TV.b4:TV->List Nat
 | .r _ id _ _=>[id]
 | .bs _ _ id _ _=>[id]
 | _=>[]
def TV.gu:TV->List Nat
 | .r _ id _ _=>[id]
 | _=>[]
def TV.de:List TV->List Nat
 | []=>[]
 | x::xs=>x.gu++TV.de xs
def TV.dx:TV->List Nat
 | .a cs=>TV.de cs
 | .g b v=>bif b then v.dx else []
 | x=>x.gu
def TV.bU:List TV->List Nat
 | []=>[]
 | x::xs=>x.b4++TV.bU xs
def TV.refs:TV->List Nat
 | .a cs=>TV.bU cs
 | .g b v=>bif b then v.refs else []
 | x=>x.b4
def TV.cp:TV->List Nat
 | .p id _ _=>[id]
 | .g b v=>bif b then v.cp else []
 | _=>[]
def Kb:aG->aG
 | .sl e ts _ es=>.sl e ts .fz es
 | b=>b
def lI(h:Nat->aG):List Nat->List (Nat × aG)
 | []=>[]
 | id::ids=>(id,Kb (h id))::lI h ids
def tu(agg:Bool)(cs:List TV):Option TV :=
 if agg then some (.a cs) else match cs with
  | [x]=>bif x.one then some x else none
  | _=>none
def aG.alive:aG->Bool
 | .box _=>true
 | .sl ..=>true
 | _=>false
def vF:List TV->Option (List Int)
 | []=>some []
 | .c (.int .i64) x::r=>match vF r with
  | some l=>some (x::l)
  | none=>none
 | _=>none
def Kc:TV->Option Int
 | .c (.int _) x=>some x
 | _=>none
def tv(T:Nat->TV)(m:Int):Option bJ->Option Int
 | some l=>Kc (l.ev T)
 | none=>some m
def pL(h:Nat->aG):TV->Option TV
 | .a cs=>match TV.lH h cs with
  | some ds=>some (.a ds)
  | none=>none
 | .p id 0 0=>match h id with
  | .box cs=>match TV.bU cs with
   | []=>match TV.lH h cs with
    | some ds=>some (.bx ds)
    | none=>none
   | _=>none
  | _=>none
 | x=>x.jf h
def yI(h:Nat->aG):List TV->Option (List TV)
 | []=>some []
 | x::xs=>match pL h x,yI h xs with
  | some d,some ds=>some (d::ds)
  | _,_=>none
def iC:Option Prop->Option Prop->Option Prop
 | none,q=>q
 | some p,none=>some p
 | some p,some q=>some (p/\q)
def Kd(h:Nat->aG):TV->Option (Option Prop × TV)
 | .r ts id 0 len=>match h id with
  | .sl e cl .ow es=>bif CT.dC cl ts then some (some (len=es.length),.ow e cl .ow es) else none
  | _=>none
 | _=>none
def CC(h:Nat->aG):TV->Option (Option Prop × TV)
 | .c t x=>bif t.flat then some (none,.c t x) else none
 | .r ts id 0 len=>match h id with
  | .sl _ cl (.dp _ _ []) es=>bif CT.dC cl ts then some (some (len=es.length),.ow 0 cl dw es) else none
  | _=>none
 | _=>none
def yJ(h:Nat->aG):List TV->Option (Option Prop × List TV)
 | []=>some (none,[])
 | x::xs=>match CC h x,yJ h xs with
  | some (p,d),some (q,ds)=>some (iC p q,d::ds)
  | _,_=>none
def CD(h:Nat->aG):TV->Option (Option Prop × TV)
 | .a cs=>match yJ h cs with
  | some (p,ds)=>some (p,.a ds)
  | none=>none
 | .r ts id off len=>CC h (.r ts id off len)
 | _=>none
def CE(h:Nat->aG):AM->TV->Option (Option Prop × TV)
 | .d,x=>match pL h x with
  | some d=>some (none,d)
  | none=>none
 | .o,x=>Kd h x
 | .p,x=>CD h x
def qX(h:Nat->aG):List AM->List TV->Option (Option Prop × List TV)
 | [],xs=>match yI h xs with
  | some ds=>some (none,ds)
  | none=>none
 | m::ms,xs=>match xs with
  | []=>some (none,[])
  | x::xs=>match CE h m x,qX h ms xs with
   | some (p,d),some (q,ds)=>some (iC p q,d::ds)
   | _,_=>none
def tw:List AM->List TV->List TV
 | [],_=>[]
 | m::ms,xs=>match xs with
  | []=>[]
  | x::xs=>bif m.h then x::tw ms xs else tw ms xs
def qY:List AM->List TV->List TV
 | [],xs=>xs
 | m::ms,xs=>match xs with
  | []=>[]
  | x::xs=>bif m.h then qY ms xs else x::qY ms xs
def Vz:aG->aG->aG
 | .sl e _ (.dp g _ _) _,.sl _ ts (.dp _ _ []) es=>.sl e ts (.dp (g+1) false []) es
 | .sl _ _ (.dp _ _ _) _,_=>.dead
 | _,B=>B
def CF(h:Nat->aG):List Nat->List aG->List (Nat × aG)
 | id::ids,x::xs=>(id,Vz (h id) x)::CF h ids xs
 | _,_=>[]
def CG:List Nat->List Nat->Bool
 | [],_=>true
 | x::xs,ys=>(ys.all λy=>!Nat.beq x y)&&CG xs ys
def TV.nQ(b:Nat):TV->TV
 | .r ts id off len=>.r ts (id+b) off len
 | .p id i j=>.p (id+b) i j
 | .c t x=>.c t x
 | .n ts=>.n ts
 | .q ts x j=>.q ts x j
 | _=>.u
def TV.lZ(b:Nat):TV->TV
 | .a cs=>.a (cs.map (TV.nQ b))
 | x=>x.nQ b
def TV.sh(b:Nat):TV->TV
 | .tp vs=>.tp (vs.map (TV.lZ b))
 | .g d v=>.g d (v.sh b)
 | x=>x.lZ b
def aG.sh(b:Nat):aG->aG
 | .box cs=>.box (cs.map (TV.nQ b))
 | x=>x
def CH(b:Nat):List aG->List (Nat × aG)
 | []=>[]
 | x::xs=>(b,x)::CH (b+1) xs
def CI:List Nat->List (List TV)->List (Nat × aG)
 | id::ids,cs::cL=>(id,.box cs)::CI ids cL
 | _,_=>[]
def yK(T:Nat->TV):List TV->List (Nat × Nat × bJ)->Option (List TV)
 | cs,[]=>some cs
 | cs,(off,n,x)::r =>
  bif Nat.beq (x.ev T).cells.length n&&Nat.ble (off+n) cs.length&&(x.ev T).st then yK T (bB cs off (x.ev T).cells) r else none
def yL(h:Nat->aG)(T:Nat->TV)(ts:List CT):List bJ->Option (List (aV ts))
 | []=>some []
 | x::r=>match aV.of h ts (x.ev T).cells,yL h T ts r with
  | some e,some es=>some (e::es)
  | _,_=>none
def qZ:List Nat->Bool
 | []=>true
 | x::xs=>!(xs.elem x)&&qZ xs
def jg(l:List TV)(j n:Nat):Option (List TV):=bif Nat.ble (j+n) l.length then some ((l.drop j).take n) else none
def tx(op:BinOp):TV->TV->Option TE
 | .c (.int k) x,.c (.int k') y =>
  match op with
  | .shl=>some ⟨some ((0:Int)<=y),.c (.int k) (k.wrap (x*2 ^ (min (Int.toNat y) k.bits))),[]⟩
  | .shr=>some ⟨some ((0:Int)<=y),.c (.int k) (Int.fdiv x (2 ^ (min (Int.toNat y) k.bits))),[]⟩
  | op=>if k=k' then(match op with
   | .add=>some ⟨none,.c (.int k) (k.wrap (x+y)),[]⟩
   | .sub=>some ⟨none,.c (.int k) (k.wrap (x-y)),[]⟩
   | .mul=>some ⟨none,.c (.int k) (k.wrap (x*y)),[]⟩
   | .quo=>some ⟨some (¬ (y:Int)=0),.c (.int k) (k.wrap (Int.tdiv x y)),[]⟩
   | .rem=>some ⟨some (¬ (y:Int)=0),.c (.int k) (Int.tmod x y),[]⟩
   | .and=>some ⟨none,.c (.int k) (k.wrap ((BitVec.ofInt k.bits x &&& BitVec.ofInt k.bits y).toNat)),[]⟩
   | .or=>some ⟨none,.c (.int k) (k.wrap ((BitVec.ofInt k.bits x ||| BitVec.ofInt k.bits y).toNat)),[]⟩
   | .xor=>some ⟨none,.c (.int k) (k.wrap ((BitVec.ofInt k.bits x ^^^ BitVec.ofInt k.bits y).toNat)),[]⟩
   | .eql=>some ⟨none,.c .bool ((x:Int)==y),[]⟩
   | .neq=>some ⟨none,.c .bool ((x:Int) != y),[]⟩
   | .lss=>some ⟨none,.c .bool (decide ((x:Int)<y)),[]⟩
   | .leq=>some ⟨none,.c .bool (decide ((x:Int)<=y)),[]⟩
   | .gtr=>some ⟨none,.c .bool (decide ((x:Int)>y)),[]⟩
   | .geq=>some ⟨none,.c .bool (decide ((x:Int)>=y)),[]⟩
   | _=>none) else none
 | .c .str x,.c .str y=>match op with
  | .eql=>some ⟨none,.c .bool (ByteArray.toList x==ByteArray.toList y),[]⟩
  | .neq=>some ⟨none,.c .bool (!(ByteArray.toList x==ByteArray.toList y)),[]⟩
  | _=>none
 | _,_=>none
def eh{α:Type}(b:Bool)(x y:α):α:=match b with
 | true=>x
 | false=>y
def gt(ts:List CT)(l:List (aV ts))(i:Nat):aV ts:=l.getD i (aV.yH ts)
def aV.cu(id g i:Nat):Nat->(ts:List CT)->aV ts->List TV
 | _,[],_=>[]
 | j,t::ts,x=>(match t,hd ts x with
  | .sl us,l=>TV.bs us l id g [(i,j)]
  | t,v=>.c t v)::aV.cu id g i (j+1) ts (tl ts x)
def aV.dq(m:Mo)(id i:Nat)(ts:List CT)(x:aV ts):List TV:=match m with
 | .dp g _ _=>aV.cu id g i 0 ts x
 | _=>aV.cells ts x
def aV.b3(id g:Nat)(p:cM)(i:Nat):Nat->(ts:List CT)->aV ts->List TV
 | _,[],_=>[]
 | j,t::ts,x=>(match t,hd ts x with
  | .sl us,l=>TV.bs us l id g (p++[(i,j)])
  | t,v=>.c t v)::aV.b3 id g p i (j+1) ts (tl ts x)
def TV.eY(h:Nat->aG)(id g i j:Nat):TV->Option (Option Prop)
 | .c t _=>bif t.flat then some none else none
 | .n _=>some none
 | .r _ cn _ _=>bif !(Nat.beq cn id)&&(h cn).sv then some none else none
 | .bs _ _ cn g' pt=>match pt with
  | [(i',j')]=>bif Nat.beq cn id&&Nat.beq g' g&&Nat.beq j' j then some (some (i'=i)) else none
  | _=>none
 | _=>none
def TV.dM(h:Nat->aG)(id g i:Nat):Nat->List TV->Option (Option Prop)
 | _,[]=>some none
 | j,x::xs=>match x.eY h id g i j,TV.dM h id g i (j+1) xs with
  | some P,some Q=>some (iC P Q)
  | _,_=>none
def CJ(h:Nat->aG)(b:Nat)(T:Nat->TV):Nat->List bJ->Option (Option Prop)
 | _,[]=>some none
 | i,x::r=>match TV.dM h b 0 i 0 (x.ev T).cells,CJ h b T (i+1) r with
  | some p,some q=>some (iC p q)
  | _,_=>none
def kx:List Nat->List (Nat × aG)
 | []=>[]
 | id::ids=>(id,.dead)::kx ids
def TV.pl:TV->Bool
 | .c t _=>t.flat
 | .n _=>true
 | _=>false
def aG.lJ:aG->Bool
 | .sl _ _ (.dp _ _ _) _=>true
 | _=>false
def TV.jy(h:Nat->aG)(ts:List CT):TV->Bool
 | .r _ idx _ _=>!(h idx).lJ||ts.all CT.flat
 | .bs ..=>ts.all CT.flat
 | _=>true
def TV.dT(h:Nat->aG)(id len:Nat)(ts:List CT):TV->Option (Option Prop)
 | .r _ idx off _=>bif (h idx).lJ then(bif Nat.beq idx id then some (some (len<=off)) else some none) else bif ts.all CT.flat then some none else none
 | _=>bif ts.all CT.flat then some none else none
def TV.dy(h:Nat->aG):TV->List Nat
 | .r _ idx _ _=>bif (h idx).lJ then [idx] else []
 | _=>[]
def tz:TV->Bool
 | .c t _=>t.flat
 | _=>false
def Ke(Γ:aN)(h:Nat->aG)(b:Nat)(f:FuncId)(id g i j:Nat)(xs:List TV):Option TE :=
 match h id with
 | .sl e ts (.dp g0 t []) es=>match(aV.cells ts (gt ts es i))[j]? with
  | some (.c (.sl us) l)=>match me Γ.rows f with
   | some row=>bif Yv row.sg (.ow 0 us dw l::xs)&&Nat.beq g0 g&&xs.all tz&&!us.isEmpty then(match row.fn (.ow 0 us dw l::xs) with
    | some (pre,⟨v,[],[],_,[.sl _ mZ (.dp _ _ []) fk]⟩)=>match aV.of (λ_=>.none) ts (bB (aV.cells ts (gt ts es i)) j [.c (.sl mZ) fk]) with
     | some x=>bif CT.dC mZ us then some ⟨iC (some (i<es.length)) pre,v.sh b,[(b,.dead),(id,.sl e ts (.dp (g+1) t []) (es.set i x))]⟩ else none
     | none=>none
    | _=>none) else none
   | none=>none
  | _=>none
 | _=>none
def Kf(ms:List AM)(xs:List TV):Option (Nat × Nat × Nat × Nat × List TV) :=
 match ms,xs with
 | .p::ms,.bs _ _ id g [(i,j)]::r=>if ms.all (λm=>!m.h)=true then some (id,g,i,j,r) else none
 | _,_=>none
def Kg(Γ:aN)(h:Nat->aG)(b:Nat)(f:FuncId)(xs:List TV)(row:aP):Option TE :=
 match qX h (g7 row.sg) xs with
   | some (p0,vs)=>bif Yv row.sg vs then(match row.fn vs with
    | some (pre,r)=>bif Nat.ble r.hb.length 16&&((r.bx.isEmpty&&r.gv.isEmpty)||r.al)&&qZ ((qY (g7 row.sg) xs).flatMap TV.cp) &&
       qZ ((tw (g7 row.sg) xs).flatMap TV.refs)&&CG ((tw (g7 row.sg) xs).flatMap TV.refs) ((qY (g7 row.sg) xs).flatMap TV.refs) then
      some ⟨iC p0 pre,r.v.sh b,CH b (r.hb.map (aG.sh b))++CI ((qY (g7 row.sg) xs).flatMap TV.cp) r.bx++CF h ((tw (g7 row.sg) xs).flatMap TV.refs) r.gv ++
       (if r.al then lI h ((qY (g7 row.sg) xs).flatMap TV.refs) else [])⟩ else none
    | none=>none) else none
   | none=>none
def ZE(Γ:aN)(T:Nat->TV)(h:Nat->aG)(b:Nat):eB->Option TE
 | .eY x=>some ⟨none,x.ev T,[]⟩
 | .pick c x y=>match c.ev T,x.ev T,y.ev T with
  | .c .bool c,.c .bool x,.c .bool y=>some ⟨none,.c .bool (bif c then x else y),[]⟩
  | _,_,_=>none
 | .bin op x y=>tx op (x.ev T) (y.ev T)
 | .im n neg x y=>match x.ev T,y.ev T with
  | .a xs,.a ys=>match vF xs,vF ys with
   | some l,some m=>bif Nat.beq l.length n&&Nat.beq m.length n then some ⟨none,.c .bool (eh neg (!decide (l=m)) (decide (l=m))),[]⟩ else none
   | _,_=>none
  | _,_=>none
 | .j1 neg x y=>match x.ev T,y.ev T with
  | .c .bool x,.c .bool y=>some ⟨none,.c .bool (eh neg (!((x:Bool)==y)) ((x:Bool)==y)),[]⟩
  | _,_=>none
 | .not x=>match x.ev T with
  | .c .bool c=>some ⟨none,.c .bool (!c),[]⟩
  | _=>none
 | .neg x=>match x.ev T with
  | .c (.int k) n=>some ⟨none,.c (.int k) (k.wrap (0-n)),[]⟩
  | _=>none
 | .new _ zs=>some ⟨none,.p b 0 0,[(b,.box zs)]⟩
 | .box _ x n=>bif Nat.beq (x.ev T).cells.length n&&(x.ev T).st then some ⟨none,.p b 0 0,[(b,.box (x.ev T).cells)]⟩ else none
 | .load x n agg=>match x.ev T with
  | .p id i j=>match h id with
   | .box cs=>match i with
    | 0=>match jg cs j n with
     | some l=>match tu agg l with
      | some v=>some ⟨none,v,[]⟩
      | none=>none
     | none=>none
    | _=>none
   | .sl _ ts m es=>bif m.full then(match jg (aV.dq m id i ts (gt ts es i)) j n with
    | some l=>match tu agg l with
     | some v=>some ⟨some (i<es.length),v,[]⟩
     | none=>none
    | none=>none) else none
   | _=>none
  | .bq ts x j id g p i=>bif (h id).pK g then(match jg (aV.b3 id g p i 0 ts x) j n with
   | some l=>match tu agg l with
    | some v=>some ⟨none,v,[]⟩
    | none=>none
   | none=>none) else none
  | .q ts x j=>match jg (aV.cells ts x) j n with
   | some l=>match tu agg l with
    | some v=>some ⟨none,v,[]⟩
    | none=>none
   | none=>none
  | _=>none
 | .store x v n=>bif Nat.beq (v.ev T).cells.length n&&(v.ev T).st then(match x.ev T with
  | .p id i j=>match h id with
   | .box cs=>match i with
    | 0=>bif Nat.ble (j+n) cs.length then some ⟨none,.u,[(id,.box (bB cs j (v.ev T).cells))]⟩ else none
    | _=>none
   | .sl e ts .ow es=>match aV.of h ts (bB (aV.cells ts (gt ts es i)) j (v.ev T).cells) with
    | some x=>bif Nat.ble (j+n) ts.length&&!((v.ev T).refs.elem id) then some ⟨some (i<es.length),.u,(id,.sl e ts .ow (es.set i x))::lI h (v.ev T).refs⟩ else none
    | none=>none
   | .sl e ts (.dp g t []) es=>match aV.of h ts (bB (aV.cells ts (gt ts es i)) j (v.ev T).cells) with
    | some x=>match TV.dM h id g i j (v.ev T).cells with
     | some q=>bif Nat.ble (j+n) ts.length&&qZ (v.ev T).dx then some ⟨iC (some (i<es.length)) q,.u,(id,.sl e ts (.dp (g+1) t []) (es.set i x))::kx (v.ev T).dx⟩ else none
     | none=>none
    | none=>none
   | _=>none
  | _=>none) else none
 | .lj x off=>match x.ev T with
  | .p id i j=>bif (h id).alive then some ⟨none,.p id i (j+off),[]⟩ else none
  | .q ts x j=>some ⟨none,.q ts x (j+off),[]⟩
  | .bq ts x j id g p i=>bif (h id).pK g then some ⟨none,.bq ts x (j+off) id g p i,[]⟩ else none
  | _=>none
 | .j9 x i ts=>match i.ev T with
  | .c (.int _) i=>match x.ev T with
   | .c (.sl cl) l=>bif CT.dC cl ts then some ⟨some ((0:Int)<=i/\Int.toNat i<List.length l),.q cl (gt cl l (Int.toNat i)) 0,[]⟩ else none
   | .r cl id off len=>bif CT.dC cl ts&&(h id).alive then some ⟨some ((0:Int)<=i/\Int.toNat i<len),.p id (off+Int.toNat i) 0,[]⟩ else none
   | .bs cl l id g p=>bif CT.dC cl ts&&(h id).pK g then some ⟨some ((0:Int)<=i/\Int.toNat i<List.length l),.bq cl (gt cl l (Int.toNat i)) 0 id g p (Int.toNat i),[]⟩ else none
   | _=>none
  | _=>none
 | .lY x off n agg=>match x.ev T with
  | .a cs=>match jg cs off n with
   | some l=>match tu agg l with
    | some v=>some ⟨none,v,[]⟩
    | none=>none
   | none=>none
  | _=>none
 | .build zs ps=>match yK T zs ps with
  | some cs=>some ⟨none,.a cs,[]⟩
  | none=>none
 | .bO e ts ps=>match yL h T ts ps with
  | some es=>match Γ.dp with
   | true=>match CJ h b T 0 ps with
    | some q=>bif qZ (ps.flatMap λx=>(x.ev T).dx) then some ⟨q,.r ts b 0 es.length,(b,.sl e ts (.dp 0 true []) es)::kx (ps.flatMap λx=>(x.ev T).dx)⟩ else none
    | none=>none
   | false=>some ⟨none,.r ts b 0 es.length,(b,.sl e ts .ow es)::lI h (ps.flatMap λx=>(x.ev T).refs)⟩
  | none=>none
 | .mk e ts zs n=>match n.ev T,aV.of h ts zs with
  | .c (.int _) n,some z=>bif !Γ.dp||zs.all TV.pl then some ⟨some ((0:Int)<=n/\n<=bP),.r ts b 0 (Int.toNat n),[(b,.sl e ts (eh Γ.dp (.dp 0 true []) .ow) (List.replicate (Int.toNat n) z))]⟩ else none
  | _,_=>none
 | .fO x lo hi ts =>
  match tv T 0 lo with
  | some lo=>match x.ev T with
   | .c (.sl cl) l=>match tv T (List.length l) hi with
    | some hi=>bif CT.dC cl ts then some ⟨some (0<=lo/\lo<=hi/\hi<=List.length l),.c (.sl cl) (List.take (hi.toNat-lo.toNat) (List.drop lo.toNat l)),[]⟩ else none
    | none=>none
   | .r cl id off len=>match tv T len hi with
    | some hi=>bif CT.dC cl ts&&(h id).alive then some ⟨some (0<=lo/\lo<=hi/\hi<=len),.r cl id (off+lo.toNat) (hi.toNat-lo.toNat),[]⟩ else none
    | none=>none
   | .n _=>match tv T 0 hi with
    | some hi=>some ⟨some (lo=0/\hi=0),.n ts,[]⟩
    | none=>none
   | _=>none
  | none=>none
 | .len x=>match x.ev T with
  | .c (.sl _) l=>some ⟨none,.c (.int .i64) (List.length l:Int),[]⟩
  | .n _=>some ⟨none,.c (.int .i64) (0:Int),[]⟩
  | .r _ id _ len=>bif (h id).alive then some ⟨none,.c (.int .i64) (len:Int),[]⟩ else none
  | .bs _ l id g _=>bif (h id).pK g then some ⟨none,.c (.int .i64) (List.length l:Int),[]⟩ else none
  | _=>none
 | .app s x e ts=>match(x.ev T).eW h (.sl ts) with
  | some xs=>match s.ev T with
   | .n _=>match Γ.dp with
    | true=>match(x.ev T).dT h b 0 ts with
     | some q=>some ⟨iC (some (List.length xs<=bP)) q,.r ts b 0 (List.length xs),kx ((x.ev T).dy h)++[(b,.sl e ts (.dp 0 true []) xs)]⟩
     | none=>none
    | false=>bif (x.ev T).jy h ts then some ⟨some (List.length xs<=bP),.r ts b 0 (List.length xs),[(b,.sl e ts .ow xs)]⟩ else none
   | .r _ id 0 len=>match h id with
    | .sl e' cl .ow es=>if q:CT.dC cl ts=true then(bif Nat.beq e' e&&(x.ev T).jy h ts then
      some ⟨some ((len=es.length\/len+List.length xs<=es.length)/\len+List.length xs<=bP),.r ts b 0 (len+List.length xs),[(id,.dead),(b,.sl e ts .ow ((vE q es).take len++xs))]⟩ else none) else none
    | .sl e' cl (.dp _ true []) es=>if q:CT.dC cl ts=true then(bif Nat.beq e' e then(match(x.ev T).dT h id len ts with
      | some r=>some ⟨iC (some ((len=es.length\/len+List.length xs<=es.length)/\len+List.length xs<=bP)) r,.r ts b 0 (len+List.length xs),(id,.dead)::kx ((x.ev T).dy h)++[(b,.sl e ts (.dp 0 true []) ((vE q es).take len++xs))]⟩
      | none=>none) else none) else none
    | _=>none
   | _=>none
  | none=>none
 | .mm mx x y=>match x.ev T,y.ev T with
  | .c (.int k) x,.c (.int _) y=>some ⟨none,.c (.int k) (eh mx (if(x:Int)<y then y else x) (if(y:Int)<x then y else x)),[]⟩
  | _,_=>none
 | .call f args=>match me Γ.rows f with
  | some row=>match Kf (g7 row.sg) (args.map λx=>x.ev T) with
   | some (id,g,i,j,r)=>Ke Γ h b f id g i j r
   | none=>Kg Γ h b f (args.map λx=>x.ev T) row
  | none=>none
 | .ext x i=>match x.ev T with
  | .tp vs=>match vs[i]? with
   | some v=>bif v.st then some ⟨none,v,[]⟩ else none
   | none=>none
  | _=>none
 | .conv k x=>match x.ev T with
  | .c (.int _) n=>some ⟨none,.c (.int k) (k.wrap n),[]⟩
  | _=>none
 | .gU x=>match x.ev T with
  | .p id i j=>bif (h id).alive then some ⟨none,.p id i j,[]⟩ else none
  | .q ts x j=>some ⟨none,.q ts x j,[]⟩
  | .bq ts x j id g p i=>bif (h id).pK g then some ⟨none,.bq ts x j id g p i,[]⟩ else none
  | _=>none
end Go.Proofs.YtdplaepmjogjjaaGreat.Am
namespace Go.Proofs.YtdplaepmjogjjaaGreat.Am
open Go Go.RowKit
@[simp] theorem Kh{ts:List CT}(e:CT.dC ts ts=true)(l:List (aV ts)):vE e l=l:=rfl
@[simp] theorem Q4y{t:CT}(e:t.beq t=true)(x:t.den):CB e x=x:=rfl
theorem aG.bM{e:TypeId}{ts:List CT}{m:Mo}{es:List (aV ts)}:(aG.sl e ts m es).aH = .sl e ts.length m (es.map (a9 ts)):=rfl
theorem aG.ff{cs:List TV}:(aG.box cs).aH = .box (cs.map TV.aW):=rfl
theorem aG.jQ:aG.dead.aH = .dead:=rfl
theorem ZP(T:Nat->TV)(o:bJ):o.er.ev (λs=>(T s).aH)=(o.ev T).aH:=by cases o <;> rfl
theorem tA{x:TV}(h:x.one=true):x.aH=x.aW:=by cases x <;> first | rfl | simp[TV.one]at h
theorem Ki{x:TV}(h:x.st=true):x.aH.st=true:=by cases x <;> first | rfl | simp[TV.st,TV.one]at h
theorem yM{x:TV}(h:x.st=true):x.aH.cells=x.cells.map TV.aW:=by cases x <;> first | rfl | simp[TV.st,TV.one]at h
theorem QOC{x:TV}:x.aW.b4=x.b4:=by cases x <;> rfl
theorem Q08{x:TV}:x.aW.gu=x.gu:=by cases x <;> rfl
theorem VA:∀ {xs:List TV},AV.de (xs.map TV.aW)=TV.de xs
 | []=>rfl
 | x::xs=>by simp only[List.map_cons,AV.de,TV.de,Q08,VA (xs:=xs)]
theorem Kj:∀ {xs:List TV},AV.bU (xs.map TV.aW)=TV.bU xs
 | []=>rfl
 | x::xs=>by simp only[List.map_cons,AV.bU,TV.bU,QOC,Kj (xs:=xs)]
theorem CK:∀ {x:TV},x.aH.refs=x.refs
 | .a cs=>Kj
 | .g true v=>CK (x:=v)
 | .g false v=>rfl
 | .u=>rfl
 | .c _ _=>rfl
 | .n _=>rfl
 | .r ..=>rfl
 | .p ..=>rfl
 | .q ..=>rfl
 | .tp _=>rfl
 | .bx _=>rfl
 | .ow ..=>rfl
 | .bs ..=>rfl
 | .bq ..=>rfl
theorem Kk:∀ {x:TV},x.aH.dx=x.dx
 | .a cs=>VA
 | .g true v=>Kk (x:=v)
 | .g false v=>rfl
 | .u=>rfl
 | .c _ _=>rfl
 | .n _=>rfl
 | .r ..=>rfl
 | .p ..=>rfl
 | .q ..=>rfl
 | .tp _=>rfl
 | .bx _=>rfl
 | .ow ..=>rfl
 | .bs ..=>rfl
 | .bq ..=>rfl
theorem VB:∀ {x:TV},x.aH.cp=x.cp
 | .a cs=>rfl
 | .g true v=>VB (x:=v)
 | .g false v=>rfl
 | .u=>rfl
 | .c _ _=>rfl
 | .n _=>rfl
 | .r ..=>rfl
 | .p ..=>rfl
 | .q ..=>rfl
 | .tp _=>rfl
 | .bx _=>rfl
 | .ow ..=>rfl
 | .bs ..=>rfl
 | .bq ..=>rfl
theorem Q0I{h:Nat->aG}{t:CT}{x:TV}{d:t.den}(e:x.eW h t=some d):x.one=true:=by
 cases x <;> first | rfl | simp[TV.eW]at e
theorem Q6{α:Type}{b:Bool}{x:Option α}{y:α}(h:(bif b then x else none)=some y):b=true/\x=some y:=by
 cases b with
 | true=>exact⟨rfl,h⟩
 | false=>cases h
theorem Q1P(b:aG):b.aH.dG=b.dG:=by
 cases b with
 | sl e ts m es =>
  cases m with
  | dp g t H=>cases H <;> rfl
  | _=>rfl
 | _=>rfl
theorem Q4v(b:aG):b.aH.sv=b.sv:=by
 cases b with
 | sl e ts m es =>
  cases m with
  | dp g t H=>cases H <;> rfl
  | _=>rfl
 | _=>rfl
theorem tB{b:aG}{g:Nat}(h:b.pK g=true):b.aH.dG=some g:=by
 rw[Q1P];unfold aG.pK at h
 cases hx:b.dG with
 | none=>rw[hx]at h;cases h
 | some g'=>rw[hx]at h;rw[Nat.eq_of_beq_eq_true h]
theorem VC{h:Nat->aG}{t:CT}{x:TV}{d:t.den}(e:x.eW h t=some d):x.aW.d (λi=>(h i).aH)=some (enc t d):=by
 cases x with
 | c t' x =>
  simp only[TV.eW]at e
  split at e
  ·rename_i q;obtain rfl:=CT.beq_eq _ _ q
   cases e;rfl
  ·cases e
 | n ts =>
  cases t with
  | sl cl =>
   simp only[TV.eW]at e;obtain⟨q,e⟩:=Q6 e;obtain rfl:=CT.b6 _ _ q
   cases e;simp[TV.aW,AV.d,enc]
  | _=>simp[TV.eW]at e
 | r ts id off len =>
  cases t with
  | sl cl =>
   simp only[TV.eW]at e
   split at e
   rotate_left
   ·cases e
   rename_i hh;obtain⟨hf,e⟩:=Q6 e
   split at e
   rotate_left
   ·cases e
   rename_i q;obtain rfl:=CT.b6 _ _ q
   cases e;simp only[TV.aW,AV.d,hh,aG.aH,Kh,enc,List.map_take,List.map_drop,hf,if_true]
  | _=>simp[TV.eW]at e
 | bs ts l id g p =>
  cases t with
  | sl cl =>
   simp only[TV.eW]at e;obtain⟨hv,e⟩:=Q6 e
   split at e
   rotate_left
   ·cases e
   rename_i q;obtain rfl:=CT.b6 _ _ q
   cases e;simp only[TV.aW,AV.d,tB hv,Kh,enc,if_true]
  | _=>simp[TV.eW]at e
 | _=>simp[TV.eW]at e
theorem yN{A:Type}(ts:List CT)(a:A)(b:aV ts):hd ts (mX ts a b)=a:=by cases ts <;> rfl
theorem yO{A:Type}(ts:List CT)(a:A)(b:aV ts):tl ts (mX ts a b)=b:=by cases ts <;> rfl
theorem vH{h:Nat->aG}:∀(ts:List CT)(xs:List TV)(d:aV ts),aV.of h ts xs=some d->AV.ds (λi=>(h i).aH) (xs.map TV.aW)=some (a9 ts d)/\xs.length=ts.length
 | [],xs,d,e=>by
  cases xs with
  | nil=>exact⟨rfl,rfl⟩
  | cons x xs=>cases(show(none:Option (aV []))=some d from e)
 | t::ts,xs,d,e=>by
  cases xs with
  | nil=>cases(show(none:Option (aV (t::ts)))=some d from e)
  | cons x xs =>
   have e:(match x.eW h t,aV.of h ts xs with | some a,some b=>some (mX ts a b) | _,_=>none)=some d:=e
   split at e
   rotate_left
   ·cases e
   rename_i a b ha hb
   cases e;have h1:=VC (t:=t) ha;obtain⟨h2,h3⟩:=vH ts xs b hb;rw[a9,yN,yO];simp only[List.map_cons,AV.ds,h1,h2,List.length_cons,h3,and_self]
theorem tC:∀(ts:List CT)(x:aV ts),(a9 ts x).length=ts.length
 | [],x=>by rw[a9];rfl
 | t::ts,x=>by rw[a9,List.length_cons,List.length_cons,tC ts]
theorem q9:∀(ts:List CT)(x:aV ts),(aV.cells ts x).map TV.aW=(a9 ts x).map AV.c
 | [],x=>by rw[a9,aV.cells];rfl
 | t::ts,x=>by rw[a9,aV.cells,List.map_cons,List.map_cons,q9 ts];rfl
theorem yP{α β:Type}(f:α->β)(l:List α)(j:Nat)(xs:List α):(bB l j xs).map f=bB (l.map f) j (xs.map f):=by
 simp[bB]
theorem VD{h:Nat->aG}{x y:TV}(e:x.jf h=some y):x.one=true/\∃ t d,y = .c t d/\x.aW.d (λi=>(h i).aH)=some (enc t d):=by
 cases x with
 | c t x=>simp only[TV.jf,Option.some.injEq]at e;subst e;exact⟨rfl,t,x,rfl,rfl⟩
 | n ts=>simp only[TV.jf,Option.some.injEq]at e;subst e;exact⟨rfl,.sl ts,[],rfl,by simp[TV.aW,AV.d,enc]⟩
 | r ts id off len =>
  simp only[TV.jf]at e
  split at e
  rotate_left
  ·cases e
  rename_i hh;obtain⟨hf,e⟩:=Q6 e;simp only[Option.some.injEq]at e;subst e;exact⟨rfl,_,_,rfl,by simp only[TV.aW,AV.d,hh,aG.aH,enc,List.map_take,List.map_drop,hf,if_true]⟩
 | bs ts l id g p =>
  simp only[TV.jf]at e;obtain⟨hv,e⟩:=Q6 e;simp only[Option.some.injEq]at e;subst e;exact⟨rfl,_,_,rfl,by simp only[TV.aW,AV.d,tB hv,enc,if_true]⟩
 | _=>simp[TV.jf]at e
theorem Kl{h:Nat->aG}:∀ {xs ys:List TV},TV.lH h xs=some ys->∃ ds,AV.ds (λi=>(h i).aH) (xs.map TV.aW)=some ds/\ys.map TV.aW=ds.map AV.c
 | [],ys,e=>by simp only[TV.lH,Option.some.injEq]at e;subst e;exact⟨[],rfl,rfl⟩
 | x::xs,ys,e=>by
  simp only[TV.lH]at e
  split at e
  rotate_left
  ·cases e
  rename_i a b ha hb;simp only[Option.some.injEq]at e;subst e;obtain⟨_,t,d,rfl,h2⟩:=VD ha;obtain⟨ds,h3,h4⟩:=Kl hb;exact⟨enc t d::ds,by simp only[List.map_cons,AV.ds,h2,h3],by simp only[List.map_cons,h4,TV.aW]⟩
theorem VE{h:Nat->aG}{x y:TV}(e:pL h x=some y):x.aH.arg (λi=>(h i).aH)=some y.aH:=by
 unfold pL at e
 split at e
 ·rename_i cs
  split at e
  rotate_left
  ·cases e
  rename_i ds cA;simp only[Option.some.injEq]at e;subst e;obtain⟨d,h1,h2⟩:=Kl cA;simp only[TV.aH,TV.cw,AV.arg,h1,h2]
 ·rename_i id
  split at e
  rotate_left
  ·cases e
  rename_i cs hh
  split at e
  rotate_left
  ·cases e
  rename_i hr
  split at e
  rotate_left
  ·cases e
  rename_i ds cA;simp only[Option.some.injEq]at e;subst e;obtain⟨d,h1,h2⟩:=Kl cA;show(match(h id).aH with
   | .box cs=>if AV.bU cs=[] then(match AV.ds (λi=>(h i).aH) cs with
    | some ds=>some (AV.bx (ds.map .c))
    | none=>none) else none
   | _=>none)=some (TV.aH (.bx ds))
  rw[hh];show(if AV.bU (cs.map TV.aW)=[] then(match AV.ds (λi=>(h i).aH) (cs.map TV.aW) with
    | some ds=>some (AV.bx (ds.map .c))
    | none=>none) else none)=some (TV.aH (.bx ds))
  rw[if_pos (by rw[Kj,hr]),h1];simp only[TV.aH,h2]
 ·obtain⟨h1,t,d,rfl,h2⟩:=VD e;rw[tA h1]
  cases x with
  | c t' x=>simp only[TV.aW,AV.d,Option.some.injEq]at h2;simp only[TV.aW,AV.arg,TV.aH,TV.cw,h2]
  | n ts=>simp only[TV.aW,AV.d,Option.some.injEq]at h2;simp only[TV.aW,AV.arg,TV.aH,TV.cw,h2]
  | r ts id off len=>simp only[TV.aW]at h2;simp only[TV.aW,AV.arg,TV.aH,TV.cw,h2]
  | bs ts l id g p=>simp only[TV.aW]at h2;simp only[TV.aW,AV.arg,TV.aH,TV.cw,h2]
  | _=>simp[TV.jf]at e
theorem VF{h:Nat->aG}:∀ {xs ys:List TV},yI h xs=some ys->AV.iK (λi=>(h i).aH) (xs.map TV.aH)=some (ys.map TV.aH)
 | [],ys,e=>by simp only[yI,Option.some.injEq]at e;subst e;rfl
 | x::xs,ys,e=>by
  simp only[yI]at e
  split at e
  rotate_left
  ·cases e
  rename_i a b ha hb;simp only[Option.some.injEq]at e;subst e;simp only[List.map_cons,AV.iK,VE ha,VF hb]
theorem VG(b:aG):(Kb b).aH=ka b.aH:=by cases b <;> rfl
def dW(p:Nat × aG):Nat × aX:=(p.1,p.2.aH)
theorem CL(h:Nat->aG):∀(ids:List Nat),(lI h ids).map dW=fu (λi=>(h i).aH) ids
 | []=>rfl
 | id::ids=>by simp only[lI,fu,List.map_cons,dW,VG,CL h ids]
theorem yQ(b:aG):b.aH.alive=b.alive:=by cases b <;> rfl
theorem yR{l m:List TV}{j n:Nat}(e:jg l j n=some m):cut (l.map TV.aW) j n=some (m.map TV.aW):=by
 unfold jg at e;obtain⟨q,e⟩:=Q6 e;simp only[Option.some.injEq]at e;subst e;have q:=Nat.le_of_ble_eq_true q;unfold cut;rw[if_pos (by simpa using q)];simp[List.map_take,List.map_drop]
theorem yS{agg:Bool}{cs:List TV}{v:TV}(e:tu agg cs=some v):nP agg (cs.map TV.aW)=some v.aH:=by
 unfold tu at e;unfold nP
 cases agg with
 | true=>simp only[if_true,Option.some.injEq]at e ⊢;subst e;rfl
 | false =>
  simp only[Bool.false_eq_true,if_false]at e ⊢
  split at e
  ·rename_i x;obtain⟨q,e⟩:=Q6 e;simp only[Option.some.injEq]at e;subst e;simp only[List.map_cons,List.map_nil,tA q]
  ·cases e
theorem Km:∀ {xs:List TV} {l:List Int},vF xs=some l->qC (xs.map TV.aW)=some l
 | [],l,e=>by simp only[vF,Option.some.injEq]at e;subst e;rfl
 | x::xs,l,e=>by
  unfold vF at e
  split at e
  ·rename_i h;cases h
  ·rename_i n r h
   cases h
   split at e
   rotate_left
   ·cases e
   rename_i l' h';simp only[Option.some.injEq]at e;subst e;simp only[List.map_cons,TV.aW,enc,qC,Km h']
  ·cases e
theorem QRW{x:TV}{n:Int}(e:Kc x=some n):u2 x.aH=some n:=by
 unfold Kc at e
 split at e
 ·cases e;rfl
 ·cases e
theorem CM{T:Nat->TV}{m:Int}{o:Option bJ}{n:Int}(e:tv T m o=some n):YY (bc.ev λs=>(T s).aH) m (qV o)=some n:=by
 cases o with
 | none=>simpa[tv,YY,qV]using e
 | some l=>simp only[tv]at e;simp only[YY,qV,ZP];exact QRW e
theorem Kn(b:Nat)(x:TV):(x.nQ b).aW=x.aW.nQ b:=by cases x <;> rfl
theorem QRB(b:Nat)(x:TV):(x.lZ b).cw=x.cw.lZ b:=by
 cases x with
 | a cs=>simp only[TV.lZ,TV.cw,AV.lZ,List.map_map];congr 2;funext y;exact Kn b y
 | _=>rfl
theorem Ko(b:Nat):∀(x:TV),(x.sh b).aH=x.aH.sh b
 | .tp vs=>by simp only[TV.sh,TV.aH,AV.sh,List.map_map];congr 2;funext y;exact QRB b y
 | .a cs=>by simp only[TV.sh,TV.lZ,TV.aH,TV.cw,AV.sh,AV.lZ,List.map_map];congr 2;funext y;exact Kn b y
 | .g true v=>Ko b v
 | .g false v=>rfl
 | .u=>rfl
 | .c _ _=>rfl
 | .n _=>rfl
 | .r ..=>rfl
 | .p ..=>rfl
 | .q ..=>rfl
 | .bx _=>rfl
 | .ow ..=>rfl
 | .bs ..=>rfl
 | .bq ..=>rfl
theorem QQq(b:Nat)(x:aG):(x.sh b).aH=x.aH.sh b:=by
 cases x with
 | box cs=>simp only[aG.sh,aG.aH,aX.sh,List.map_map];congr 2;funext y;exact Kn b y
 | _=>rfl
def aJ.aH(r:aJ):iS:=⟨r.v.aH,r.hb.map aG.aH,r.bx.map (·.map TV.aW),r.al,r.gv.map aG.aH⟩
theorem VH(b:Nat):∀(l:List aG)(k:Nat),(CH k (l.map (aG.sh b))).map dW=Jp k ((l.map aG.aH).map (aX.sh b))
 | [],_=>rfl
 | x::xs,k=>by simp only[List.map_cons,CH,Jp,dW,QQq,VH b xs (k+1)]
theorem VI:∀(ids:List Nat)(cL:List (List TV)),(CI ids cL).map dW=JO ids (cL.map (·.map TV.aW))
 | [],[]=>rfl
 | [],_::_=>rfl
 | _::_,[]=>rfl
 | id::ids,cs::cL=>by simp only[CI,JO,List.map_cons,dW,aG.aH,VI ids cL]
theorem Q3w(B0 B:aG):(Vz B0 B).aH=mr B0.aH B.aH:=by
 cases B0 with
 | sl e ts m es =>
  cases m with
  | dp g t H =>
   cases B with
   | sl e1 vI m1 fk =>
    cases m1 with
    | dp g1 t1 H1 =>
     cases H1 with
     | nil=>rfl
     | cons=>rfl
    | _=>rfl
   | _=>rfl
  | _=>rfl
 | _=>rfl
theorem VJ(h:Nat->aG):∀(ids:List Nat)(cL:List aG),(CF h ids cL).map dW=Y0 (λi=>(h i).aH) ids (cL.map aG.aH)
 | [],[]=>rfl
 | [],_::_=>rfl
 | _::_,[]=>rfl
 | id::ids,cs::cL=>by simp only[CF,Y0,List.map_cons,dW,VJ h ids cL,Q3w]
theorem pM{p q:Option Prop}(h:holds (iC p q)):holds p/\holds q:=by
 cases p <;> cases q <;> simp_all [iC,holds]
theorem QVr{h:Nat->aG}{x y:TV}{p:Option Prop}(e:Kd h x=some (p,y))(hp:holds p):x.aH.iL (λi=>(h i).aH)=some y.aH:=by
 unfold Kd at e
 split at e
 ·rename_i ts id len
  split at e
  ·rename_i e0 cl es hh;have q:CT.dC cl ts=true:=by
    cases hq:CT.dC cl ts with
    | true=>rfl
    | false=>rw[hq]at e;cases e
   rw[q]at e
   cases e;obtain rfl:=CT.b6 _ _ q;have hp:len=es.length:=hp;subst hp;show(AV.r cl.length id 0 es.length).iL (λi=>(h i).aH)=some (AV.ow e0 cl.length .ow (es.map (a9 cl)));have cq:(λi=>(h i).aH) id = .sl e0 cl.length .ow (es.map (a9 cl)):=by show(h id).aH=_;rw[hh];rfl
   have key:∀(H:Nat->aX)(e:TypeId)(es:List (List D))(n:Nat),H id = .sl e n .ow es->(AV.r n id 0 es.length).iL H=some (.ow e n .ow es):=by
    intro H e es n hH;simp[AV.iL,hH]
   have:=key (λi=>(h i).aH) e0 (es.map (a9 cl)) cl.length cq;rw[List.length_map]at this;exact this
  ·cases e
 ·cases e
theorem yT{t:CT}{x:t.den}(h:t.flat=true):∃ v,enc t x = .v v:=by
 cases t with
 | sl ts=>simp[CT.flat]at h
 | _=>exact⟨_,rfl⟩
theorem VK{h:Nat->aG}{x y:TV}{p:Option Prop}(e:CC h x=some (p,y))(hp:holds p):x.aW.dX (λi=>(h i).aH)=some y.aW/\x.aH=x.aW/\y.aH=y.aW:=by
 unfold CC at e
 split at e
 ·rename_i t v;obtain⟨hf,e⟩:=Q6 e
  cases e;obtain⟨v',i9⟩:=yT (x:=v) hf;refine⟨?_,rfl,rfl⟩;simp only[TV.aW,i9,AV.dX]
 ·rename_i ts id len
  split at e
  ·rename_i e0 cl g t es hh;have q:CT.dC cl ts=true:=by
    cases hq:CT.dC cl ts with
    | true=>rfl
    | false=>rw[hq]at e;cases e
   rw[q]at e
   cases e;obtain rfl:=CT.b6 _ _ q;have hp:len=es.length:=hp;subst hp;refine⟨?_,rfl,rfl⟩;show(AV.r cl.length id 0 es.length).dX (λi=>(h i).aH)=some (AV.ow 0 cl.length dw (es.map (a9 cl)));have cq:(λi=>(h i).aH) id = .sl e0 cl.length (.dp g t []) (es.map (a9 cl)):=by show(h id).aH=_;rw[hh];rfl
   have key:∀(H:Nat->aX)(e:TypeId)(es:List (List D))(n:Nat),H id = .sl e n (.dp g t []) es->(AV.r n id 0 es.length).dX H=some (.ow 0 n dw es):=by
    intro H e es n hH;simp[AV.dX,hH]
   have:=key (λi=>(h i).aH) e0 (es.map (a9 cl)) cl.length cq;rw[List.length_map]at this;exact this
  ·cases e
 ·cases e
theorem VL{h:Nat->aG}:∀ {xs ys:List TV} {p:Option Prop},yJ h xs=some (p,ys)->holds p->AV.fQ (λi=>(h i).aH) (xs.map TV.aW)=some (ys.map TV.aW)
 | [],ys,p,e,hp=>by simp only[yJ,Option.some.injEq,Prod.mk.injEq]at e;obtain⟨rfl,rfl⟩:=e;rfl
 | x::xs,ys,p,e,hp=>by
  simp only[yJ]at e
  split at e
  ·rename_i p1 d q ds h1 h2;simp only[Option.some.injEq,Prod.mk.injEq]at e;obtain⟨rfl,rfl⟩:=e;obtain⟨gC,ig⟩:=pM hp;simp only[List.map_cons,AV.fQ,(VK h1 gC).1,VL h2 ig]
  ·cases e
theorem QP5{h:Nat->aG}{x y:TV}{p:Option Prop}(e:CD h x=some (p,y))(hp:holds p):x.aH.iZ (λi=>(h i).aH)=some y.aH:=by
 unfold CD at e
 split at e
 ·rename_i cs
  split at e
  ·rename_i p' ds h1
   cases e;simp only[TV.aH,TV.cw,AV.iZ,VL h1 hp]
  ·cases e
 ·obtain⟨h1,h2,h3⟩:=VK e hp;rw[h3];exact h1
 ·cases e
theorem QTx{h:Nat->aG}{m:AM}{x y:TV}{p:Option Prop}(e:CE h m x=some (p,y))(hp:holds p):x.aH.gI (λi=>(h i).aH) m=some y.aH:=by
 cases m with
 | d =>
  simp only[CE]at e
  split at e
  ·rename_i d h1;cases e;exact VE h1
  ·cases e
 | o=>exact QVr e hp
 | p=>exact QP5 e hp
theorem VM{h:Nat->aG}:∀ {ms:List AM} {xs ys:List TV} {p:Option Prop},qX h ms xs=some (p,ys)->holds p->AV.d8 (λi=>(h i).aH) ms (xs.map TV.aH)=some (ys.map TV.aH)
 | [],xs,ys,p,e,hp=>by
  simp only[qX]at e
  split at e
  ·rename_i ds cA;simp only[Option.some.injEq,Prod.mk.injEq]at e;obtain⟨rfl,rfl⟩:=e;exact VF cA
  ·cases e
 | m::ms,[],ys,p,e,hp=>by
  simp only[qX,Option.some.injEq,Prod.mk.injEq]at e;obtain⟨rfl,rfl⟩:=e;rfl
 | m::ms,x::xs,ys,p,e,hp=>by
  simp only[qX]at e
  split at e
  ·rename_i p1 d q ds h1 h2;simp only[Option.some.injEq,Prod.mk.injEq]at e;obtain⟨rfl,rfl⟩:=e;obtain⟨gC,ig⟩:=pM hp;simp only[List.map_cons,AV.d8,QTx h1 gC,VM h2 ig]
  ·cases e
theorem VN:∀(ms:List AM)(xs:List TV),cT ms (xs.map TV.aH)=(tw ms xs).map TV.aH
 | [],_=>rfl
 | _::_,[]=>rfl
 | m::ms,x::xs=>by cases m <;> simp only[List.map_cons,cT,tw,AM.h,Bool.false_eq_true,if_true,if_false,cond_true,cond_false,VN ms xs]
theorem VO:∀(ms:List AM)(xs:List TV),cy ms (xs.map TV.aH)=(qY ms xs).map TV.aH
 | [],_=>rfl
 | _::_,[]=>rfl
 | m::ms,x::xs=>by cases m <;> simp only[List.map_cons,cy,qY,AM.h,Bool.false_eq_true,if_true,if_false,cond_true,cond_false,VO ms xs]
theorem QX4(xs:List TV):(xs.map TV.aH).flatMap AV.refs=xs.flatMap TV.refs:=by
 rw[List.flatMap_map];congr 1;funext x;exact CK
theorem Q3m(xs:List TV):(xs.map TV.aH).flatMap AV.cp=xs.flatMap TV.cp:=by
 rw[List.flatMap_map];congr 1;funext x;exact VB
theorem VP:∀ {xs ys:List Nat},CG xs ys=true->∀ id,id∈xs->id∉ys
 | [],_,_,id,hm=>by simp at hm
 | x::xs,ys,h,id,hm=>by
  simp only[CG,Bool.and_eq_true]at h
  rcases List.mem_cons.1 hm with rfl | hm
  ·intro hy;have:=List.all_eq_true.1 h.1 id hy;rw[Nat.beq_refl]at this;simp at this
  ·exact VP h.2 id hm
theorem yU:∀ {l:List Nat},qZ l=true->l.Nodup
 | [],_=>List.nodup_nil
 | x::xs,h=>by
  simp only[qZ,Bool.and_eq_true,Bool.not_eq_true']at h;exact List.nodup_cons.2 ⟨by simpa using h.1,yU h.2⟩
theorem VQ{T:Nat->TV}:∀ {ps:List (Nat × Nat × bJ)} {zs cs:List TV},yK T zs ps=some cs->nR (bc.ev λs=>(T s).aH) (zs.map TV.aW) (ps.map Ka)=some (cs.map TV.aW)
 | [],zs,cs,e=>by simp only[yK,Option.some.injEq]at e;subst e;rfl
 | (off,n,x)::r,zs,cs,e=>by
  simp only[yK]at e;obtain⟨q,e⟩:=Q6 e;simp only[Bool.and_eq_true]at q;obtain⟨⟨q1,q2⟩,q3⟩:=q;have q1:=Nat.eq_of_beq_eq_true q1;have q2:=Nat.le_of_ble_eq_true q2;have:=VQ e;simp only[List.map_cons,Ka,nR,ZP,yM q3,List.length_map,Ki q3,q1,q2,and_self,if_true];rw[yP]at this;exact this
theorem yV{h:Nat->aG}{ts:List CT}{a:aV ts}(x:TV)(hx:x.st=false):¬ aV.of h ts x.cells=some a:=by
 intro e;have hc:x.cells=[x]:=by cases x <;> first | rfl | simp[TV.st,TV.one]at hx
 rw[hc]at e
 cases ts with
 | nil=>cases(show(none:Option (aV []))=some a from e)
 | cons t ts =>
  have:x.eW h t=none:=by cases x <;> first | rfl | simp[TV.st,TV.one]at hx
  have e:(match x.eW h t,aV.of h ts []with | some a,some b=>some (mX ts a b) | _,_=>none)=some a:=e;rw[this]at e
  cases e
theorem VS{h:Nat->aG}{T:Nat->TV}{ts:List CT}:∀ {ps:List bJ} {es:List (aV ts)},yL h T ts ps=some es->
  elems (λi=>(h i).aH) (bc.ev λs=>(T s).aH) ts.length (ps.map bJ.er)=some (es.map (a9 ts))
 | [],es,e=>by simp only[yL,Option.some.injEq]at e;subst e;rfl
 | x::r,es,e=>by
  simp only[yL]at e
  split at e
  rotate_left
  ·cases e
  rename_i a b ha hb;simp only[Option.some.injEq]at e;subst e;obtain⟨h1,h2⟩:=vH ts _ _ ha;have fS:(x.ev T).st=true:=by
   cases hx:x.ev T with
   | u=>rw[hx]at ha;exact absurd ha (yV _ rfl)
   | tp vs=>rw[hx]at ha;exact absurd ha (yV _ rfl)
   | bx vs=>rw[hx]at ha;exact absurd ha (yV _ rfl)
   | ow e us m vs=>rw[hx]at ha;exact absurd ha (yV _ rfl)
   | g c vs=>rw[hx]at ha;exact absurd ha (yV _ rfl)
   | _=>rfl
  simp only[List.map_cons,elems,ZP,yM fS,h1,VS hb,tC,if_true]
theorem QKE{T:Nat->TV}(ps:List bJ):((ps.map bJ.er).flatMap λx=>(bc.ev (λs=>(T s).aH) x).refs)=ps.flatMap λx=>(x.ev T).refs:=by
 induction ps with
 | nil=>rfl
 | cons x ps ih=>simp only[List.map_cons,List.flatMap_cons,ih,ZP,CK]
theorem QMC{T:Nat->TV}(ps:List bJ):(ps.map bJ.er).map (bc.ev λs=>(T s).aH)=(ps.map λx=>x.ev T).map TV.aH:=by
 simp only[List.map_map];congr 1
 funext x
 exact ZP T x
theorem QOq{op:BinOp}{x y:TV}{e:TE}(he:tx op x y=some e)(hp:holds e.pre):∃ a b v,x.aH = .c (.v a)/\y.aH = .c (.v b)/\o4 op a b=some v/\e.val.aH = .c (.v v)/\e.gH=[]:=by
 unfold tx at he
 split at he
 ·rename_i k x k' y;refine⟨.int k x,.int k' y,?_⟩
  cases op <;> simp only at he <;> first
   | (cases he;simp only[holds]at hp;exact⟨_,rfl,rfl,by simp only[o4];rw[if_neg (by omega)],rfl,rfl⟩)
   | (split at he <;> first
    | (cases he;done)
    | (rename_i hk;subst hk;first
     | (cases he;simp only[holds]at hp;exact⟨_,rfl,rfl,by simp only[o4,if_true];rw[if_neg hp],rfl,rfl⟩)
     | (cases he;exact⟨_,rfl,rfl,by simp only[o4,if_true],rfl,rfl⟩)
     | cases he))
 ·rename_i x y;refine⟨.string x,.string y,?_⟩
  cases op <;> simp only at he <;> first
   | (cases he;exact⟨_,rfl,rfl,by simp only[o4],rfl,rfl⟩)
   | cases he
 ·cases he
theorem yW:∀(ids:List Nat),(kx ids).map dW=jx ids
 | []=>rfl
 | id::ids=>by simp only[kx,jx,List.map_cons,dW,yW ids];rfl
theorem QQ1{h:Nat->aG}{id g i j:Nat}{x:TV}{p:Option Prop}(e:x.eY h id g i j=some p)(hp:holds p):x.aW.eY (λi=>(h i).aH) id g i j=true:=by
 unfold TV.eY at e
 split at e
 ·rename_i t v;obtain⟨hf,_⟩:=Q6 e;obtain⟨v',i9⟩:=yT (x:=v) hf;simp only[TV.aW,i9,AV.eY]
 ·rfl
 ·rename_i ts cn off len;obtain⟨hf,_⟩:=Q6 e;simp only[TV.aW,AV.eY,Q4v];exact hf
 ·rename_i ts l cn g' pt
  split at e
  ·rename_i i' j';obtain⟨hf,e⟩:=Q6 e
   cases e;simp only[Bool.and_eq_true]at hf;have hj:=Nat.eq_of_beq_eq_true hf.2;have hi:i'=i:=hp;subst hj;subst hi;simp only[TV.aW,AV.eY,hf.1.1,hf.1.2,Bool.and_self,Bool.true_and,decide_eq_true_eq]
  ·cases e
 ·cases e
theorem Kp{h:Nat->aG}{id g i:Nat}:∀ {xs:List TV} {j:Nat} {p:Option Prop},TV.dM h id g i j xs=some p->holds p->AV.dM (λi=>(h i).aH) id g i j (xs.map TV.aW)=true
 | [],j,p,e,hp=>rfl
 | x::xs,j,p,e,hp=>by
  simp only[TV.dM]at e
  split at e
  ·rename_i P Q h1 h2
   cases e;obtain⟨gC,ig⟩:=pM hp;simp only[List.map_cons,AV.dM,QQ1 h1 gC,Kp h2 ig,Bool.and_self]
  ·cases e
theorem Q2M{h:Nat->aG}{id g i j:Nat}{x:TV}{p:Option Prop}(e:TV.dM h id g i j x.cells=some p):x.st=true:=by
 cases x with
 | u=>simp[TV.cells,TV.dM,TV.eY]at e
 | tp vs=>simp[TV.cells,TV.dM,TV.eY]at e
 | bx vs=>simp[TV.cells,TV.dM,TV.eY]at e
 | ow a b c d=>simp[TV.cells,TV.dM,TV.eY]at e
 | g b v=>simp[TV.cells,TV.dM,TV.eY]at e
 | _=>rfl
theorem VT{h:Nat->aG}{b:Nat}{T:Nat->TV}:∀ {ps:List bJ} {i:Nat} {p:Option Prop},CJ h b T i ps=some p->holds p->iq (λi=>(h i).aH) b (bc.ev λs=>(T s).aH) i (ps.map bJ.er)=true
 | [],i,p,e,hp=>rfl
 | x::r,i,p,e,hp=>by
  simp only[CJ]at e
  split at e
  ·rename_i P Q h1 h2
   cases e;obtain⟨gC,ig⟩:=pM hp;have fS:=Q2M h1;simp only[List.map_cons,iq,ZP,yM fS,Kp h1 gC,VT h2 ig,Bool.and_self]
  ·cases e
theorem QLH{T:Nat->TV}(ps:List bJ):((ps.map bJ.er).flatMap λx=>(bc.ev (λs=>(T s).aH) x).dx)=ps.flatMap λx=>(x.ev T).dx:=by
 induction ps with
 | nil=>rfl
 | cons x ps ih=>simp only[List.map_cons,List.flatMap_cons,ih,ZP,Kk]
theorem VU:∀(ts:List CT)(x:aV ts),ts.all CT.flat=true->(a9 ts x).all D.pl=true
 | [],x,_=>by rw[a9];rfl
 | t::ts,x,h=>by
  rw[List.all_cons,Bool.and_eq_true]at h;rw[a9,List.all_cons,VU ts _ h.2,Bool.and_true];obtain⟨v,hv⟩:=yT (x:=hd ts x) h.1;rw[hv];rfl
theorem pN{ts:List CT}{xs:List (aV ts)}(h:ts.all CT.flat=true):o3 (xs.map (a9 ts))=true:=by
 unfold o3;rw[List.all_map,List.all_eq_true];intro x _;exact VU ts x h
theorem yX{b:aG}:b.lJ=true↔∃ e sz g t H es,b.aH = .sl e sz (.dp g t H) es:=by
 cases b with
 | sl e ts m es =>
  cases m with
  | dp g t H=>exact⟨λ_=>⟨_,_,_,_,_,_,rfl⟩,λ_=>rfl⟩
  | _=>exact⟨λh=>(by cases h),λ⟨_,_,_,_,_,_,h⟩=>(by cases h)⟩
 | _=>exact⟨λh=>(by cases h),λ⟨_,_,_,_,_,_,h⟩=>(by cases h)⟩
theorem VV{h:Nat->aG}{ts:List CT}{xs:List (aV ts)}{x:TV}(hx:x.one=true)(e:x.jy h ts=true):x.aH.jy (λi=>(h i).aH) (xs.map (a9 ts))=true:=by
 rw[tA hx]
 cases x with
 | r us id off len =>
  simp only[TV.jy,Bool.or_eq_true,Bool.not_eq_true']at e;simp only[TV.aW,AV.jy]
  split
  ·rename_i hh
   rcases e with e | e
   ·rw[yX.2 ⟨_,_,_,_,_,_,hh⟩]at e;cases e
   ·exact pN e
  ·rfl
 | bs us l id g p=>exact pN e
 | _=>first | rfl | simp[TV.one]at hx
theorem VW{h:Nat->aG}{id len:Nat}{ts:List CT}{xs:List (aV ts)}{x:TV}{p:Option Prop}(hx:x.one=true)(e:x.dT h id len ts=some p)(hp:holds p):x.aH.dT (λi=>(h i).aH) id len (xs.map (a9 ts))=true:=by
 rw[tA hx]
 cases x with
 | r us idx off l =>
  simp only[TV.dT]at e
  cases hd:(h idx).lJ with
  | true =>
   rw[hd]at e;obtain⟨_,_,_,_,_,_,hh⟩:=yX.1 hd;simp only[TV.aW,AV.dT,hh]
   cases hb:Nat.beq idx id with
   | false=>simp
   | true =>
    simp only[cond_true,hb]at e
    cases e;have hp:len<=off:=hp;simp[Nat.ble_eq_true_of_le hp]
  | false =>
   rw[hd]at e;simp only[cond_false]at e;obtain⟨hf,_⟩:=Q6 e;simp only[TV.aW,AV.dT]
   split
   ·rename_i hh;rw[yX.2 ⟨_,_,_,_,_,_,hh⟩]at hd;cases hd
   ·exact pN hf
 | bs us l cn g p =>
  simp only[TV.dT]at e;exact pN (Q6 e).1
 | c t v =>
  simp only[TV.dT]at e;exact pN (Q6 e).1
 | n us =>
  simp only[TV.dT]at e;exact pN (Q6 e).1
 | p a b c =>
  simp only[TV.dT]at e;exact pN (Q6 e).1
 | q a b c =>
  simp only[TV.dT]at e;exact pN (Q6 e).1
 | bq a b c d f g i =>
  simp only[TV.dT]at e;exact pN (Q6 e).1
 | _=>simp[TV.one]at hx
theorem QWd{h:Nat->aG}{x:TV}(hx:x.one=true):x.aH.dy (λi=>(h i).aH)=x.dy h:=by
 rw[tA hx]
 cases x with
 | r us idx off l =>
  simp only[TV.aW,AV.dy,TV.dy]
  cases hd:(h idx).lJ with
  | true =>
   obtain⟨_,_,_,_,_,_,hh⟩:=yX.1 hd;rw[hh];rfl
  | false =>
   split
   ·rename_i hh;rw[yX.2 ⟨_,_,_,_,_,_,hh⟩]at hd;cases hd
   ·rfl
 | _=>first | rfl | simp[TV.one]at hx
theorem VX{id g i:Nat}:∀(ts:List CT)(x:aV ts)(j:Nat),(aV.cu id g i j ts x).map TV.aW=cu id g i j (a9 ts x)
 | [],x,j=>by rw[a9,aV.cu];rfl
 | t::ts,x,j=>by
  cases t <;> (rw[a9];simp only[aV.cu,enc,cu,List.map_cons,VX ts,TV.aW])
theorem VY{id g i:Nat}{p:cM}:∀(ts:List CT)(x:aV ts)(j:Nat),(aV.b3 id g p i j ts x).map TV.aW=b3 id g p i j (a9 ts x)
 | [],x,j=>by rw[a9,aV.b3];rfl
 | t::ts,x,j=>by
  cases t <;> (rw[a9];simp only[aV.b3,enc,b3,List.map_cons,VY ts,TV.aW])
theorem QZl{m:Mo}{id i:Nat}(ts:List CT)(x:aV ts):(aV.dq m id i ts x).map TV.aW=dq m id i 0 (a9 ts x):=by
 cases m with
 | dp g t H=>exact VX ts x 0
 | _=>exact q9 ts x
theorem VZ{id g i:Nat}:∀(n j:Nat)(l:List D),(cu id g i j l).drop n=cu id g i (j+n) (l.drop n)
 | 0,j,l=>rfl
 | n+1,j,[]=>by simp[cu]
 | n+1,j,d::l=>by simp only[cu,List.drop_succ_cons];rw[VZ n (j+1) l];congr 1;omega
theorem V3{id g i:Nat}:∀(n j:Nat)(l:List D),(cu id g i j l).take n=cu id g i j (l.take n)
 | 0,j,l=>by simp[cu]
 | n+1,j,[]=>by simp[cu]
 | n+1,j,d::l=>by simp only[cu,List.take_succ_cons];rw[V3 n (j+1) l]
theorem V4{id g i:Nat}{p:cM}:∀(n j:Nat)(l:List D),(b3 id g p i j l).drop n=b3 id g p i (j+n) (l.drop n)
 | 0,j,l=>rfl
 | n+1,j,[]=>by simp[b3]
 | n+1,j,d::l=>by simp only[b3,List.drop_succ_cons];rw[V4 n (j+1) l];congr 1;omega
theorem V5{id g i:Nat}{p:cM}:∀(n j:Nat)(l:List D),(b3 id g p i j l).take n=b3 id g p i j (l.take n)
 | 0,j,l=>by simp[b3]
 | n+1,j,[]=>by simp[b3]
 | n+1,j,d::l=>by simp only[b3,List.take_succ_cons];rw[V5 n (j+1) l]
theorem QSH{m:Mo}{id i j n:Nat}{l:List D}{c:List AV}(h:cut (dq m id i 0 l) j n=some c):∃ l',cut l j n=some l'/\c=dq m id i j l':=by
 unfold cut at h
 split at h
 rotate_left
 ·cases h
 rename_i hle
 cases h;rw[TK]at hle;refine⟨_,if_pos hle,?_⟩
 cases m with
 | dp g t H=>simp only[dq];rw[VZ,V3,Nat.zero_add]
 | _=>simp only[dq,List.map_take,List.map_drop]
theorem QXL{id g i j n:Nat}{p:cM}{l:List D}{c:List AV}(h:cut (b3 id g p i 0 l) j n=some c):∃ l',cut l j n=some l'/\c=b3 id g p i j l':=by
 unfold cut at h
 split at h
 rotate_left
 ·cases h
 rename_i hle
 cases h;rw[HD]at hle;exact⟨_,if_pos hle,by rw[V4,V5,Nat.zero_add]⟩
end Go.Proofs.YtdplaepmjogjjaaGreat.Am
namespace Go.Proofs.YtdplaepmjogjjaaGreat.Am
open Go Go.RowKit
structure jh(Γ:aN)(ΓA:eR):Prop where
 md:∀ f row,me Γ.rows f=some row->ΓA.md f=g7 row.sg
 fn:∀ f row vs pre r,me Γ.rows f=some row->Yv row.sg vs=true->row.fn vs=some (pre,r)->holds pre->ΓA f (vs.map TV.aH)=some r.aH
 dp:ΓA.dp=Γ.dp
theorem vJ{ts:List CT}{l:List (aV ts)}{i:Nat}(h:i<l.length):l[i]? = some (gt ts l i):=by
 unfold gt;rw[List.getElem?_eq_getElem h,List.getD_eq_getElem?_getD,List.getElem?_eq_getElem h];rfl
theorem V6{x:TV}(h:x.st=true):x.cw=x.aH:=by cases x <;> first | rfl | simp[TV.st,TV.one]at h
theorem Kq{h:Nat->aX}:∀(xs ys:List AV)(ds:List D),AV.ds h (xs++ys)=some ds->∃ d1 d2,AV.ds h xs=some d1/\AV.ds h ys=some d2/\ds=d1++d2
 | [],ys,ds,e=>⟨[],ds,rfl,e,rfl⟩
 | x::xs,ys,ds,e=>by
  simp only[List.cons_append,AV.ds]at e
  split at e
  rotate_left
  ·cases e
  rename_i a b ha hb;simp only[Option.some.injEq]at e;subst e;obtain⟨d1,d2,h1,h2,h3⟩:=Kq xs ys b hb;exact⟨a::d1,d2,by simp only[AV.ds,ha,h1],h2,by rw[h3];rfl⟩
theorem V7{h:Nat->aX}:∀(ds:List D),AV.ds h (ds.map AV.c)=some ds
 | []=>rfl
 | d::ds=>by simp only[List.map_cons,AV.ds,AV.d,V7 ds]
theorem Kr{h:Nat->aX}{l:List D}{j:Nat}{xs:List AV}{r:List D}(e:AV.ds h (bB (l.map AV.c) j xs)=some r)(_hj:j+xs.length<=l.length) :
  ∃ ds,AV.ds h xs=some ds/\r=bB l j ds:=by
 unfold bB at e;rw[<- List.map_take,<- List.map_drop]at e;obtain⟨d1,d2,h1,h2,rfl⟩:=Kq _ _ _ e;obtain⟨d3,d4,h3,h4,rfl⟩:=Kq _ _ _ h1;rw[V7]at h2 h3
 cases h2
 cases h3;refine⟨d4,h4,?_⟩;unfold bB;rw[(AV.eb h4).1]
section
variable {Γ:aN} {ΓA:eR} (hΓ:jh Γ ΓA) {T:Nat->TV} {h:Nat->aG} {b:Nat}
def TE.aH(e:TE):fI:=⟨e.val.aH,e.gH.map dW⟩
theorem Q3W{m:Mo}{id i j n:Nat}{ts:List CT}{x:aV ts}{l:List TV}(h:jg (aV.dq m id i ts x) j n=some l):∃ l',cut (a9 ts x) j n=some l'/\l.map TV.aW=dq m id i j l':=by
 have h2:=yR h;rw[QZl]at h2;exact QSH h2
theorem QZo{id g i j n:Nat}{p:cM}{ts:List CT}{x:aV ts}{l:List TV}(h:jg (aV.b3 id g p i 0 ts x) j n=some l):∃ l',cut (a9 ts x) j n=some l'/\l.map TV.aW=b3 id g p i j l':=by
 have h2:=yR h;rw[VY]at h2;exact QXL h2
theorem V8{x:bJ}{n:Nat}{agg:Bool}{e:TE}(he:ZE Γ T h b (.load x n agg)=some e)(hp:holds e.pre):QD ΓA (bc.ev λs=>(T s).aH) (λi=>(h i).aH) b (eB.er (.load x n agg))=some e.aH:=by
 simp only[ZE]at he;simp only[eB.er,QD,ZP]
 split at he
 ·rename_i id i j hx;rw[hx];show(match(h id).aH with
   | .box cs=>_
   | .sl _ _ m es=>_
   | _=>_)=_
  split at he
  ·rename_i cs hh;rw[hh]
   split at he
   ·split at he
    ·rename_i l hl
     split at he
     ·rename_i v hv
      cases he;have:=yS hv;simp only[aG.bM,aG.ff,if_true,yR hl,this];rfl
     ·cases he
    ·cases he
   ·cases he
  ·rename_i e' ts m es hh;rw[hh];obtain⟨hf,he⟩:=Q6 he
   split at he
   ·rename_i l hl
    split at he
    ·rename_i v hv
     cases he;simp only[holds]at hp;have h1:=vJ hp;have:=yS hv;obtain⟨l',k1,k2⟩:=Q3W hl;rw[k2]at this;simp only[aG.bM,aG.ff,List.getElem?_map,h1,Option.map_some,k1,this,hf,if_true];rfl
    ·cases he
   ·cases he
  ·cases he
 ·rename_i ts x' j id g p i hx;rw[hx];obtain⟨Ks,he⟩:=Q6 he
  split at he
  ·rename_i l hl
   split at he
   ·rename_i v hv
    cases he;have:=yS hv;obtain⟨l',k1,k2⟩:=QZo hl;rw[k2]at this;simp only[TV.aH,TV.cw,TV.aW,tB Ks,if_true,k1,this];rfl
   ·cases he
  ·cases he
 ·rename_i ts x' j hx;rw[hx]
  split at he
  ·rename_i l hl
   split at he
   ·rename_i v hv
    cases he;have:=yS hv;have h2:=yR hl;rw[q9]at h2;unfold cut at h2
    split at h2
    rotate_left
    ·cases h2
    rename_i hle;simp only[Option.some.injEq]at h2;simp only[List.length_map]at hle;simp only[TV.aH,TV.cw,TV.aW,cut,hle,if_true];rw[<- h2]at this;simp only[List.map_drop,List.map_take];rw[this];rfl
   ·cases he
  ·cases he
 ·cases he
theorem QPv{x v:bJ}{n:Nat}{e:TE}(he:ZE Γ T h b (.store x v n)=some e)(hp:holds e.pre) :
  QD ΓA (bc.ev λs=>(T s).aH) (λi=>(h i).aH) b (eB.er (.store x v n))=some e.aH:=by
 simp only[ZE]at he;obtain⟨q,he⟩:=Q6 he;simp only[Bool.and_eq_true]at q;obtain⟨q1,q2⟩:=q;have q1:=Nat.eq_of_beq_eq_true q1;simp only[eB.er,QD,ZP,yM q2,List.length_map,q1,Ki q2,and_self,if_true]
 split at he
 rotate_left
 ·cases he
 rename_i id i j hx;rw[hx];show(match(h id).aH with
  | .box cs=>_
  | .sl e sz .ow es=>_
  | .sl e sz (.dp g t []) es=>_
  | _=>_)=_
 split at he
 ·rename_i cs hh;rw[hh]
  split at he
  ·obtain⟨q3,he⟩:=Q6 he
   cases he;have q3:=Nat.le_of_ble_eq_true q3;simp only[aG.bM,aG.ff,List.length_map,q3,and_self,if_true,<- yP];rfl
  ·cases he
 ·rename_i e' ts es hh;rw[hh]
  split at he
  rotate_left
  ·cases he
  rename_i y hy;obtain⟨q3,he⟩:=Q6 he
  cases he;simp only[Bool.and_eq_true,Bool.not_eq_true']at q3;obtain⟨q3,q4⟩:=q3;have q3:=Nat.le_of_ble_eq_true q3;have q4:id∉(v.ev T).refs:=by simpa using q4
  simp only[holds]at hp;have h1:=vJ hp;obtain⟨h2,h3⟩:=vH ts _ y hy;rw[yP,q9]at h2;obtain⟨ds,h5,h6⟩:=Kr h2 (by simp[tC,q1,q3]);simp only[aG.bM,aG.ff,List.getElem?_map,h1,Option.map_some,h5,tC,q3,CK,q4,not_false_eq_true,and_self,if_true];simp only[TE.aH,List.map_cons,dW,CL,aG.bM,aG.ff,h6,List.map_set];rfl
 ·rename_i e' ts g t es hh;rw[hh]
  split at he
  rotate_left
  ·cases he
  rename_i y hy
  split at he
  rotate_left
  ·cases he
  rename_i q hq;obtain⟨q3,he⟩:=Q6 he
  cases he;simp only[Bool.and_eq_true]at q3;obtain⟨q3,q4⟩:=q3;have q3:=Nat.le_of_ble_eq_true q3;have q4:=yU q4;obtain⟨gC,ig⟩:=pM hp;simp only[holds]at gC;have h1:=vJ gC;obtain⟨h2,h3⟩:=vH ts _ y hy;rw[yP,q9]at h2;obtain⟨ds,h5,h6⟩:=Kr h2 (by simp[tC,q1,q3]);simp only[aG.bM,aG.ff,List.getElem?_map,h1,Option.map_some,h5,tC,q3,Kp hq ig,Kk,q4,and_self,if_true];simp only[TE.aH,List.map_cons,dW,yW,aG.bM,aG.ff,h6,List.map_set];rfl
 ·cases he
theorem QYI{x i:bJ}{ts:List CT}{e:TE}(he:ZE Γ T h b (.j9 x i ts)=some e)(hp:holds e.pre) :
  QD ΓA (bc.ev λs=>(T s).aH) (λi=>(h i).aH) b (eB.er (.j9 x i ts))=some e.aH:=by
 simp only[ZE]at he;simp only[eB.er,QD,ZP]
 split at he
 rotate_left
 ·cases he
 rename_i k n hi;rw[hi]
 split at he
 ·rename_i cl l hx;obtain⟨q,eZ⟩:=Q6 he;clear he;obtain rfl:=CT.b6 _ _ q
  cases eZ;simp only[holds]at hp;rw[hx];have h1:=vJ (ts:=cl) (l:=l) hp.2;show(if(0:Int)<=n then(if cl.length=cl.length then(match(List.map (a9 cl) l)[n.toNat]? with | some e=>some (⟨AV.q e 0,[]⟩:fI) | none=>none) else none) else none)=_;rw[if_pos hp.1,if_pos rfl,List.getElem?_map,h1];rfl
 ·rename_i cl id off len hx;obtain⟨q,eZ⟩:=Q6 he;clear he;simp only[Bool.and_eq_true]at q;obtain rfl:=CT.b6 _ _ q.1
  cases eZ;simp only[holds]at hp;rw[hx];show(if(0:Int)<=n then(if cl.length=cl.length/\n.toNat<len/\((h id).aH).alive=true then some (⟨AV.p id (off+n.toNat) 0,[]⟩:fI) else none) else none)=_;rw[if_pos hp.1,yQ,if_pos ⟨rfl,hp.2,q.2⟩];rfl
 ·rename_i cl l id g p hx;obtain⟨q,eZ⟩:=Q6 he;clear he;simp only[Bool.and_eq_true]at q;obtain rfl:=CT.b6 _ _ q.1
  cases eZ;simp only[holds]at hp;rw[hx];have h1:=vJ (ts:=cl) (l:=l) hp.2;show(if(0:Int)<=n then(if cl.length=cl.length/\((h id).aH).dG=some g then(match(List.map (a9 cl) l)[n.toNat]? with | some e=>some (⟨AV.bq e 0 id g p n.toNat,[]⟩:fI) | none=>none) else none) else none)=_;rw[if_pos hp.1,if_pos ⟨rfl,tB q.2⟩,List.getElem?_map,h1];rfl
 ·cases he
theorem QVJ{x:bJ}{lo hi:Option bJ}{ts:List CT}{e:TE}(he:ZE Γ T h b (.fO x lo hi ts)=some e)(hp:holds e.pre) :
  QD ΓA (bc.ev λs=>(T s).aH) (λi=>(h i).aH) b (eB.er (.fO x lo hi ts))=some e.aH:=by
 simp only[ZE]at he;simp only[eB.er,QD,ZP]
 split at he
 rotate_left
 ·cases he
 rename_i l0 my;rw[CM my]
 split at he
 ·rename_i cl l hx
  split at he
  rotate_left
  ·cases he
  rename_i h0 ki;obtain⟨q,eZ⟩:=Q6 he;clear he;obtain rfl:=CT.b6 _ _ q
  cases eZ;simp only[holds]at hp;rw[hx];have ki:=CM ki;show(match YY (bc.ev λs=>(T s).aH) ((List.map (a9 cl) l).length:Int) (qV hi) with
   | some hi=>if cl.length=cl.length/\0<=l0/\l0<=hi/\hi<=(List.map (a9 cl) l).length then some (⟨AV.c (.sl cl.length (((List.map (a9 cl) l).drop l0.toNat).take (hi.toNat-l0.toNat))),[]⟩:fI) else none
   | none=>none)=_
  rw[List.length_map,ki];simp only;rw[if_pos ⟨trivial,hp.1,hp.2.1,hp.2.2⟩,<- List.map_drop,<- List.map_take];rfl
 ·rename_i cl id off len hx
  split at he
  rotate_left
  ·cases he
  rename_i h0 ki;obtain⟨q,eZ⟩:=Q6 he;clear he;simp only[Bool.and_eq_true]at q;obtain rfl:=CT.b6 _ _ q.1
  cases eZ;simp only[holds]at hp;rw[hx];have ki:=CM ki;show(match YY (bc.ev λs=>(T s).aH) (len:Int) (qV hi) with
   | some hi=>if cl.length=cl.length/\0<=l0/\l0<=hi/\hi<=len/\((h id).aH).alive=true then some (⟨AV.r cl.length id (off+l0.toNat) (hi.toNat-l0.toNat),[]⟩:fI) else none
   | none=>none)=_
  rw[ki];simp only;rw[yQ,if_pos ⟨trivial,hp.1,hp.2.1,hp.2.2,q.2⟩];rfl
 ·rename_i cl hx
  split at he
  rotate_left
  ·cases he
  rename_i h0 ki
  cases he;simp only[holds]at hp;rw[hx];have ki:=CM ki;show(match YY (bc.ev λs=>(T s).aH) 0 (qV hi) with
   | some hi=>if l0=0/\hi=0 then some (⟨AV.n ts.length,[]⟩:fI) else none
   | none=>none)=_
  rw[ki];simp only;rw[if_pos hp];rfl
 ·cases he
include hΓ in
theorem Q0a{s x:bJ}{e0:TypeId}{ts:List CT}{e:TE}(he:ZE Γ T h b (.app s x e0 ts)=some e)(hp:holds e.pre) :
  QD ΓA (bc.ev λs=>(T s).aH) (λi=>(h i).aH) b (eB.er (.app s x e0 ts))=some e.aH:=by
 simp only[ZE]at he;simp only[eB.er,QD,ZP,hΓ.dp]
 split at he
 rotate_left
 ·cases he
 rename_i xs hx;have h3:=Q0I (t:=.sl ts) hx;have h1:(x.ev T).aH.fP (λi=>(h i).aH) ts.length=some (xs.map (a9 ts)):=by
  have h2:=VC (t:=.sl ts) hx;rw[tA h3]
  cases hv:x.ev T with
  | c t y =>
   rw[hv]at h2;simp only[TV.aW,AV.d,Option.some.injEq]at h2;simp only[TV.aW,AV.fP,h2,enc,if_true]
  | n cl =>
   rw[hv]at h2;simp only[TV.aW,AV.d,Option.some.injEq,enc,D.sl.injEq]at h2;simp only[TV.aW,AV.fP,<- h2.2]
  | r cl id off len =>
   rw[hv]at h2 hx;simp only[TV.aW,AV.d]at h2;simp only[TV.aW,AV.fP]
   cases hh:h id with
   | sl e jv m es =>
    rw[hh]at h2;simp only[aG.bM]at h2
    split at h2
    rotate_left
    ·cases h2
    rename_i hf;simp only[Option.some.injEq,enc,D.sl.injEq]at h2;simp only[aG.bM,h2.1,h2.2,hf,and_self,if_true]
   | none=>rw[hh]at h2;cases h2
   | dead=>rw[hh]at h2;cases h2
   | box cs=>rw[hh]at h2;cases h2
  | bs cl l id g p =>
   rw[hv]at h2;simp only[TV.aW,AV.d]at h2
   split at h2
   rotate_left
   ·cases h2
   rename_i hf;simp only[Option.some.injEq,enc,D.sl.injEq]at h2;simp only[TV.aW,AV.fP,h2.1,h2.2,hf,and_self,if_true]
  | _=>rw[hv]at h3;simp[TV.one]at h3 <;> (rw[hv]at hx;simp[TV.eW]at hx)
 rw[h1];simp only;have re:=QWd (h:=h) h3
 split at he
 ·rename_i cl hs;rw[hs]
  split at he
  ·rename_i jD
   split at he
   rotate_left
   ·cases he
   rename_i q hq
   cases he;obtain⟨gC,ig⟩:=pM hp;simp only[holds]at gC;show(if(xs.map (a9 ts)).length<=bP then(if Γ.dp=true then(if((x.ev T).aH.dT (λi=>(h i).aH) b 0 (xs.map (a9 ts)))=true then some (⟨.r ts.length b 0 (xs.map (a9 ts)).length,jx ((x.ev T).aH.dy (λi=>(h i).aH))++[(b,.sl e0 ts.length (.dp 0 true []) (xs.map (a9 ts)))]⟩:fI) else none) else _) else none)=_;rw[List.length_map,if_pos gC,if_pos jD,if_pos (VW h3 hq ig),re];simp only[TE.aH,List.map_append,yW];rfl
  ·rename_i jD;obtain⟨cC,he⟩:=Q6 he
   cases he;simp only[holds]at hp;show(if(xs.map (a9 ts)).length<=bP then(if Γ.dp=true then _ else if((x.ev T).aH.jy (λi=>(h i).aH) (xs.map (a9 ts)))=true then some (⟨.r ts.length b 0 (xs.map (a9 ts)).length,[(b,.sl e0 ts.length .ow (xs.map (a9 ts)))]⟩:fI) else none) else none)=_;rw[List.length_map,if_pos hp,if_neg (by rw[jD];simp),if_pos (VV h3 cC)];rfl
 ·rename_i cl id len hs;rw[hs]
  split at he
  ·rename_i e' jv es hh
   split at he
   rotate_left
   ·cases he
   rename_i q;obtain rfl:=CT.b6 _ _ q;obtain⟨q2,he⟩:=Q6 he;simp only[Bool.and_eq_true]at q2;obtain⟨q2,q3⟩:=q2;have q2:=Nat.eq_of_beq_eq_true q2;subst q2
   cases he;simp only[holds]at hp;show(match(h id).aH with
    | .sl e2 bt .ow es=>if e2=e'/\bt=jv.length/\(len=es.length\/len+(xs.map (a9 jv)).length<=es.length)/\len+(xs.map (a9 jv)).length<=bP/\((x.ev T).aH.jy (λi=>(h i).aH) (xs.map (a9 jv)))=true then
      some (⟨.r jv.length b 0 (len+(xs.map (a9 jv)).length),[(id,.dead),(b,.sl e' jv.length .ow (es.take len++xs.map (a9 jv)))]⟩:fI) else none
    | .sl e2 bt (.dp _ true []) es=>_
    | _=>none)=_
   rw[hh];simp only[aG.bM];rw[if_pos ⟨trivial,trivial,by simpa using hp.1,by simpa using hp.2,VV h3 q3⟩,<- List.map_take,<- List.map_append,List.length_map];rfl
  ·rename_i e' jv g es hh
   split at he
   rotate_left
   ·cases he
   rename_i q;obtain rfl:=CT.b6 _ _ q;obtain⟨q2,he⟩:=Q6 he;have q2:=Nat.eq_of_beq_eq_true q2;subst q2
   split at he
   rotate_left
   ·cases he
   rename_i q3 hq3
   cases he;obtain⟨gC,ig⟩:=pM hp;simp only[holds]at gC;show(match(h id).aH with
    | .sl e2 bt .ow es=>_
    | .sl e2 bt (.dp _ true []) es=>if e2=e'/\bt=jv.length/\(len=es.length\/len+(xs.map (a9 jv)).length<=es.length)/\len+(xs.map (a9 jv)).length<=bP/\((x.ev T).aH.dT (λi=>(h i).aH) id len (xs.map (a9 jv)))=true then
      some (⟨.r jv.length b 0 (len+(xs.map (a9 jv)).length),(id,aX.dead)::jx ((x.ev T).aH.dy (λi=>(h i).aH))++[(b,aX.sl e' jv.length (.dp 0 true []) (es.take len++xs.map (a9 jv)))]⟩:fI) else none
    | _=>none)=_
   rw[hh];simp only[aG.bM];rw[if_pos ⟨trivial,trivial,by simpa using gC.1,by simpa using gC.2,VW h3 hq3 ig⟩,<- List.map_take,<- List.map_append,List.length_map,re];simp only[TE.aH,List.map_append,List.map_cons,List.map_nil,List.cons_append,yW,dW,aG.jQ,aG.bM,TV.aH,TV.cw,TV.aW,Kh]
  ·cases he
 ·cases he
theorem QXO{x:TV}(h:tz x=true):i0 x.aH=true/\x.aH=x.aW:=by
 cases x with
 | c t v =>
  obtain⟨v',i9⟩:=yT (x:=v) h;refine⟨?_,rfl⟩;simp only[TV.aH,TV.cw,TV.aW,i9,i0]
 | _=>simp[tz]at h
theorem QVD{ms:List AM}{xs:List TV}{id g i j:Nat}{r:List TV}(h:Kf ms xs=some (id,g,i,j,r)):sw ms (xs.map TV.aH)=some (id,g,i,j,r.map TV.aH)/\∃ ts l,xs = .bs ts l id g [(i,j)]::r:=by
 unfold Kf at h
 split at h
 rotate_left
 ·cases h
 split at h
 ·rename_i eN
  cases h;refine⟨?_,_,_,rfl⟩;simp only[List.map_cons,TV.aH,TV.cw,TV.aW,sw,eN,if_true]
 ·cases h
theorem QRw{h:Nat->aG}{ms:List AM}{xs ys:List TV}{p:Option Prop}(hm:qX h ms xs=some (p,ys)):sw ms (xs.map TV.aH)=none:=by
 cases ms with
 | nil=>rfl
 | cons m ms =>
  cases xs with
  | nil=>cases m <;> rfl
  | cons x xs =>
   cases m with
   | p =>
    simp only[qX,CE]at hm
    split at hm
    rotate_left
    ·cases hm
    rename_i p1 d q ds h1 h2;unfold CD at h1
    split at h1
    ·rfl
    ·rfl
    ·cases h1
   | _=>rfl
theorem QR9{α:Type}{l:List α}{j:Nat}{a:α}(h:j<l.length):bB l j [a]=l.set j a:=by
 have hg:=pd (l:=l) (xs:=[a]) (j:=j) (by simp;omega);apply List.ext_getElem?;intro k;rw[hg k,List.getElem?_set];by_cases h1:k<j
 ·rw[if_pos h1,if_neg (by omega)]
 ·rw[if_neg h1];by_cases h2:j=k
  ·subst h2;simp[h]
  ·rw[if_neg (by simp;omega),if_neg h2]
include hΓ in
theorem QMM{f:FuncId}{X:List TV}{row:aP}(ji:me Γ.rows f=some row){e:TE}(he:Kg Γ h b f X row=some e)(hp:holds e.pre) :
  sw (g7 row.sg) (X.map TV.aH)=none/\xF ΓA (λi=>(h i).aH) b f (X.map TV.aH)=some e.aH:=by
 unfold Kg at he
 split at he
 rotate_left
 ·cases he
 rename_i p0 vs s0;refine⟨QRw s0,?_⟩;obtain⟨q,he⟩:=Q6 he
 split at he
 rotate_left
 ·cases he
 rename_i pre r hr;obtain⟨q2,he⟩:=Q6 he
 cases he;obtain⟨sI,hp⟩:=pM hp;simp only[Bool.and_eq_true]at q2;obtain⟨⟨⟨⟨q3,q4⟩,q5⟩,q6⟩,q7⟩:=q2;have q3:=Nat.le_of_ble_eq_true q3;have h0:=hΓ.md f row ji;have h1:=VM s0 sI;have h2:=hΓ.fn f row vs pre r ji q hr hp;unfold xF;simp only[h0,VN,VO,QX4,Q3m];simp only[h1,h2,aJ.aH];have q4':(((r.bx.map (·.map TV.aW)).isEmpty&&(r.gv.map aG.aH).isEmpty)||r.al)=true:=by rw[List.isEmpty_map,List.isEmpty_map];exact q4
 rw[if_pos ⟨by rw[List.length_map];exact q3,q4',yU q5,yU q6,VP q7⟩];simp only[TE.aH,List.map_append,Ko,VH,VI,VJ];congr 3
 split
 ·exact(CL h _).symm
 ·rfl
include hΓ in
theorem QO4{f:FuncId}{id g i j:Nat}{rest:List TV}{e:TE}(he:Ke Γ h b f id g i j rest=some e)(hp:holds e.pre) :
  xE ΓA (λi=>(h i).aH) b f id g i j (rest.map TV.aH)=some e.aH:=by
 unfold Ke at he
 split at he
 rotate_left
 ·cases he
 rename_i e0 ts g0 t es hh
 split at he
 rotate_left
 ·cases he
 rename_i us l dD
 split at he
 rotate_left
 ·cases he
 rename_i row ji;obtain⟨q,he⟩:=Q6 he;simp only[Bool.and_eq_true,Bool.not_eq_true']at q;obtain⟨⟨⟨q1,q2⟩,q3⟩,q4⟩:=q;have q2:=Nat.eq_of_beq_eq_true q2;subst q2
 split at he
 rotate_left
 ·cases he
 rename_i pre v al e1 mZ g1 t1 fk hr
 split at he
 rotate_left
 ·cases he
 rename_i x' gB;obtain⟨q5,eZ⟩:=Q6 he;clear he;obtain rfl:=CT.b6 _ _ q5
 cases eZ;obtain⟨gC,ig⟩:=pM hp;have gC:i<es.length:=gC;have h1:=vJ gC;have h2:=hΓ.fn f row _ pre _ ji q1 hr ig;have V9:(a9 ts (gt ts es i))[j]? = some (.sl mZ.length (l.map (a9 mZ))):=by
  have:=congrArg (λz=>z[j]?) (q9 ts (gt ts es i));simp only[List.getElem?_map,dD,Option.map_some,TV.aW]at this
  cases hx:(a9 ts (gt ts es i))[j]? with
  | none=>rw[hx]at this;cases this
  | some d=>rw[hx]at this;simp only[Option.map_some,Option.some.injEq,AV.c.injEq]at this;rw[<- this];rw[enc]
 have n0:j<(a9 ts (gt ts es i)).length:=(List.getElem?_eq_some_iff.1 V9).1;obtain⟨h3,_⟩:=vH ts _ x' gB;rw[yP,q9]at h3;obtain⟨ds,h5,h6⟩:=Kr h3 (by simp;omega);simp only[List.map_cons,List.map_nil,TV.aW,AV.ds,AV.d,Option.some.injEq]at h5;subst h5;rw[QR9 n0]at h6;have b8:(rest.map TV.aH).all i0=true:=by
  rw[List.all_map,List.all_eq_true];intro y hy;exact(QXO (List.all_eq_true.1 q3 y hy)).1
 have hus:0<mZ.length:=by
  cases mZ with
  | nil=>cases q4
  | cons=>simp
 unfold xE;have hhe:(λi=>(h i).aH) id = .sl e0 ts.length (.dp g0 t []) (es.map (a9 ts)):=by show(h id).aH=_;rw[hh];rfl
 simp only[hhe,List.getElem?_map,h1,Option.map_some,V9];have lF:ΓA f (AV.ow 0 mZ.length dw (l.map (a9 mZ))::rest.map TV.aH)=some ⟨v.aH,[],[],al,[.sl e1 mZ.length (.dp g1 t1 []) (fk.map (a9 mZ))]⟩:=h2;simp only[lF,hus,b8,and_self,if_true];simp only[TE.aH,Ko,List.map_cons,List.map_nil,dW,aG.bM,List.map_set,h6,enc];rfl
include hΓ in
theorem Q06{f:FuncId}{args:List bJ}{e:TE}(he:ZE Γ T h b (.call f args)=some e)(hp:holds e.pre) :
  QD ΓA (bc.ev λs=>(T s).aH) (λi=>(h i).aH) b (eB.er (.call f args))=some e.aH:=by
 simp only[ZE]at he
 split at he
 rotate_left
 ·cases he
 rename_i row ji;have h0:=hΓ.md f row ji;simp only[eB.er,QD,QMC,h0]
 split at he
 ·rename_i id g i j r hn;obtain⟨k1,_⟩:=QVD hn;rw[k1];exact QO4 hΓ he hp
 ·obtain⟨k1,k2⟩:=QMM hΓ ji he hp;rw[k1];exact k2
include hΓ in
theorem Kt{op:eB}{e:TE}(he:ZE Γ T h b op=some e)(hp:holds e.pre):QD ΓA (bc.ev λs=>(T s).aH) (λi=>(h i).aH) b op.er=some e.aH:=by
 cases op with
 | load x n agg=>exact V8 he hp
 | store x v n=>exact QPv he hp
 | j9 x i ts=>exact QYI he hp
 | fO x lo hi ts=>exact QVJ he hp
 | app s x e ts=>exact Q0a hΓ he hp
 | call f args=>exact Q06 hΓ he hp
 | eY x=>simp only[ZE]at he;cases he;simp only[eB.er,QD,ZP];rfl
 | pick c x y =>
  simp only[ZE]at he;simp only[eB.er,QD,ZP]
  split at he
  ·rename_i cb xb yb hc hx hy
   cases he;rw[hc,hx,hy]
   cases cb <;> rfl
  ·cases he
 | bin op x y =>
  simp only[ZE]at he;simp only[eB.er,QD,ZP];obtain⟨a,c,v,h1,h2,h3,h4,h5⟩:=QOq he hp;rw[h1,h2];simp only[h3,TE.aH,h4,h5,List.map_nil]
 | im n g x y =>
  simp only[ZE]at he;simp only[eB.er,QD,ZP]
  split at he
  rotate_left
  ·cases he
  rename_i xs ys hx hy
  split at he
  rotate_left
  ·cases he
  rename_i l m hl hm;obtain⟨q,he⟩:=Q6 he
  cases he;simp only[Bool.and_eq_true]at q;rw[hx,hy];simp only[TV.aH,TV.cw,Km hl,Km hm];rw[if_pos ⟨Nat.eq_of_beq_eq_true q.1,Nat.eq_of_beq_eq_true q.2⟩]
  cases g <;> rfl
 | j1 g x y =>
  simp only[ZE]at he;simp only[eB.er,QD,ZP]
  split at he
  ·rename_i xb yb hx hy
   cases he;rw[hx,hy]
   cases g <;> rfl
  ·cases he
 | not x =>
  simp only[ZE]at he;simp only[eB.er,QD,ZP]
  split at he
  ·rename_i xb hx
   cases he;rw[hx];rfl
  ·cases he
 | neg x =>
  simp only[ZE]at he;simp only[eB.er,QD,ZP]
  split at he
  ·rename_i k n hx
   cases he;rw[hx];rfl
  ·cases he
 | new t zs=>simp only[ZE]at he;cases he;rfl
 | box t x n =>
  simp only[ZE]at he;simp only[eB.er,QD,ZP];obtain⟨q,he⟩:=Q6 he
  cases he;simp only[Bool.and_eq_true]at q;simp only[yM q.2,List.length_map,Nat.eq_of_beq_eq_true q.1,Ki q.2,and_self,if_true];rfl
 | lj x off =>
  simp only[ZE]at he;simp only[eB.er,QD,ZP]
  split at he
  ·rename_i id i j hx;obtain⟨q,he⟩:=Q6 he
   cases he;rw[hx];show(if((h id).aH).alive=true then some (⟨AV.p id i (j+off),[]⟩:fI) else none)=_;rw[yQ,if_pos q];rfl
  ·rename_i ts y j hx
   cases he;rw[hx];rfl
  ·rename_i ts y j id g p i hx;obtain⟨q,he⟩:=Q6 he
   cases he;rw[hx];show(if((h id).aH).dG=some g then some (⟨.bq (a9 ts y) (j+off) id g p i,[]⟩:fI) else none)=_;rw[if_pos (tB q)];rfl
  ·cases he
 | lY x off n agg =>
  simp only[ZE]at he;simp only[eB.er,QD,ZP]
  split at he
  rotate_left
  ·cases he
  rename_i cs hx
  split at he
  rotate_left
  ·cases he
  rename_i l hl
  split at he
  rotate_left
  ·cases he
  rename_i v hv
  cases he;rw[hx];simp only[TV.aH,TV.cw,yR hl,yS hv];rfl
 | build zs ps =>
  simp only[ZE]at he;simp only[eB.er,QD]
  split at he
  ·rename_i cs dU
   cases he;rw[VQ dU];rfl
  ·cases he
 | bO t ts ps =>
  simp only[ZE]at he;simp only[eB.er,QD,hΓ.dp]
  split at he
  rotate_left
  ·cases he
  rename_i es gW;rw[VS gW]
  split at he
  ·rename_i jD
   split at he
   rotate_left
   ·cases he
   rename_i q hq;obtain⟨q2,he⟩:=Q6 he
   cases he;simp only[jD,if_true,QLH,VT hq hp,yU q2,and_self];simp only[TE.aH,List.map_cons,dW,yW,aG.bM,List.length_map];rfl
  ·rename_i jD
   cases he;simp only[jD,Bool.false_eq_true,if_false];simp only[TE.aH,List.map_cons,dW,CL,QKE,aG.bM,List.length_map];rfl
 | mk t ts zs n =>
  simp only[ZE]at he;simp only[eB.er,QD,ZP,hΓ.dp]
  split at he
  rotate_left
  ·cases he
  rename_i k m z hn hz;obtain⟨q,he⟩:=Q6 he
  cases he;simp only[holds]at hp;obtain⟨h1,h2⟩:=vH ts _ _ hz;have fT:Γ.dp=true->(a9 ts z).all D.pl=true:=by
   intro hd;rw[hd]at q;simp only[Bool.not_true,Bool.false_or]at q;rw[List.all_eq_true];intro d hd;obtain⟨i,hi⟩:=List.getElem?_of_mem hd;have cA:=AV.eb h1;have vK:i<(zs.map TV.aW).length:=by rw[<- cA.1];exact(List.getElem?_eq_some_iff.1 hi).1
   obtain⟨d',h5,h6⟩:=cA.2 i _ (List.getElem?_eq_getElem vK);rw[hi]at h5
   cases h5;have Ku:(zs[i]'(by simpa using vK)).pl=true:=List.all_eq_true.1 q _ (List.getElem_mem _);simp only[List.getElem_map]at h6;generalize zs[i]'(by simpa using vK)=y at Ku h6
   cases y with
   | c t v =>
    obtain⟨v',i9⟩:=yT (x:=v) Ku;simp only[TV.aW,AV.d,i9,Option.some.injEq]at h6;subst h6;rfl
   | n ts =>
    simp only[TV.aW,AV.d,Option.some.injEq]at h6;subst h6;rfl
   | _=>simp[TV.pl]at Ku
  rw[hn,h1];show(if(0:Int)<=m/\m<=bP/\(a9 ts z).length=ts.length/\(Γ.dp=true->(a9 ts z).all D.pl=true) then some (⟨.r ts.length b 0 m.toNat,[(b,.sl t ts.length (if Γ.dp=true then .dp 0 true [] else .ow) (List.replicate m.toNat (a9 ts z)))]⟩:fI) else none)=_;rw[if_pos ⟨hp.1,hp.2,tC _ _,fT⟩];simp only[TE.aH,List.map_cons,dW,aG.bM,List.map_nil,List.map_replicate]
  cases Γ.dp <;> rfl
 | len x =>
  simp only[ZE]at he;simp only[eB.er,QD,ZP]
  split at he
  ·rename_i ts l hx
   cases he;rw[hx];show some (⟨.c (.v (.int .i64 ((List.map (a9 ts) l).length:Int))),[]⟩:fI)=_;rw[List.length_map];rfl
  ·rename_i ts hx
   cases he;rw[hx];rfl
  ·rename_i ts id off len hx;obtain⟨q,he⟩:=Q6 he
   cases he;rw[hx];show(if((h id).aH).alive=true then some (⟨.c (.v (.int .i64 (len:Int))),[]⟩:fI) else none)=_;rw[yQ,if_pos q];rfl
  ·rename_i ts l id g p hx;obtain⟨q,he⟩:=Q6 he
   cases he;rw[hx];show(if((h id).aH).dG=some g then some (⟨.c (.v (.int .i64 ((l.map (a9 ts)).length:Int))),[]⟩:fI) else none)=_;rw[if_pos (tB q),List.length_map];rfl
  ·cases he
 | mm mx x y =>
  simp only[ZE]at he;simp only[eB.er,QD,ZP]
  split at he
  ·rename_i k xb k' yb hx hy
   cases he;rw[hx,hy]
   cases mx <;> rfl
  ·cases he
 | ext x i =>
  simp only[ZE]at he;simp only[eB.er,QD,ZP]
  split at he
  rotate_left
  ·cases he
  rename_i vs hx
  split at he
  rotate_left
  ·cases he
  rename_i v hv;obtain⟨q,he⟩:=Q6 he
  cases he;rw[hx];show(match(vs.map TV.cw)[i]? with | some v=>some (⟨v,[]⟩:fI) | none=>none)=_;rw[List.getElem?_map,hv];simp only[Option.map_some,TE.aH,V6 q,List.map_nil]
 | conv k x =>
  simp only[ZE]at he;simp only[eB.er,QD,ZP]
  split at he
  ·rename_i k' n hx
   cases he;rw[hx];rfl
  ·cases he
 | gU x =>
  simp only[ZE]at he;simp only[eB.er,QD,ZP]
  split at he
  ·rename_i id i j hx;obtain⟨q,he⟩:=Q6 he
   cases he;rw[hx];show(if((h id).aH).alive=true then some (⟨AV.p id i j,[]⟩:fI) else none)=_;rw[yQ,if_pos q];rfl
  ·rename_i ts y j hx
   cases he;rw[hx];rfl
  ·rename_i ts y j id g p i hx;obtain⟨q,he⟩:=Q6 he
   cases he;rw[hx];show(if((h id).aH).dG=some g then some (⟨.bq (a9 ts y) j id g p i,[]⟩:fI) else none)=_;rw[if_pos (tB q)];rfl
  ·cases he
end
end Go.Proofs.YtdplaepmjogjjaaGreat.Am
namespace Go.Proofs.YtdplaepmjogjjaaGreat.Am
open Go Go.RowKit
inductive bI where
 | op (d:Option Nat) (o:eB)
 | bj (s:Nat) (w:Bool) (ss:List bI) (d:Nat) (x:bJ)
 | gw (s:Nat) (w:Bool) (ss:List bI) (d2:Nat) (o:eB) (d:Nat) (x:bJ)
mutual
def bI.len:bI->Nat
 | .op _ _=>1
 | .bj _ _ ss _ _=>di ss+1
 | .gw _ _ ss _ _ _ _=>di ss+2
def di:List bI->Nat
 | []=>0
 | x::xs=>x.len+di xs
end
def Jg(w:Bool)(s:Nat)(x:bJ):eB:=if w then .pick (.s s) x (.k (.c .bool false)) else .pick (.s s) (.k (.c .bool true)) x
mutual
def bI.er(g:Option (Nat × Bool))(i:Nat):bI->List AO
 | .op d o=>[⟨d,o.er,g,16*i⟩]
 | .bj s w ss d x=>iU (some (s,w)) i ss++[⟨some d,(Jg w s x).er,g,16*(i+di ss)⟩]
 | .gw s w ss d2 o d x=>iU (some (s,w)) i ss++[⟨some d2,o.er,some (s,w),16*(i+di ss)⟩,⟨some d,(Jg w s x).er,g,16*(i+(di ss+1))⟩]
def iU(g:Option (Nat × Bool))(i:Nat):List bI->List AO
 | []=>[]
 | x::xs=>x.er g i++iU g (i+x.len) xs
end
mutual
def bI.gD:bI->List Nat
 | .op (some d) _=>[d]
 | .op none _=>[]
 | .bj _ _ ss d _=>Zs ss++[d]
 | .gw _ _ ss d2 _ d _=>Zs ss++[d2]++[d]
def Zs:List bI->List Nat
 | []=>[]
 | x::xs=>x.gD++Zs xs
end
mutual
def bI.m6:bI->List Nat->Bool
 | .op (some _) _,_=>true
 | .op none _,_=>false
 | .bj s _ ss _ _,ds=>ds.elem s&&!((Zs ss).elem s)&&pO ss ds
 | .gw _ _ _ _ _ _ _,_=>false
def pO:List bI->List Nat->Bool
 | [],_=>true
 | x::r,ds=>x.m6 ds&&pO r (x.gD++ds)
end
def tD:Option Prop->Option Prop->Option Prop
 | none,q=>q
 | some p,none=>some p
 | some p,some q=>some (p/\q)
def pP(b:Bool):Option Prop->Option Prop
 | none=>none
 | some p=>some (b=true->p)
def vL(g:Bool)(t1:Nat->TV):List Nat->List (Nat × TV)->List (Nat × TV)
 | [],t=>t
 | d::ds,t=>(d,.g g (t1 d))::vL g t1 ds t
abbrev Log:=List (List Nat × List Nat)
mutual
def bI.gE(Γ:aN)(h:List (Nat × aG))(nx i:Nat):bI->List (Nat × TV)->Option (Option Prop × List (Nat × TV) × Log)
 | .op d o,t=>match ZE Γ (cR t) (dK h) (nx+16*i) o with
  | some ⟨pre,v,[]⟩=>match d with
   | some d=>some (pre,(d,v)::t,[(acc (bc.ev λs=>(cR t s).aH) o.er,[])])
   | none=>none
  | _=>none
 | .bj s w ss d x,t=>match cR t s with
  | .c .bool b=>bif pO ss []&&!((Zs ss).elem s) then(match J0 Γ h nx i ss t with
   | some (p,t1,l)=>match x.ev (cR t1) with
    | .c .bool v=>some (pP (eh w b (!b)) p,(d,.c .bool (eh w (b&&v) (b||v)))::vL (eh w b (!b)) (cR t1) (Zs ss) t,l++[([],[])])
    | _=>none
   | none=>none) else none
  | _=>none
 | .gw _ _ _ _ _ _ _,_=>none
def J0(Γ:aN)(h:List (Nat × aG))(nx i:Nat):List bI->List (Nat × TV)->Option (Option Prop × List (Nat × TV) × Log)
 | [],t=>some (none,t,[])
 | x::xs,t=>match x.gE Γ h nx i t with
  | some (p,t1,l)=>match J0 Γ h nx (i+x.len) xs t1 with
   | some (q,t2,m)=>some (tD p q,t2,l++m)
   | none=>none
  | none=>none
end
def cD.app(σ:cD)(d:Option Nat)(v:TV)(bl:List (Nat × aG)):cD :=
 ⟨match d with | some d=>(d,v)::σ.t | none=>σ.t,bl.reverse++σ.h,σ.nx⟩
def yY(g:Bool):TV->TV->Option TV
 | .c t x,.c t' y=>if e:t'.beq t=true then some (.c t (cond g x (CB e y))) else none
 | _,_=>none
def mf(g:Bool):List TV->List TV->Option (List TV)
 | [],[]=>some []
 | x::xs,y::ys=>match yY g x y with
  | some z=>match mf g xs ys with
   | some zs=>some (z::zs)
   | none=>none
  | none=>none
 | _,_=>none
def JM(g:Bool)(h:List (Nat × aG)):List (Nat × aG)->Option (List (Nat × aG))
 | []=>some []
 | (i,.box cs)::r=>match dK h i with
  | .box gL=>match mf g cs gL with
   | some zs=>match JM g h r with
    | some r'=>some ((i,.box zs)::r')
    | none=>none
   | none=>none
  | _=>none
 | _::_=>none
def Kv(Γ:aN)(i s:Nat)(w:Bool)(ss:List bI)(d2:Nat)(o:eB)(d:Nat)(x:bJ)(σ:cD):Option (Option Prop × cD × Log) :=
 match cR σ.t s with
 | .c .bool b=>bif (pO ss []&&!((Zs ss).elem s))&&!(Nat.beq s d2) then(match J0 Γ σ.h σ.nx i ss σ.t with
  | some (p,t1,l)=>match ZE Γ (cR t1) (dK σ.h) (σ.nx+16*(i+di ss)) o with
   | some ⟨pre,v,bl⟩=>match JM (eh w b (!b)) σ.h bl with
    | some iV=>match x.ev (cR ((d2,v)::t1)) with
     | .c .bool xv=>some (pP (eh w b (!b)) (tD p pre),⟨(d,.c .bool (eh w (b&&xv) (b||xv)))::vL (eh w b (!b)) (cR ((d2,v)::t1)) (Zs ss++[d2]) σ.t,iV.reverse++σ.h,σ.nx⟩,
       l++[(acc (bc.ev λs=>(cR t1 s).aH) o.er,bl.map Prod.fst),([],[])])
     | _=>none
    | none=>none
   | none=>none
  | none=>none) else none
 | _=>none
def iQ(Γ:aN):Nat->List bI->cD->Option (Option Prop × cD × Log)
 | _,[],σ=>some (none,σ,[])
 | i,.op d o::r,σ=>match ZE Γ σ.T σ.H (σ.nx+16*i) o with
  | some ⟨pre,v,bl⟩=>match iQ Γ (i+1) r (σ.app d v bl) with
   | some (q,σ',m)=>some (tD pre q,σ',(acc (bc.ev λs=>(σ.T s).aH) o.er,bl.map Prod.fst)::m)
   | none=>none
  | none=>none
 | i,.bj s w ss d x::r,σ=>match(bI.bj s w ss d x).gE Γ σ.h σ.nx i σ.t with
  | some (p,t1,l)=>match iQ Γ (i+(di ss+1)) r ⟨t1,σ.h,σ.nx⟩ with
   | some (q,σ',m)=>some (tD p q,σ',l++m)
   | none=>none
  | none=>none
 | i,.gw s w ss d2 o d x::r,σ=>match Kv Γ i s w ss d2 o d x σ with
  | some (p,σ1,l)=>match iQ Γ (i+(di ss+2)) r σ1 with
   | some (q,σ',m)=>some (tD p q,σ',l++m)
   | none=>none
  | none=>none
theorem yZ{p q:Option Prop}:holds (tD p q)↔holds p/\holds q:=by
 cases p <;> cases q <;> simp[tD,holds]
theorem Wa{b:Bool}{p:Option Prop}:holds (pP b p)↔(b=true->holds p):=by
 cases p <;> simp[pP,holds]
theorem Kw{j d:Nat}(h:¬ j=d):Nat.beq j d=false:=by
 cases hb:Nat.beq j d with
 | true=>exact absurd (Nat.eq_of_beq_eq_true hb) h
 | false=>rfl
theorem JW(d:Nat)(v:TV)(t:List (Nat × TV)):cR ((d,v)::t)=bN (cR t) d v:=by
 funext j
 simp only[cR,bN];by_cases h:j=d
 ·subst h;simp
 ·rw[if_neg h,Kw h];rfl
theorem tE(d:Nat)(v:aG)(t:List (Nat × aG)):dK ((d,v)::t)=bN (dK t) d v:=by
 funext j
 simp only[dK,bN];by_cases h:j=d
 ·subst h;simp
 ·rw[if_neg h,Kw h];rfl
theorem QX6(T:Nat->TV)(d:Nat)(v:TV):(λs=>(bN T d v s).aH)=bN (λs=>(T s).aH) d v.aH:=by
 funext s;simp only[bN];split <;> rfl
theorem QRR(T:Nat->aG)(d:Nat)(v:aG):(λs=>(bN T d v s).aH)=bN (λs=>(T s).aH) d v.aH:=by
 funext s;simp only[bN];split <;> rfl
theorem Kx:∀(bl:List (Nat × aG))(h:List (Nat × aG)),(λi=>(dK (bl.reverse++h) i).aH)=bA (λi=>(dK h i).aH) (bl.map dW)
 | [],h=>rfl
 | (d,v)::bl,h=>by
  rw[List.reverse_cons,List.append_assoc,List.singleton_append,Kx bl ((d,v)::h),List.map_cons,dW,bA,tE,QRR]
theorem Ky(σ:cD)(d:Option Nat)(v:TV)(bl:List (Nat × aG)):(σ.app d v bl).aH=σ.aH.app d ⟨v.aH,bl.map dW⟩:=by
 unfold cD.app cD.aH St.app cD.T cD.H;simp only[Kx,cY]
 cases d with
 | none=>rfl
 | some d=>simp only[JW,QX6]
theorem Wb(bl:List (Nat × aG)):keys (bl.map dW)=bl.map Prod.fst:=by
 simp[keys,dW,List.map_map,Function.comp_def]
theorem pQ{Γ:eR}:∀(l m:List AO)(σ:St),Z0 Γ (l++m) σ=match Z0 Γ l σ with
  | some (σ',a)=>match Z0 Γ m σ' with
   | some (σ'',b)=>some (σ'',a++b)
   | none=>none
  | none=>none
 | [],m,σ=>by
  simp only[List.nil_append,Z0]
  cases Z0 Γ m σ with
  | none=>rfl
  | some x=>obtain⟨a,b⟩:=x;rfl
 | o::l,m,σ=>by
  simp only[List.cons_append,Z0]
  cases ZN Γ o σ with
  | none=>rfl
  | some x =>
   obtain⟨σ',a,w⟩:=x;simp only[pQ l m σ']
   cases Z0 Γ l σ' with
   | none=>rfl
   | some x =>
    obtain⟨σ2,b⟩:=x;simp only
    cases Z0 Γ m σ2 with
    | none=>rfl
    | some y=>obtain⟨σ3,c⟩:=y;rfl
def oo(t:Nat->AV)(s:Nat)(w:Bool):Prop:=t s = .t []\/∃ c,t s = .c (.v (.bool c))/\c≠w
def cN(ds:List Nat)(t:Nat->AV):Nat->AV:=λj=>if j∈ds then .t [] else t j
theorem Kz{Γ:eR}{d:Option Nat}{op:eG}{s:Nat}{w:Bool}{off:Nat}{σ:St}(h:oo σ.t s w) :
  ZN Γ ⟨d,op,some (s,w),off⟩ σ=some (⟨cY σ.t d (.t []),σ.h,σ.nx⟩,[],[]):=by
 unfold ZN
 rcases h with h | ⟨c,h,hc⟩
 ·simp only[h]
 ·simp only[h,if_neg hc]
theorem CN(a b:List Nat)(t:Nat->AV):cN (a++b) t=cN b (cN a t):=by
 funext j
 simp only[cN,List.mem_append];by_cases h1:j∈b
 ·simp[h1]
 ·by_cases h2:j∈a <;> simp[h1,h2]
theorem y1(d:Nat)(t:Nat->AV):bN t d (.t [])=cN [d] t:=by
 funext j
 simp only[cN,bN,List.mem_singleton]
theorem oo.cN{t:Nat->AV}{s:Nat}{w:Bool}(h:oo t s w)(ds:List Nat)(hs:s∉ds):oo (cN ds t) s w:=by
 have:Am.cN ds t s=t s:=by simp[Am.cN,hs]
 unfold oo;rw[this];exact h
theorem y2{Γ:eR}{h:Nat->aX}{nx:Nat}:∀(ss:List bI)(ds:List Nat)(i s:Nat)(w:Bool)(t:Nat->AV),pO ss ds=true->(∀ d,d∈ds->t d = .t [])->oo t s w->s∉Zs ss->
  ∃ l:Log,Z0 Γ (iU (some (s,w)) i ss) ⟨t,h,nx⟩=some (⟨cN (Zs ss) t,h,nx⟩,l)/\l.length=di ss/\∀ x,x∈l->x=([],[])
 | [],ds,i,s,w,t,hk,cA,ho,hs=>by
  refine⟨[],?_,rfl,by simp⟩;show some (_,_)=_;have:cN [] t=t:=by funext j;simp[cN]
  rw[Zs,this]
 | .op (some d) o::r,ds,i,s,w,t,hk,cA,ho,hs=>by
  simp only[pO,bI.m6,bI.gD,List.singleton_append,Bool.true_and]at hk;simp only[Zs,bI.gD,List.mem_append,not_or,List.mem_singleton]at hs;have jw:oo (bN t d (.t [])) s w:=by rw[y1];exact ho.cN [d] (by simpa using hs.1)
  obtain⟨l,h1,h2,h3⟩:=y2 (Γ:=Γ) (h:=h) (nx:=nx) r (d::ds) (i+1) s w (bN t d (.t [])) hk (λd' dr=>by
   simp only[bN]
   split
   ·rfl
   ·rename_i dk
    rcases List.mem_cons.1 dr with rfl | dr
    ·exact absurd rfl dk
    ·exact cA d' dr) jw hs.2
  refine⟨([],[])::l,?_,by simp[di,bI.len,h2,Nat.add_comm],by simpa using h3⟩;simp only[iU,bI.er,bI.len,List.singleton_append,Z0,Kz (σ:=⟨t,h,nx⟩) ho,cY,h1,Zs,bI.gD];rw[y1,<- CN];rfl
 | .bj s2 w2 ss d x::r,ds,i,s,w,t,hk,cA,ho,hs=>by
  simp only[pO,bI.m6,bI.gD,Bool.and_eq_true,Bool.not_eq_true']at hk;obtain⟨⟨⟨k1,k2⟩,k3⟩,k4⟩:=hk;have k1:s2∈ds:=by simpa using k1
  have k2:s2∉Zs ss:=by simpa using k2
  simp only[Zs,bI.gD,List.mem_append,not_or,List.mem_singleton]at hs;obtain⟨l1,h1,h2,h3⟩:=y2 (Γ:=Γ) (h:=h) (nx:=nx) ss ds i s2 w2 t k3 cA (.inl (cA s2 k1)) k2;have pz:oo (cN (Zs ss) t) s w:=ho.cN _ hs.1.1;have qF:oo (bN (cN (Zs ss) t) d (.t [])) s w:=by rw[y1];exact pz.cN [d] (by simpa using hs.1.2)
  obtain⟨l2,h4,h5,h6⟩:=y2 (Γ:=Γ) (h:=h) (nx:=nx) r ((Zs ss++[d])++ds) (i+(di ss+1)) s w (bN (cN (Zs ss) t) d (.t [])) k4 (λd' dr=>by
   simp only[bN]
   split
   ·rfl
   ·rename_i dk;simp only[cN]
    split
    ·rfl
    ·rename_i hn;simp only[List.mem_append,List.mem_singleton]at dr
     rcases dr with(dr | dr) | dr
     ·exact absurd dr hn
     ·exact absurd dr dk
     ·exact cA d' dr) qF hs.2
  refine⟨l1++[([],[])]++l2,?_,by simp[di,bI.len,h2,h5];omega,λy hy=>?_⟩
  ·simp only[iU,bI.er,bI.len,List.append_assoc,pQ,h1,List.singleton_append,Z0,Kz (σ:=⟨cN (Zs ss) t,h,nx⟩) pz,cY,h4,Zs,bI.gD];rw[y1,<- CN,<- CN];rfl
  ·rcases List.mem_append.1 hy with hy | hy
   ·rcases List.mem_append.1 hy with hy | hy
    ·exact h3 y hy
    ·simpa using hy
   ·exact h6 y hy
 | .op none o::r,ds,i,s,w,t,hk,cA,ho,hs=>by simp[pO,bI.m6]at hk
 | .gw _ _ _ _ _ _ _::r,ds,i,s,w,t,hk,cA,ho,hs=>by simp[pO,bI.m6]at hk
theorem vM(g:Bool)(t1:Nat->TV):∀(ds:List Nat)(t:List (Nat × TV))(j:Nat),cR (vL g t1 ds t) j=if j∈ds then .g g (t1 j) else cR t j
 | [],t,j=>by simp[vL]
 | d::ds,t,j=>by
  simp only[vL,JW,bN];by_cases h:j=d
  ·subst h;simp
  ·rw[if_neg h,vM g t1 ds t j];simp[h]
mutual
theorem Wc{Γ:aN}{h:List (Nat × aG)}{nx:Nat}:∀(x:bI){i:Nat}{t t1:List (Nat × TV)}{p:Option Prop}{l:Log},x.gE Γ h nx i t=some (p,t1,l)->∀ j,j∉x.gD->cR t1 j=cR t j
 | .op d o,i,t,t1,p,l,e,j,hj=>by
  rw[bI.gE]at e
  split at e
  ·split at e
   ·cases e
    simp only[bI.gD,List.mem_singleton]at hj
    rw[JW]
    simp[bN,hj]
   ·cases e
  ·cases e
 | .bj s w ss d x,i,t,t1,p,l,e,j,hj=>by
  rw[bI.gE]at e
  split at e
  rotate_left
  ·cases e
  obtain⟨_,e⟩:=Q6 e
  split at e
  rotate_left
  ·cases e
  split at e
  rotate_left
  ·cases e
  cases e
  simp only[bI.gD,List.mem_append,List.mem_singleton,not_or]at hj
  rw[JW]
  simp only[bN,hj.2,if_false]
  rw[vM,if_neg hj.1]
 | .gw _ _ _ _ _ _ _,i,t,t1,p,l,e,j,hj=>by rw[bI.gE]at e;cases e
theorem KA{Γ:aN}{h:List (Nat × aG)}{nx:Nat}:∀(ss:List bI){i:Nat}{t t1:List (Nat × TV)}{p:Option Prop}{l:Log},J0 Γ h nx i ss t=some (p,t1,l)->∀ j,j∉Zs ss->cR t1 j=cR t j
 | [],i,t,t1,p,l,e,j,hj=>by rw[J0]at e;cases e;rfl
 | x::xs,i,t,t1,p,l,e,j,hj=>by
  rw[J0]at e
  split at e
  rotate_left
  ·cases e
  rename_i h1
  split at e
  rotate_left
  ·cases e
  rename_i h2
  cases e
  simp only[Zs,List.mem_append,not_or]at hj
  rw[KA xs h2 j hj.2,Wc x h1 j hj.1]
end
def Jf(l' l:List (List Nat × List Nat)):Prop:=l'.length=l.length/\∀(k:Nat)(a:List Nat × List Nat),l'[k]? = some a->a=([],[])\/l[k]? = some a
theorem Jf.refl(l:Log):Jf l l:=⟨rfl,λ_ _ h=>.inr h⟩
theorem Jf.off{l' l:Log}(h:l'.length=l.length)(h2:∀ x,x∈l'->x=([],[])):Jf l' l:=⟨h,λ_ a ha=>.inl (h2 a (List.mem_of_getElem? ha))⟩
theorem Jf.append{a a' b b':Log}(h:Jf a' a)(h2:Jf b' b):Jf (a'++b') (a++b):=by
 refine⟨by simp[h.1,h2.1],λk x hk=>?_⟩;rw[List.getElem?_append]at hk ⊢;rw[h.1]at hk
 split at hk
 ·rename_i aY;rw[if_pos aY];exact(h.2 k x hk)
 ·rename_i aY;rw[if_neg aY];exact(h2.2 _ x hk)
theorem QRb{l' l:Log}{U:List (Nat × Nat)}(h:Jf l' l)(hn:u3 l U=true):u3 l' U=true:=by
 unfold u3 at hn ⊢;rw[List.all_eq_true]at hn ⊢;rintro⟨i,j⟩ tg
 have:=hn (i,j) tg;simp only at this ⊢
 split
 rotate_left
 ·rfl
 rename_i a w a' w' h1 h2
 rcases h.2 i _ h1 with e1 | e1
 ·cases e1;simp[mu]
 ·rcases h.2 j _ h2 with e2 | e2
  ·cases e2;simp[mu]
  ·rw[e1,e2]at this;exact this
mutual
theorem Q3I{Γ:aN}{h:List (Nat × aG)}{nx:Nat}:∀(x:bI){i:Nat}{t t1:List (Nat × TV)}{p:Option Prop}{l:Log},x.gE Γ h nx i t=some (p,t1,l)->l.length=x.len
 | .op d o,i,t,t1,p,l,e=>by
  rw[bI.gE]at e
  split at e
  ·split at e
   ·cases e;rfl
   ·cases e
  ·cases e
 | .bj s w ss d x,i,t,t1,p,l,e=>by
  rw[bI.gE]at e
  split at e
  rotate_left
  ·cases e
  obtain⟨_,e⟩:=Q6 e
  split at e
  rotate_left
  ·cases e
  rename_i hr
  split at e
  rotate_left
  ·cases e
  cases e
  simp[bI.len,KB ss hr]
 | .gw _ _ _ _ _ _ _,i,t,t1,p,l,e=>by rw[bI.gE]at e;cases e
theorem KB{Γ:aN}{h:List (Nat × aG)}{nx:Nat}:∀(ss:List bI){i:Nat}{t t1:List (Nat × TV)}{p:Option Prop}{l:Log},J0 Γ h nx i ss t=some (p,t1,l)->l.length=di ss
 | [],i,t,t1,p,l,e=>by rw[J0]at e;cases e;rfl
 | x::xs,i,t,t1,p,l,e=>by
  rw[J0]at e
  split at e
  rotate_left
  ·cases e
  rename_i h1
  split at e
  rotate_left
  ·cases e
  rename_i h2
  cases e
  simp[di,Q3I x h1,KB xs h2]
end
theorem Wd{Γ:aN}{h:List (Nat × aG)}{nx:Nat}{ss:List bI}{i:Nat}{t t1:List (Nat × TV)}{p:Option Prop}{l:Log}(e:J0 Γ h nx i ss t=some (p,t1,l)):l.length=di ss:=KB ss e
section
variable {Γ:aN} {ΓA:eR} (hΓ:jh Γ ΓA) {h:List (Nat × aG)} {nx:Nat}
def tF(g:Option (Nat × Bool))(t:List (Nat × TV)):Prop:=match g with
 | none=>True
 | some (s,w)=>cR t s = .c .bool w
def jR(g:Option (Nat × Bool))(ds:List Nat):Prop:=match g with
 | none=>True
 | some (s,_)=>s∉ds
theorem tF.next{g:Option (Nat × Bool)}{t t1:List (Nat × TV)}{ds:List Nat}(h:tF g t)(ho:jR g ds)(hk:∀ j,j∉ds->cR t1 j=cR t j):tF g t1:=by
 cases g with
 | none=>trivial
 | some x=>obtain⟨s,w⟩:=x;exact(hk s ho).trans h
theorem y3{op:eG}{d:Option Nat}{g:Option (Nat × Bool)}{off:Nat}{t:List (Nat × TV)}(hg:tF g t) :
  ZN ΓA ⟨d,op,g,off⟩ (cD.aH ⟨t,h,nx⟩)=match QD ΓA (bc.ev λs=>(cR t s).aH) (λi=>(dK h i).aH) (nx+off) op with
   | some e=>some ((cD.aH ⟨t,h,nx⟩).app d e,acc (bc.ev λs=>(cR t s).aH) op,keys e.gH)
   | none=>none:=by
 unfold ZN
 cases g with
 | none=>rfl
 | some x =>
  obtain⟨s,w⟩:=x;have:(cD.aH ⟨t,h,nx⟩).t s = .c (.v (.bool w)):=by
   show(cR t s).aH=_;rw[show cR t s = .c .bool w from hg];rfl
  simp only[this,if_true];rfl
include hΓ in
mutual
theorem We:∀(x:bI){i:Nat}{g:Option (Nat × Bool)}{t t1:List (Nat × TV)}{p:Option Prop}{l:Log},x.gE Γ h nx i t=some (p,t1,l)->holds p->tF g t->jR g x.gD->
  ∃ l',Z0 ΓA (x.er g i) (cD.aH ⟨t,h,nx⟩)=some (cD.aH ⟨t1,h,nx⟩,l')/\Jf l' l
 | .op d o,i,g,t,t1,p,l,e,hp,hg,ho=>by
  rw[bI.gE]at e
  split at e
  rotate_left
  ·cases e
  rename_i pre v he
  split at e
  rotate_left
  ·cases e
  rename_i d
  cases e;have h1:=Kt hΓ he hp;refine⟨[(acc (bc.ev λs=>(cR t s).aH) o.er,[])],?_,.refl _⟩;simp only[bI.er,Z0,y3 (ΓA:=ΓA) hg,h1,TE.aH,List.map_nil,keys];congr 2
  have:=Ky ⟨t,h,nx⟩ (some d) v [];simp only[List.map_nil]at this;exact this.symm
 | .bj s w ss d x,i,g,t,t1,p,l,e,hp,hg,ho=>by
  rw[bI.gE]at e
  split at e
  rotate_left
  ·cases e
  rename_i b hb;obtain⟨q,e⟩:=Q6 e;simp only[Bool.and_eq_true,Bool.not_eq_true']at q;have q2:s∉Zs ss:=by simpa using q.2
  split at e
  rotate_left
  ·cases e
  rename_i p' t1 l1 hr
  split at e
  rotate_left
  ·cases e
  rename_i v hv
  cases e;have pz:jR g (Zs ss):=by
   cases g with
   | none=>trivial
   | some y=>obtain⟨sg,wg⟩:=y;simp only[jR,bI.gD,List.mem_append,not_or]at ho ⊢;exact ho.1
  have dt:=KA ss hr;rw[Wa]at hp;by_cases kT:(eh w b (!b))=true
  ·have mg:b=w:=by cases b <;> cases w <;> simp[eh]at kT ⊢
   obtain⟨l',h1,h2⟩:=KC ss (g:=some (s,w)) hr (hp kT) (by show cR t s=_;rw[hb,mg]) q2;have l9:tF g t1:=hg.next pz dt;have om:cR t1 s = .c .bool b:=by rw[dt s q2,hb]
   refine⟨l'++[(acc (bc.ev λs=>(cR t1 s).aH) (Jg w s x).er,[])],?_,h2.append ⟨rfl,λk a ha=>?_⟩⟩
   ·simp only[bI.er,pQ,h1,Z0,y3 (ΓA:=ΓA) l9];have hd:QD ΓA (bc.ev λs=>(cR t1 s).aH) (λi=>(dK h i).aH) (nx+16*(i+di ss)) (Jg w s x).er=some ⟨.c (.v (.bool (eh w (b&&v) (b||v)))),[]⟩:=by
     subst mg;have e1:(bJ.s s).ev (cR t1) = .c .bool b:=om
     cases b
     ·simp only[Jg,Bool.false_eq_true,if_false,eB.er,QD,ZP,e1,hv];rfl
     ·simp only[Jg,if_true,eB.er,QD,ZP,e1,hv];rfl
    simp only[hd,keys,List.map_nil];congr 2
    rw[kT];unfold St.app cD.aH cD.T cD.H;simp only[cY,bA];congr 1
    funext j
    rw[JW,bN,bN]
    split
    ·rfl
    ·rw[vM]
     split
     ·rfl
     ·rename_i hj;rw[dt j hj]
   ·cases k with
    | zero =>
     left;simp only[List.getElem?_cons_zero,Option.some.injEq]at ha;rw[<- ha]
     cases w <;> rfl
    | succ k=>simp at ha
  ·have pR:(eh w b (!b))=false:=by simpa using kT
   have mg:b≠w:=by rintro rfl;cases b <;> simp[eh]at kT
   obtain⟨l',h1,h2,h3⟩:=y2 (Γ:=ΓA) (h:=λi=>(dK h i).aH) (nx:=nx) ss [] i s w (λs=>(cR t s).aH) q.1 (by simp) (.inr ⟨b,by show(cR t s).aH=_;rw[hb];rfl,mg⟩) q2;have tf:∀ s',s'∉Zs ss->cN (Zs ss) (λs=>(cR t s).aH) s'=(cR t s').aH:=λs' mS=>by simp[cN,mS]
   have mU:∀ op,ZN ΓA ⟨some d,op,g,16*(i+di ss)⟩ ⟨cN (Zs ss) (λs=>(cR t s).aH),λi=>(dK h i).aH,nx⟩=match QD ΓA (bc.ev (cN (Zs ss) λs=>(cR t s).aH)) (λi=>(dK h i).aH) (nx+16*(i+di ss)) op with
     | some e=>some (St.app ⟨cN (Zs ss) (λs=>(cR t s).aH),λi=>(dK h i).aH,nx⟩ (some d) e,acc (bc.ev (cN (Zs ss) λs=>(cR t s).aH)) op,keys e.gH)
     | none=>none:=by
    intro op;unfold ZN
    cases g with
    | none=>rfl
    | some y =>
     obtain⟨sg,wg⟩:=y;have:cN (Zs ss) (λs=>(cR t s).aH) sg = .c (.v (.bool wg)):=by
      rw[tf sg pz,show cR t sg = .c .bool wg from hg];rfl
     simp only[this,if_true];rfl
   refine⟨l'++[([],[])],?_,(Jf.off (by rw[h2,Wd hr]) h3).append (.refl _)⟩;simp only[bI.er,pQ];rw[show cD.aH ⟨t,h,nx⟩=⟨λs=>(cR t s).aH,λi=>(dK h i).aH,nx⟩ from rfl,h1];simp only[Z0,mU];have hd:QD ΓA (bc.ev (cN (Zs ss) λs=>(cR t s).aH)) (λi=>(dK h i).aH) (nx+16*(i+di ss)) (Jg w s x).er=some ⟨.c (.v (.bool (eh w (b&&v) (b||v)))),[]⟩:=by
    have om:cN (Zs ss) (λs=>(cR t s).aH) s = .c (.v (.bool b)):=by rw[tf s q2,hb];rfl
    cases w <;> cases b <;> first
     | exact absurd rfl mg
     | (simp only[Jg,Bool.false_eq_true,if_false,if_true,eB.er,QD,bJ.er,bc.ev,om];rfl)
   simp only[hd,keys,List.map_nil];have pS:acc (bc.ev (cN (Zs ss) λs=>(cR t s).aH)) (Jg w s x).er=[]:=by cases w <;> rfl
   rw[pS,pR];congr 2
   unfold St.app cD.aH cD.T cD.H;simp only[cY,bA];congr 1
   funext j
   rw[JW,bN,bN]
   split
   ·rfl
   ·rw[vM];simp only[cN]
    split
    ·rfl
    ·rfl
 | .gw _ _ _ _ _ _ _,i,g,t,t1,p,l,e,hp,hg,ho=>by rw[bI.gE]at e;cases e
theorem KC:∀(ss:List bI){i:Nat}{g:Option (Nat × Bool)}{t t1:List (Nat × TV)}{p:Option Prop}{l:Log},J0 Γ h nx i ss t=some (p,t1,l)->holds p->tF g t->jR g (Zs ss)->
  ∃ l',Z0 ΓA (iU g i ss) (cD.aH ⟨t,h,nx⟩)=some (cD.aH ⟨t1,h,nx⟩,l')/\Jf l' l
 | [],i,g,t,t1,p,l,e,hp,hg,ho=>by rw[J0]at e;cases e;exact⟨[],rfl,.refl _⟩
 | x::xs,i,g,t,t1,p,l,e,hp,hg,ho=>by
  rw[J0]at e
  split at e
  rotate_left
  ·cases e
  rename_i p1 t2 l1 h1
  split at e
  rotate_left
  ·cases e
  rename_i p2 t3 l2 h2
  cases e;rw[yZ]at hp;have jw:jR g x.gD/\jR g (Zs xs):=by
   cases g with
   | none=>exact⟨trivial,trivial⟩
   | some y=>obtain⟨sg,wg⟩:=y;simp only[jR,Zs,List.mem_append,not_or]at ho ⊢;exact ho
  obtain⟨y4,h3,h4⟩:=We x h1 hp.1 hg jw.1;obtain⟨l2',h5,h6⟩:=KC xs h2 hp.2 (hg.next jw.1 (Wc x h1)) jw.2;exact⟨y4++l2',by simp only[iU,pQ,h3,h5],h4.append h6⟩
end
theorem Q1Z{x y z:TV}(e:yY true x y=some z):z=x:=by
 unfold yY at e
 split at e
 ·split at e
  ·cases e;rfl
  ·cases e
 ·cases e
theorem Wf:∀ {x y z:List TV},mf true x y=some z->z=x
 | [],[],z,e=>by simp only[mf]at e;cases e;rfl
 | x::xs,y::ys,z,e=>by
  simp only[mf]at e
  split at e
  rotate_left
  ·cases e
  rename_i h1
  split at e
  rotate_left
  ·cases e
  rename_i h2
  cases e;rw[Q1Z h1,Wf h2]
 | [],_::_,z,e=>by simp[mf]at e
 | _::_,[],z,e=>by simp[mf]at e
theorem Wg{h:List (Nat × aG)}:∀ {bl iV:List (Nat × aG)},JM true h bl=some iV->iV=bl
 | [],iV,e=>by simp only[JM]at e;cases e;rfl
 | (i,.box cs)::r,iV,e=>by
  simp only[JM]at e
  split at e
  rotate_left
  ·cases e
  split at e
  rotate_left
  ·cases e
  rename_i h1
  split at e
  rotate_left
  ·cases e
  rename_i h2
  cases e;rw[Wf h1,Wg h2]
 | (i,.none)::r,iV,e=>by simp[JM]at e
 | (i,.dead)::r,iV,e=>by simp[JM]at e
 | (i,.sl _ _ _ _)::r,iV,e=>by simp[JM]at e
theorem QTX{x y z:TV}(e:yY false x y=some z):z=y:=by
 unfold yY at e
 split at e
 ·split at e
  ·rename_i t x t' y h
   cases e;have:=CT.beq_eq _ _ h;subst this;rfl
  ·cases e
 ·cases e
theorem Wh:∀ {x y z:List TV},mf false x y=some z->z=y
 | [],[],z,e=>by simp only[mf]at e;cases e;rfl
 | x::xs,y::ys,z,e=>by
  simp only[mf]at e
  split at e
  rotate_left
  ·cases e
  rename_i h1
  split at e
  rotate_left
  ·cases e
  rename_i h2
  cases e;rw[QTX h1,Wh h2]
 | [],_::_,z,e=>by simp[mf]at e
 | _::_,[],z,e=>by simp[mf]at e
theorem Wi{h:List (Nat × aG)}:∀ {bl iV:List (Nat × aG)},JM false h bl=some iV->bA (λi=>(dK h i).aH) (iV.map dW)=λi=>(dK h i).aH
 | [],iV,e=>by simp only[JM]at e;cases e;rfl
 | (i,.box cs)::r,iV,e=>by
  simp only[JM]at e
  split at e
  rotate_left
  ·cases e
  rename_i gL h0
  split at e
  rotate_left
  ·cases e
  rename_i h1
  split at e
  rotate_left
  ·cases e
  rename_i h2
  cases e;rw[Wh h1,List.map_cons,dW,bA];show bA (bN (λi=>(dK h i).aH) i (aG.aH (.box gL))) _=_;have:bN (λi=>(dK h i).aH) i (aG.aH (.box gL))=λi=>(dK h i).aH:=by
   funext j
   simp only[bN]
   split
   ·rename_i hj;rw[hj,<- h0]
   ·rfl
  rw[this];exact Wi h2
 | (i,.none)::r,iV,e=>by simp[JM]at e
 | (i,.dead)::r,iV,e=>by simp[JM]at e
 | (i,.sl _ _ _ _)::r,iV,e=>by simp[JM]at e
include hΓ in
theorem QRa{i s:Nat}{w:Bool}{ss:List bI}{d2:Nat}{o:eB}{d:Nat}{x:bJ}{σ σ':cD}{p:Option Prop}{l:Log}(e:Kv Γ i s w ss d2 o d x σ=some (p,σ',l))(hp:holds p) :
  ∃ l',Z0 ΓA ((bI.gw s w ss d2 o d x).er none i) σ.aH=some (σ'.aH,l')/\Jf l' l:=by
 obtain⟨t,h,nx⟩:=σ;unfold Kv at e
 split at e
 rotate_left
 ·cases e
 rename_i b hb;obtain⟨q,e⟩:=Q6 e;simp only[Bool.and_eq_true,Bool.not_eq_true']at q;obtain⟨⟨q1,q2⟩,q3⟩:=q;have q2:s∉Zs ss:=by simpa using q2
 have q3:¬ s=d2:=λh=>by rw[h]at q3;simp at q3
 split at e
 rotate_left
 ·cases e
 rename_i p' t1 l1 hr
 split at e
 rotate_left
 ·cases e
 rename_i pre v bl he
 split at e
 rotate_left
 ·cases e
 rename_i iV hm
 split at e
 rotate_left
 ·cases e
 rename_i xv hv
 cases e;simp only at hb hr he hm ⊢;have dt:=KA ss hr;rw[Wa]at hp;by_cases kT:(eh w b (!b))=true
 ·have mg:b=w:=by cases b <;> cases w <;> simp[eh]at kT ⊢
  have hp:=hp kT;rw[yZ]at hp;obtain⟨l',h1,h2⟩:=KC hΓ ss (g:=some (s,w)) hr hp.1 (by show cR t s=_;rw[hb,mg]) q2;have om:cR t1 s = .c .bool b:=by rw[dt s q2,hb]
  have hd1:=Kt hΓ he hp.2;rw[kT]at hm;have iv:=Wg hm;subst iv;have IZ:cR ((d2,v)::t1) s = .c .bool b:=by rw[JW];simp[bN,q3,om]
  have hd:QD ΓA (bc.ev λs=>(cR ((d2,v)::t1) s).aH) (λi=>(dK (iV.reverse++h) i).aH) (nx+16*(i+(di ss+1))) (Jg w s x).er=some ⟨.c (.v (.bool (eh w (b&&xv) (b||xv)))),[]⟩:=by
   subst mg;have e1:(bJ.s s).ev (cR ((d2,v)::t1)) = .c .bool b:=IZ
   cases b
   ·simp only[Jg,Bool.false_eq_true,if_false,eB.er,QD,ZP,e1,hv];rfl
   ·simp only[Jg,if_true,eB.er,QD,ZP,e1,hv];rfl
  refine⟨l'++[(acc (bc.ev λs=>(cR t1 s).aH) o.er,iV.map Prod.fst),(acc (bc.ev λs=>(cR ((d2,v)::t1) s).aH) (Jg w s x).er,[])],?_,h2.append ⟨rfl,λk a ha=>?_⟩⟩
  ·simp only[bI.er,pQ,h1,Z0,y3 (ΓA:=ΓA) (g:=some (s,w)) (t:=t1) (by show cR t1 s=_;rw[om,mg]),hd1,TE.aH,<- Ky];simp only[cD.app,y3 (ΓA:=ΓA) (g:=none) trivial,hd,Wb];refine congrArg some (Prod.ext ?_ rfl);rw[kT];unfold St.app cD.aH cD.T cD.H;simp only[cY,bA];congr 1
   funext j
   rw[JW d,bN,bN]
   split
   ·rfl
   ·rw[vM]
    split
    ·rfl
    ·rename_i hj;rw[List.mem_append,List.mem_singleton,not_or]at hj;rw[JW,bN,if_neg hj.2,dt j hj.1]
  ·match k,ha with
   | 0,ha=>exact .inr ha
   | 1,ha =>
    left;simp only[List.getElem?_cons_succ,List.getElem?_cons_zero,Option.some.injEq]at ha;rw[<- ha]
    cases w <;> rfl
   | k+2,ha=>simp at ha
 ·have pR:(eh w b (!b))=false:=by simpa using kT
  have mg:b≠w:=by rintro rfl;cases b <;> simp[eh]at kT
  have Wj:oo (λs=>(cR t s).aH) s w:=.inr ⟨b,by show(cR t s).aH=_;rw[hb];rfl,mg⟩;obtain⟨l',h1,h2,h3⟩:=y2 (Γ:=ΓA) (h:=λi=>(dK h i).aH) (nx:=nx) ss [] i s w (λs=>(cR t s).aH) q1 (by simp) Wj q2;have fS:=λop dd off=>Kz (Γ:=ΓA) (d:=dd) (op:=op) (off:=off) (σ:=⟨cN (Zs ss) (λs=>(cR t s).aH),λi=>(dK h i).aH,nx⟩) (Wj.cN _ q2);rw[pR]at hm;have iv:=Wi hm;have om:cN (Zs ss++[d2]) (λs=>(cR t s).aH) s = .c (.v (.bool b)):=by
   have:s∉Zs ss++[d2]:=by simp[q2,q3]
   simp only[cN,this,if_false,hb];rfl
  refine⟨l'++[([],[]),([],[])],?_,(Jf.off (by rw[h2,Wd hr]) h3).append ⟨rfl,λk a ha=>.inl ?_⟩⟩;rotate_left
  ·match k,ha with
   | 0,ha=>simpa using ha.symm
   | 1,ha=>simpa using ha.symm
   | k+2,ha=>simp at ha
  simp only[bI.er,pQ];rw[show cD.aH ⟨t,h,nx⟩=⟨λs=>(cR t s).aH,λi=>(dK h i).aH,nx⟩ from rfl,h1];simp only[Z0,fS,cY];rw[y1,<- CN];have hd:QD ΓA (bc.ev (cN (Zs ss++[d2]) λs=>(cR t s).aH)) (λi=>(dK h i).aH) (nx+16*(i+(di ss+1))) (Jg w s x).er=some ⟨.c (.v (.bool (eh w (b&&xv) (b||xv)))),[]⟩:=by
   cases w <;> cases b <;> first
    | exact absurd rfl mg
    | (simp only[Jg,Bool.false_eq_true,if_false,if_true,eB.er,QD,bJ.er,bc.ev,om];rfl)
  have pS:acc (bc.ev (cN (Zs ss++[d2]) λs=>(cR t s).aH)) (Jg w s x).er=[]:=by cases w <;> rfl
  simp only[ZN,hd,keys,List.map_nil,pS,pR];congr 2
  unfold St.app cD.aH cD.T cD.H;simp only[cY,bA,Kx,iv];congr 1
  funext j
  rw[JW,bN,bN]
  split
  ·rfl
  ·rw[vM];simp only[cN]
   split
   ·rfl
   ·rfl
include hΓ in
theorem y6:∀(ss:List bI){i:Nat}{σ σ':cD}{p:Option Prop}{l:Log},iQ Γ i ss σ=some (p,σ',l)->holds p->∃ l',Z0 ΓA (iU none i ss) σ.aH=some (σ'.aH,l')/\Jf l' l
 | [],i,σ,σ',p,l,e,hp=>by rw[iQ]at e;cases e;exact⟨[],rfl,.refl _⟩
 | .op d o::r,i,σ,σ',p,l,e,hp=>by
  rw[iQ]at e
  split at e
  rotate_left
  ·cases e
  rename_i pre v bl he
  split at e
  rotate_left
  ·cases e
  rename_i q σ2 m h2
  cases e;rw[yZ]at hp;have h1:=Kt hΓ he hp.1;obtain⟨l',h3,h4⟩:=y6 r h2 hp.2;refine⟨(acc (bc.ev λs=>(σ.T s).aH) o.er,bl.map Prod.fst)::l',?_,(Jf.refl [(acc (bc.ev λs=>(σ.T s).aH) o.er,bl.map Prod.fst)]).append h4⟩;obtain⟨t,h,nx⟩:=σ;simp only[iU,bI.er,bI.len,List.singleton_append,Z0,y3 (ΓA:=ΓA) (g:=none) (t:=t) trivial];have h1:QD ΓA (bc.ev λs=>(cR t s).aH) (λi=>(dK h i).aH) (nx+16*i) o.er=some (TE.aH ⟨pre,v,bl⟩):=h1;rw[h1];simp only[TE.aH,Wb,<- Ky,h3];rfl
 | .bj s w ss d x::r,i,σ,σ',p,l,e,hp=>by
  rw[iQ]at e
  split at e
  rotate_left
  ·cases e
  rename_i p1 t1 l1 h1
  split at e
  rotate_left
  ·cases e
  rename_i q σ2 m h2
  cases e;rw[yZ]at hp;obtain⟨t,h,nx⟩:=σ;obtain⟨y4,h3,h4⟩:=We hΓ _ (g:=none) h1 hp.1 trivial trivial;obtain⟨l',h5,h6⟩:=y6 r h2 hp.2;refine⟨y4++l',?_,h4.append h6⟩;simp only[iU,pQ,h3];rw[show(bI.bj s w ss d x).len=di ss+1 from by rw[bI.len],h5]
 | .gw s w ss d2 o d x::r,i,σ,σ',p,l,e,hp=>by
  rw[iQ]at e
  split at e
  rotate_left
  ·cases e
  rename_i p1 σ1 l1 h1
  split at e
  rotate_left
  ·cases e
  rename_i q σ2 m h2
  cases e;rw[yZ]at hp;obtain⟨y4,h3,h4⟩:=QRa hΓ h1 hp.1;obtain⟨l',h5,h6⟩:=y6 r h2 hp.2;refine⟨y4++l',?_,h4.append h6⟩;simp only[iU,pQ,h3];rw[show(bI.gw s w ss d2 o d x).len=di ss+2 from by rw[bI.len],h5]
end
theorem Wk{Γ:eR}{K:St->Prop}:∀(l:List AO){σ σ':St}{log:Log},Z0 Γ l σ=some (σ',log)->K σ'->ir Γ l K σ
 | [],σ,σ',log,e,hk=>by simp only[Z0,Option.some.injEq,Prod.mk.injEq]at e;rw[e.1];exact hk
 | o::l,σ,σ',log,e,hk=>by
  simp only[Z0]at e
  split at e
  rotate_left
  ·cases e
  rename_i σ1 a w h1
  split at e
  rotate_left
  ·cases e
  rename_i σ2 m h2
  cases e;have ih:=Wk l h2 hk;unfold ZN at h1;rw[ir];clear h2
  split at h1
  ·rename_i hg
   split at h1
   rotate_left
   ·cases h1
   rename_i e he
   cases h1;exact ih
  ·rename_i s wt hg
   split at h1
   ·rename_i c hc
    split at h1
    ·rename_i j5
     split at h1
     rotate_left
     ·cases h1
     rename_i e he
     cases h1;exact⟨λ_=>ih,λhn=>absurd j5 hn⟩
    ·rename_i j5
     cases h1;exact⟨λh=>absurd h j5,λ_=>ih⟩
   ·rename_i hc
    cases h1;exact ih
   ·cases h1
end Go.Proofs.YtdplaepmjogjjaaGreat.Am

