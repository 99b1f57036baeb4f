/- -/
import Derived.Test.YtdplaepmjogjjaaGreatVEG2
import Derived.Orders
import Derived.Control
import Derived.ProofKit
import Derived.OpenShut
set_option linter.all false
namespace Go.Proofs.YtdplaepmjogjjaaGreat.Am
open Go Go.RowKit
theorem Zc {t t':Nat→AV} {y:Opd} (h:∀ s,s∈y.slots→t' s=t s):y.ev t'=y.ev t:=by
 cases y with
 | s i=>exact h i (by simp [Opd.slots])
 | k x=>rfl
theorem Qje {h h':Nat→Blk} {x:AV} (hh:∀ id,id∈x.ref1→h' id=h id):x.d h'=x.d h:=by
 cases x with
 | r sz id off len=>simp only [AV.d,hh id (by simp [AV.ref1])]
 | b d id g p=>simp only [AV.d,hh id (by simp [AV.ref1])]
 | _=>rfl
theorem QcK {h h':Nat→Blk}:∀ {xs:List AV},(∀ id,id∈AV.refsL xs→h' id=h id)→AV.ds h' xs=AV.ds h xs
 | [],_=>rfl
 | x::xs,hh=>by
  simp only [AV.ds]
  rw [Qje (x:=x) fun id hid=>hh id (by simp [AV.refsL,hid]),QcK fun id hid=>hh id (by simp [AV.refsL,hid])]
theorem QsU {h h':Nat→Blk} {x:AV} (hh:∀ id,id∈x.refs→h' id=h id):AV.ds h' x.cells=AV.ds h x.cells:=by
 refine QcK fun id hid=>hh id ?_
 cases x with
 | a cs=>exact hid
 | _=>simpa [AV.cells,AV.refsL,AV.refs] using hid
theorem QzS {h h':Nat→Blk} {sz:Nat} {x:AV} (hh:∀ id,id∈x.refs→h' id=h id):x.els h' sz=x.els h sz:=by
 cases x with
 | r sz' id off len=>simp only [AV.els,hh id (by simp [AV.refs,AV.ref1])]
 | b d id g p=>cases d <;> first | rfl | simp only [AV.els,hh id (by simp [AV.refs,AV.ref1])]
 | c d=>cases d <;> rfl
 | _=>rfl
theorem QsY {h h':Nat→Blk} {x:AV} (hh:∀ id,id∈x.refs++x.lent→h' id=h id):x.arg h'=x.arg h:=by
 cases x with
 | r sz id off len=>simp only [AV.arg];rw [Qje fun i hi=>hh i (by simp [AV.refs];exact .inl hi)]
 | b d id g p=>simp only [AV.arg];rw [Qje fun i hi=>hh i (by simp [AV.refs];exact .inl hi)]
 | a cs=>simp only [AV.arg];rw [QcK fun i hi=>hh i (by simp [AV.refs];exact .inl hi)]
 | p id i j =>
  have h1:=hh id (by simp [AV.lent])
  match i,j with
  | 0,0 =>
   simp only [AV.arg,h1]
   cases h id with
   | box cs =>
    simp only
    by_cases hn:AV.refsL cs=[]
    ·rw [if_pos hn,if_pos hn,QcK (h:=h) (h':=h') (xs:=cs) fun i hi=>by rw [hn] at hi;cases hi]
    ·rw [if_neg hn,if_neg hn]
   | _=>rfl
  | 0,j+1=>rfl
  | i+1,_=>rfl
 | _=>rfl
theorem QnM {h h':Nat→Blk}:∀ {xs:List AV},(∀ id,id∈xs.flatMap (fun x=>x.refs++x.lent)→h' id=h id)→AV.argL h' xs=AV.argL h xs
 | [],_=>rfl
 | x::xs,hh=>by
  simp only [AV.argL]
  rw [QsY (x:=x) fun id hid=>hh id (by simp only [List.flatMap_cons,List.mem_append] at hid ⊢;exact .inl hid),
   QnM fun id hid=>hh id (by simp only [List.flatMap_cons,List.mem_append] at hid ⊢;exact .inr hid)]
theorem QvT {h h':Nat→Blk} {x:AV} (hh:∀ id,id∈x.refs++x.lent→h' id=h id):x.argO h'=x.argO h:=by
 cases x with
 | r sz id off len=>simp only [AV.argO];rw [hh id (by simp [AV.refs,AV.ref1])]
 | _=>rfl
theorem Qua {h h':Nat→Blk} {x:AV} (hh:∀ id,id∈x.ref1→h' id=h id):x.argP1 h'=x.argP1 h:=by
 cases x with
 | r sz id off len=>simp only [AV.argP1];rw [hh id (by simp [AV.ref1])]
 | c d=>cases d <;> rfl
 | _=>rfl
theorem QuJ {h h':Nat→Blk}:∀ {xs:List AV},(∀ id,id∈AV.refsL xs→h' id=h id)→AV.argPL h' xs=AV.argPL h xs
 | [],_=>rfl
 | x::xs,hh=>by
  simp only [AV.argPL]
  rw [Qua (x:=x) fun id hid=>hh id (by simp [AV.refsL,hid]),QuJ fun id hid=>hh id (by simp [AV.refsL,hid])]
theorem QAA {h h':Nat→Blk} {m:AM} {x:AV} (hh:∀ id,id∈x.refs++x.lent→h' id=h id):x.argX h' m=x.argX h m:=by
 cases m with
 | d=>exact QsY hh
 | o=>exact QvT hh
 | p =>
  cases x with
  | r sz id off len=>simp only [AV.argX,AV.argP];exact Qua fun i hi=>hh i (by simp [AV.refs];exact .inl hi)
  | a cs=>simp only [AV.argX,AV.argP];rw [QuJ fun i hi=>hh i (by simp [AV.refs];exact .inl hi)]
  | _=>rfl
theorem Qm5 {h h':Nat→Blk}:∀ {ms:List AM} {xs:List AV},(∀ id,id∈xs.flatMap (fun x=>x.refs++x.lent)→h' id=h id)→AV.argM h' ms xs=AV.argM h ms xs
 | [],xs,hh=>QnM hh
 | _::_,[],_=>rfl
 | m::ms,x::xs,hh=>by
  simp only [AV.argM]
  rw [QAA (x:=x) fun id hid=>hh id (by simp only [List.flatMap_cons,List.mem_append] at hid ⊢;exact .inl hid),
   Qm5 (ms:=ms) fun id hid=>hh id (by simp only [List.flatMap_cons,List.mem_append] at hid ⊢;exact .inr hid)]
theorem QJe {h h':Nat→Blk} {id g i j:Nat} {x:AV} (hh:∀ id,id∈x.ref1→h' id=h id):x.mov h' id g i j=x.mov h id g i j:=by
 cases x with
 | r sz id' off len=>simp only [AV.mov,hh id' (by simp [AV.ref1])]
 | c d=>cases d <;> rfl
 | _=>rfl
theorem Qkt {h h':Nat→Blk} {id g i:Nat}:∀ {xs:List AV} {j:Nat},(∀ id,id∈AV.refsL xs→h' id=h id)→AV.movL h' id g i j xs=AV.movL h id g i j xs
 | [],_,_=>rfl
 | x::xs,j,hh=>by
  simp only [AV.movL]
  rw [QJe (x:=x) fun id hid=>hh id (by simp [AV.refsL,hid]),Qkt fun id hid=>hh id (by simp [AV.refsL,hid])]
theorem Qpv {x:AV} {id:Nat} (h:id∈AV.refsL x.cells):id∈x.refs:=by
 cases x with
 | a cs=>exact h
 | _=>simpa [AV.cells,AV.refsL,AV.refs] using h
theorem QmF {t t':Nat→AV} {h h':Nat→Blk} {b:Nat}:∀ {ps:List Opd} {i:Nat},(∀ s,s∈ps.flatMap Opd.slots→t' s=t s)→(∀ id,id∈ps.flatMap (fun x=>(Opd.ev t x).refs)→h' id=h id)→movE h' b (Opd.ev t') i ps=movE h b (Opd.ev t) i ps
 | [],_,_,_=>rfl
 | x::ps,i,hs,hh=>by
  simp only [List.flatMap_cons,List.mem_append] at hs hh
  simp only [movE]
  rw [Zc (y:=x) fun s h=>hs s (.inl h),Qkt (xs:=(Opd.ev t x).cells) fun id h=>hh id (.inl (Qpv h)),QmF (fun s h=>hs s (.inr h)) (fun id h=>hh id (.inr h))]
theorem QEr {h h':Nat→Blk} {xs:List (List D)} {x:AV} (hh:∀ id,id∈x.refs→h' id=h id):x.okA h' xs=x.okA h xs:=by
 cases x with
 | r sz id' off len=>simp only [AV.okA,hh id' (by simp [AV.refs,AV.ref1])]
 | _=>rfl
theorem QAx {h h':Nat→Blk} {xs:List (List D)} {id len:Nat} {x:AV} (hh:∀ id,id∈x.refs→h' id=h id):x.movA h' id len xs=x.movA h id len xs:=by
 cases x with
 | r sz id' off len=>simp only [AV.movA,hh id' (by simp [AV.refs,AV.ref1])]
 | _=>rfl
theorem QC8 {h h':Nat→Blk} {x:AV} (hh:∀ id,id∈x.refs→h' id=h id):x.killA h'=x.killA h:=by
 cases x with
 | r sz id' off len=>simp only [AV.killA,hh id' (by simp [AV.refs,AV.ref1])]
 | _=>rfl
theorem QmK {h h':Nat→Blk}:∀ {ids:List Nat} {l:List Blk},(∀ id,id∈ids→h' id=h id)→Zw h' ids l=Zw h ids l
 | [],l,_=>by cases l <;> rfl
 | id::ids,[],_=>rfl
 | id::ids,x::l,hh=>by
  simp only [Zw]
  rw [hh id (by simp),QmK fun i hi=>hh i (by simp [hi])]
theorem QhH {x:AV}:∀ {ms:List AM} {xs:List AV},x∈owns ms xs→x∈xs
 | [],xs,h=>by simp [owns] at h
 | _::_,[],h=>by simp [owns] at h
 | m::ms,y::xs,h=>by
  simp only [owns] at h
  split at h
  ·rcases List.mem_cons.1 h with h | h
   ·exact List.mem_cons.2 (.inl h)
   ·exact List.mem_cons_of_mem _ (QhH h)
  ·exact List.mem_cons_of_mem _ (QhH h)
theorem QgY {x:AV}:∀ {ms:List AM} {xs:List AV},x∈dats ms xs→x∈xs
 | [],xs,h=>h
 | _::_,[],h=>by simp [dats] at h
 | m::ms,y::xs,h=>by
  simp only [dats] at h
  split at h
  ·exact List.mem_cons_of_mem _ (QgY h)
  ·rcases List.mem_cons.1 h with h | h
   ·exact List.mem_cons.2 (.inl h)
   ·exact List.mem_cons_of_mem _ (QgY h)
theorem QqW {t t':Nat→AV}:∀ {ps:List (Nat × Nat × Opd)} {cs:List AV},(∀ s,s∈ps.flatMap (fun x=>x.2.2.slots)→t' s=t s)→YB (Opd.ev t') cs ps=YB (Opd.ev t) cs ps
 | [],_,_=>rfl
 | (off,n,x)::ps,cs,h=>by
  simp only [List.flatMap_cons,List.mem_append] at h
  simp only [YB]
  rw [Zc (y:=x) fun s hs=>h s (.inl hs)]
  split
  ·exact QqW fun s hs=>h s (.inr hs)
  ·rfl
theorem QtM {t t':Nat→AV} {h h':Nat→Blk} {sz:Nat}:∀ {ps:List Opd},(∀ s,s∈ps.flatMap Opd.slots→t' s=t s)→(∀ id,id∈ps.flatMap (fun x=>(Opd.ev t x).refs)→h' id=h id)→elems h' (Opd.ev t') sz ps=elems h (Opd.ev t) sz ps
 | [],_,_=>rfl
 | x::ps,hs,hh=>by
  simp only [List.flatMap_cons,List.mem_append] at hs hh
  simp only [elems]
  rw [Zc (y:=x) fun s h=>hs s (.inl h),QsU (x:=Opd.ev t x) fun id h=>hh id (.inl h),QtM (fun s h=>hs s (.inr h)) (fun id h=>hh id (.inr h))]
theorem Qb8 {t t':Nat→AV} {β:Type} (g:AV→List β):∀ {ps:List Opd},(∀ s,s∈ps.flatMap Opd.slots→t' s=t s)→(ps.flatMap fun x=>g (Opd.ev t' x))=ps.flatMap fun x=>g (Opd.ev t x)
 | [],_=>rfl
 | x::ps,hs=>by
  simp only [List.flatMap_cons,List.mem_append] at hs ⊢
  rw [Zc (y:=x) fun s h=>hs s (.inl h),Qb8 g fun s h=>hs s (.inr h)]
theorem Qgb {h h':Nat→Blk}:∀ {ids:List Nat},(∀ id,id∈ids→h' id=h id)→frz h' ids=frz h ids
 | [],_=>rfl
 | id::ids,hh=>by
  simp only [frz]
  rw [hh id (by simp),Qgb fun i hi=>hh i (by simp [hi])]
theorem Qon {t t':Nat→AV} {m:Int} {lo:Option Opd} (h:∀ s,s∈(match lo with | some l=>l.slots | none=>[])→t' s=t s):Zt (Opd.ev t') m lo=Zt (Opd.ev t) m lo:=by
 cases lo with
 | none=>rfl
 | some l=>simp only [Zt];rw [Zc h]
theorem QtZ {Γ:Tab} {t t':Nat→AV} {h h':Nat→Blk} {b:Nat} {op:AOp} (ht:∀ s,s∈op.slots→t' s=t s) (hh:∀ id,id∈acc (Opd.ev t) op→h' id=h id) :
  Qh Γ (Opd.ev t') h' b op=Qh Γ (Opd.ev t) h b op∧acc (Opd.ev t') op=acc (Opd.ev t) op:=by
 cases op with
 | mov x | not x | neg x | ext x i | conv k x | fld x off n agg =>
  have e:=Zc (y:=x) (t:=t) (t':=t') (fun s hs=>ht s (by simpa [AOp.slots] using hs))
  simp only [Qh,acc,e,and_self]
 | box e0 x n =>
  have e:=Zc (y:=x) (t:=t) (t':=t') (fun s hs=>ht s (by simpa [AOp.slots] using hs))
  simp only [Qh,acc,e,and_self]
 | new e zs=>exact ⟨rfl,rfl⟩
 | pick c x y =>
  have e1:=Zc (y:=c) (t:=t) (t':=t') (fun s hs=>ht s (by simp [AOp.slots,hs]))
  have e2:=Zc (y:=x) (t:=t) (t':=t') (fun s hs=>ht s (by simp [AOp.slots,hs]))
  have e3:=Zc (y:=y) (t:=t) (t':=t') (fun s hs=>ht s (by simp [AOp.slots,hs]))
  simp only [Qh,acc,e1,e2,e3,and_self]
 | bin op x y | cmpa n neg x y | eqb neg x y | mm mx x y =>
  have e2:=Zc (y:=x) (t:=t) (t':=t') (fun s hs=>ht s (by simp [AOp.slots,hs]))
  have e3:=Zc (y:=y) (t:=t) (t':=t') (fun s hs=>ht s (by simp [AOp.slots,hs]))
  simp only [Qh,acc,e2,e3,and_self]
 | load x n agg | fad x off | nilc x =>
  have e:=Zc (y:=x) (t:=t) (t':=t') (fun s hs=>ht s (by simpa [AOp.slots] using hs))
  simp only [Qh,acc,e] at hh ⊢
  cases hx:Opd.ev t x with
  | p id i j =>
   rw [hx] at hh
   simp only [hh id (by simp),and_self]
  | bq cs j id g p i =>
   rw [hx] at hh
   simp only [hh id (by simp),and_self]
  | _=>first | exact ⟨rfl,rfl⟩ | exact ⟨rfl,trivial⟩
 | store x v n =>
  have e2:=Zc (y:=x) (t:=t) (t':=t') (fun s hs=>ht s (by simp [AOp.slots,hs]))
  have e3:=Zc (y:=v) (t:=t) (t':=t') (fun s hs=>ht s (by simp [AOp.slots,hs]))
  simp only [Qh,acc,e2,e3] at hh ⊢
  have hr:∀ id,id∈(Opd.ev t v).refs→h' id=h id:=fun id hid=>hh id (List.mem_append.2 (.inr hid))
  rw [QsU hr,Qgb hr]
  cases hx:Opd.ev t x with
  | p id i j =>
   rw [hx] at hh
   have hm:∀ g,AV.movL h' id g i j (Opd.ev t v).cells=AV.movL h id g i j (Opd.ev t v).cells:=fun g=>Qkt fun k hk=>hr k (Qpv hk)
   simp only [hh id (by simp),hm,and_self]
  | _=>first | exact ⟨rfl,rfl⟩ | exact ⟨rfl,trivial⟩
 | iad x i sz =>
  have e2:=Zc (y:=x) (t:=t) (t':=t') (fun s hs=>ht s (by simp [AOp.slots,hs]))
  have e3:=Zc (y:=i) (t:=t) (t':=t') (fun s hs=>ht s (by simp [AOp.slots,hs]))
  simp only [Qh,acc,e2,e3] at hh ⊢
  cases hx:Opd.ev t x with
  | r sz' id off len =>
   rw [hx] at hh
   simp only [hh id (by simp [AV.refs,AV.ref1]),and_self]
  | b d id g p =>
   rw [hx] at hh
   cases d with
   | v=>first | exact ⟨rfl,rfl⟩ | exact ⟨rfl,trivial⟩
   | sl=>simp only [hh id (by simp [AV.refs,AV.ref1]),and_self]
  | c d=>cases d <;> first | exact ⟨rfl,rfl⟩ | exact ⟨rfl,trivial⟩
  | _=>first | exact ⟨rfl,rfl⟩ | exact ⟨rfl,trivial⟩
 | len x =>
  have e:=Zc (y:=x) (t:=t) (t':=t') (fun s hs=>ht s (by simpa [AOp.slots] using hs))
  simp only [Qh,acc,e] at hh ⊢
  cases hx:Opd.ev t x with
  | r sz' id off len =>
   rw [hx] at hh
   simp only [hh id (by simp [AV.refs,AV.ref1]),and_self]
  | b d id g p =>
   rw [hx] at hh
   cases d with
   | v=>first | exact ⟨rfl,rfl⟩ | exact ⟨rfl,trivial⟩
   | sl=>simp only [hh id (by simp [AV.refs,AV.ref1]),and_self]
  | c d=>cases d <;> first | exact ⟨rfl,rfl⟩ | exact ⟨rfl,trivial⟩
  | _=>first | exact ⟨rfl,rfl⟩ | exact ⟨rfl,trivial⟩
 | slc x lo hi sz =>
  have e2:=Zc (y:=x) (t:=t) (t':=t') (fun s hs=>ht s (by simp [AOp.slots,hs]))
  have e3:∀ m,Zt (Opd.ev t') m lo=Zt (Opd.ev t) m lo:=fun m=>Qon (fun s hs=>ht s (by simp only [AOp.slots,List.mem_append];exact .inl (.inr hs)))
  have e4:∀ m,Zt (Opd.ev t') m hi=Zt (Opd.ev t) m hi:=fun m=>Qon (fun s hs=>ht s (by simp only [AOp.slots,List.mem_append];exact .inr hs))
  simp only [Qh,acc,e2,e3,e4] at hh ⊢
  cases hx:Opd.ev t x with
  | r sz' id off len =>
   rw [hx] at hh
   simp only [hh id (by simp [AV.refs,AV.ref1]),and_self]
  | c d=>cases d <;> first | exact ⟨rfl,rfl⟩ | exact ⟨rfl,trivial⟩
  | _=>first | exact ⟨rfl,rfl⟩ | exact ⟨rfl,trivial⟩
 | mk e0 sz zs n =>
  have e:=Zc (y:=n) (t:=t) (t':=t') (fun s hs=>ht s (by simpa [AOp.slots] using hs))
  simp only [Qh,acc,e] at hh ⊢
  rw [QcK (xs:=zs) (h:=h) (h':=h') fun id hid=>hh id hid]
  first | exact ⟨rfl,rfl⟩ | exact ⟨rfl,trivial⟩
 | build zs ps =>
  simp only [Qh,acc]
  rw [QqW (ps:=ps) fun s hs=>ht s (by simpa [AOp.slots] using hs)]
  first | exact ⟨rfl,rfl⟩ | exact ⟨rfl,trivial⟩
 | bsl e0 sz ps =>
  have hs:∀ s,s∈ps.flatMap Opd.slots→t' s=t s:=fun s hs=>ht s (by simpa [AOp.slots] using hs)
  simp only [acc] at hh
  simp only [Qh,acc]
  rw [QtM hs hh,Qb8 AV.refs hs,Qb8 AV.mrefs hs,Qgb hh,QmF hs hh]
  first | exact ⟨rfl,rfl⟩ | exact ⟨rfl,trivial⟩
 | app s x e0 sz =>
  have e2:=Zc (y:=s) (t:=t) (t':=t') (fun s hs=>ht s (by simp [AOp.slots,hs]))
  have e3:=Zc (y:=x) (t:=t) (t':=t') (fun s hs=>ht s (by simp [AOp.slots,hs]))
  simp only [Qh,acc,e2,e3] at hh ⊢
  have hxr:∀ id,id∈(Opd.ev t x).refs→h' id=h id:=fun id hid=>hh id (List.mem_append.2 (.inr hid))
  rw [QzS (x:=Opd.ev t x) hxr,QC8 hxr]
  simp only [QEr hxr,QAx hxr]
  cases hx:Opd.ev t s with
  | r sz' id off len =>
   rw [hx] at hh
   have h1:=hh id (by simp [AV.refs,AV.ref1])
   cases off with
   | zero=>simp only [h1,and_self]
   | succ k=>first | exact ⟨rfl,rfl⟩ | exact ⟨rfl,trivial⟩
  | c d=>cases d <;> first | exact ⟨rfl,rfl⟩ | exact ⟨rfl,trivial⟩
  | _=>first | exact ⟨rfl,rfl⟩ | exact ⟨rfl,trivial⟩
 | call f args =>
  have hs:∀ s,s∈args.flatMap Opd.slots→t' s=t s:=fun s hs=>ht s (by simpa [AOp.slots] using hs)
  have hm:args.map (Opd.ev t')=args.map (Opd.ev t):=List.map_congr_left fun x hx=>Zc fun s h=>hs s (List.mem_flatMap.2 ⟨x,hx,h⟩)
  simp only [acc] at hh
  have ha:AV.argM h' (Γ.md f) (args.map (Opd.ev t))=AV.argM h (Γ.md f) (args.map (Opd.ev t)):=Qm5 fun id hid=>by
   rw [List.flatMap_map] at hid
   obtain ⟨x,hx,hid⟩:=List.mem_flatMap.1 hid
   refine hh id ?_
   rcases List.mem_append.1 hid with hid | hid
   ·exact List.mem_append.2 (.inl (List.mem_flatMap.2 ⟨x,hx,hid⟩))
   ·exact List.mem_append.2 (.inr (List.mem_flatMap.2 ⟨x,hx,hid⟩))
  have hall:∀ x,x∈args.map (Opd.ev t)→∀ id,id∈x.refs→h' id=h id:=fun x hx id hid=>by
   obtain ⟨y,hy,rfl⟩:=List.mem_map.1 hx
   exact hh id (List.mem_append.2 (.inl (List.mem_flatMap.2 ⟨y,hy,hid⟩)))
  simp only [Qh,acc]
  rw [hm,Qb8 AV.lent hs,Qb8 AV.refs hs]
  refine ⟨?_,rfl⟩
  generalize hX:args.map (Opd.ev t)=X at *
  split
  ·rename_i id g i j r hn
   obtain ⟨ms',d,_,rfl,_⟩:=Qq3 hn
   unfold Qc3
   rw [hall _ (List.mem_cons_self) id (by simp [AV.refs,AV.ref1])]
  ·unfold Qdd
   rw [ha,Qgb (h:=h) (h':=h') fun id hid=>(by
    obtain ⟨x,hx,hid⟩:=List.mem_flatMap.1 hid
    exact hall x (QgY hx) id hid)]
   have hhd:∀ l,Zw h' ((owns (Γ.md f) X).flatMap AV.refs) l=Zw h ((owns (Γ.md f) X).flatMap AV.refs) l:=fun l=>QmK fun id hid=>by
    obtain ⟨x,hx,hid⟩:=List.mem_flatMap.1 hid
    exact hall x (QhH hx) id hid
   simp only [hhd]
end Go.Proofs.YtdplaepmjogjjaaGreat.Am
namespace Go.Proofs.YtdplaepmjogjjaaGreat.Am
open Go Go.RowKit
theorem Qby:∀ (l:List (Nat × Blk)) (h:Nat→Blk) (i:Nat),i∉keys l→updL h l i=h i
 | [],_,_,_=>rfl
 | (k,x)::l,h,i,hi=>by
  simp only [keys,List.map_cons,List.mem_cons,not_or] at hi
  simp only [updL]
  rw [Qby l _ i hi.2,Qq _ _ _ _ hi.1]
theorem Qjd:∀ (l:List (Nat × Blk)) (g h:Nat→Blk) (i:Nat),(i∈keys l∨g i=h i)→updL g l i=updL h l i
 | [],g,h,i,hi=>by
  rcases hi with hi | hi
  ·simp [keys] at hi
  ·exact hi
 | (k,x)::l,g,h,i,hi=>by
  simp only [updL]
  refine Qjd l _ _ i ?_
  by_cases hk:i=k
  ·subst hk;right;rw [Qu,Qu]
  ·rcases hi with hi | hi
   ·simp only [keys,List.map_cons,List.mem_cons] at hi
    rcases hi with hi | hi
    ·exact absurd hi hk
    ·exact .inl hi
   ·right;rw [Qq _ _ _ _ hk,Qq _ _ _ _ hk];exact hi
theorem QyT {l m:List (Nat × Blk)} (hlm:∀ i,i∈keys l→i∉keys m) (h:Nat→Blk):updL (updL h l) m=updL (updL h m) l:=by
 funext i
 by_cases h1:i∈keys l
 ·rw [Qby m _ i (hlm i h1),Qjd l (updL h m) h i (.inl h1)]
 ·rw [Qby l (updL h m) i h1]
  exact Qjd m _ _ i (.inr (Qby l h i h1))
theorem Qkw {Γ:Tab} {o:AO} {σ σ':St} {a w:List Nat} (h:QP Γ o σ=some (σ',a,w)) :
  ∃ v bl,σ'=⟨putO σ.t o.dst v,updL σ.h bl,σ.nx⟩∧w=keys bl∧∀ (t':Nat→AV) (h':Nat→Blk),(∀ s,s∈o.reads→t' s=σ.t s)→(∀ id,id∈a→h' id=σ.h id) →
   QP Γ o ⟨t',h',σ.nx⟩=some (⟨putO t' o.dst v,updL h' bl,σ.nx⟩,a,w):=by
 unfold QP at h
 split at h
 ·rename_i hg
  split at h
  rotate_left
  ·cases h
  rename_i e he
  cases h
  refine ⟨e.val,e.blks,rfl,rfl,fun t' h' ht hh=>?_⟩
  obtain ⟨d1,d2⟩:=QtZ (Γ:=Γ) (t:=σ.t) (t':=t') (h:=σ.h) (h':=h') (b:=σ.nx+o.off) (op:=o.op) (fun s hs=>ht s (List.mem_append.2 (.inl hs))) hh
  unfold QP
  simp only [hg,d1,d2,he]
  rfl
 ·rename_i s wt hg
  have hs:s∈o.reads:=by unfold AO.reads;rw [hg];simp
  split at h
  rotate_left
  ·rename_i hc
   cases h
   refine ⟨.t [],[],rfl,rfl,fun t' h' ht hh=>?_⟩
   unfold QP
   simp only [hg,ht s hs,hc]
   rfl
  ·cases h
  rename_i c hc
  split at h
  ·rename_i hcw
   split at h
   rotate_left
   ·cases h
   rename_i e he
   cases h
   refine ⟨e.val,e.blks,rfl,rfl,fun t' h' ht hh=>?_⟩
   obtain ⟨d1,d2⟩:=QtZ (Γ:=Γ) (t:=σ.t) (t':=t') (h:=σ.h) (h':=h') (b:=σ.nx+o.off) (op:=o.op) (fun s hs=>ht s (List.mem_append.2 (.inl hs))) hh
   unfold QP
   simp only [hg,ht s hs,hc,hcw,if_true,d1,d2,he]
   rfl
  ·rename_i hcw
   cases h
   refine ⟨.t [],[],rfl,rfl,fun t' h' ht hh=>?_⟩
   unfold QP
   simp only [hg,ht s hs,hc,if_neg hcw]
   rfl
theorem Qpw {t:Nat→AV} {d:Option Nat} {v:AV} {s:Nat} (h:∀ x,d=some x→s≠x):putO t d v s=t s:=by
 cases d with
 | none=>rfl
 | some x=>exact Qq _ _ _ _ (h x rfl)
theorem Qta {l m:List Nat} (h:Yu l m=true):∀ x,x∈l→x∉m:=by
 intro x hx hm
 have:=List.all_eq_true.1 h x hx
 simp [hm] at this
theorem swap {Γ:Tab} {p o:AO} {σ σp σ2:St} {ap wp ao wo:List Nat} (hfree:p.free o=true) (h1:QP Γ p σ=some (σp,ap,wp)) (h2:QP Γ o σp=some (σ2,ao,wo))
  (hap:Yu wp (ao++wo)=true) (hap2:Yu wo ap=true):∃ σ1,QP Γ o σ=some (σ1,ao,wo)∧QP Γ p σ1=some (σ2,ap,wp):=by
 obtain ⟨vp,lp,rfl,rfl,hp⟩:=Qkw h1
 obtain ⟨vo,lo,rfl,rfl,ho⟩:=Qkw h2
 unfold AO.free at hfree
 rw [Bool.and_eq_true] at hfree
 obtain ⟨f1,f2⟩:=hfree
 have hA:=Qta hap
 have hB:=Qta hap2
 have hpd:∀ d,p.dst=some d→d∉o.reads∧∀ d',o.dst=some d'→d≠d':=by
  intro d hd
  rw [hd] at f1
  simp only [Bool.and_eq_true,Bool.not_eq_true'] at f1
  refine ⟨by simpa using f1.1,fun d' hd'=>?_⟩
  have:=f1.2
  rw [hd'] at this
  simpa using this
 have hod:∀ d,o.dst=some d→d∉p.reads:=by
  intro d hd
  rw [hd] at f2
  simpa using f2
 have s1:=ho σ.t σ.h (fun s hs=>(Qpw fun x hx e=>(hpd x hx).1 (e ▸ hs)).symm) (fun id hid=>(Qby lp σ.h id (fun hk=>hA id hk (List.mem_append.2 (.inl hid)))).symm)
 refine ⟨_,s1,?_⟩
 have s2:=hp (putO σ.t o.dst vo) (updL σ.h lo) (fun s hs=>Qpw fun x hx e=>hod x hx (e ▸ hs)) (fun id hid=>Qby lo σ.h id (fun hk=>hB id hk hid))
 rw [s2]
 congr 2
 ·congr 1
  ·cases hpd':p.dst with
   | none=>cases o.dst <;> rfl
   | some d =>
    cases hod':o.dst with
    | none=>rfl
    | some d' =>
     have hne:=(hpd d hpd').2 d' hod'
     funext s
     simp only [putO,upd]
     by_cases e1:s=d
     ·by_cases e2:s=d'
      ·exact absurd (e1.symm.trans e2) hne
      ·rw [if_pos e1,if_neg e2,if_pos e1]
     ·by_cases e2:s=d'
      ·rw [if_neg e1,if_pos e2,if_pos e2]
      ·rw [if_neg e1,if_neg e2,if_neg e2,if_neg e1]
  ·exact QyT (fun i hi hk=>hA i hk (List.mem_append.2 (.inr hi))) σ.h
theorem Sat.nx {C:Ctx} {U:Nat→Prop} {t:Nat→AV} {h:Nat→Blk} {n m:Nat} {a:Act} {w:World} {ι:Io} (S:Sat C U ⟨t,h,n⟩ a w ι):Sat C U ⟨t,h,m⟩ a w ι :=
 ⟨S.fra,S.vals,S.size,S.defers,S.blk,S.inj,S.rng,S.fresh,S.live,S.lent,S.hand,S.lab⟩
theorem Sat.weak {C:Ctx} {U U':Nat→Prop} {σ:St} {a:Act} {w:World} {ι:Io} (S:Sat C U σ a w ι) (h:∀ i,U' i→U i):Sat C U' σ a w ι :=
 { S with fresh:=fun i hi=>S.fresh i (h i hi) }
theorem QhE {P:Program} {N:Nat} {ops:Array Oper} {o:Oper} {i:Nat} {ao:AO} (h:cAO P N ops o i=some ao) :
  ∃ op gd,cOp P o=some op∧cGd ops o.guard=some gd∧ao=⟨o.dst,op,gd,16*i⟩∧(∀ d,o.dst=some d→d<N)∧∀ s b,gd=some (s,b)→s<N:=by
 unfold cAO at h
 generalize h1:cOp P o=x at h
 generalize h2:cGd ops o.guard=y at h
 cases x with
 | none=>cases y <;> cases h
 | some op =>
  cases y with
  | none=>cases h
  | some gd =>
   simp only at h
   split at h
   rotate_left
   ·cases h
   rename_i hcond
   have h:=(Option.some.inj h).symm
   unfold okAO at hcond
   rw [Bool.and_eq_true] at hcond
   obtain ⟨hd0,hg0⟩:=hcond
   refine ⟨op,gd,rfl,rfl,h,fun d hd=>?_,fun s b hs=>?_⟩
   ·rw [hd] at hd0;simpa using hd0
   ·rw [hs] at hg0;simpa using hg0
section
variable {C:Ctx} {U U':Nat→Prop} {σ σ':St} {a:Act} {w:World} {Q:Exit→Act→World→Prop} {Γ:Tab} {ops:Array Oper}
theorem Qtb (hΓ:YC C.P Γ) (S:SatU C U σ a w) {i:Nat} {o:Oper} {ao:AO} (hi:ops[i]? = some o) (hc:cAO C.P C.N ops o i=some ao) (hb:∀ k,σ.nx+16*i≤k→k<σ.nx+16*i+16→U k)
  (hU':∀ k,U' k→U k∧¬ (σ.nx+16*i≤k∧k<σ.nx+16*i+16)) {ac wr:List Nat} (hs:QP Γ ao σ=some (σ',ac,wr)) :
  wpOp C.P ops Q i (fun a' w'=>SatU C U' σ' a' w') a w:=by
 obtain ⟨op,gd,hop,hgd,rfl,hd,hg0⟩:=QhE hc
 obtain ⟨ι,S⟩:=S
 have hskip:Sat C U' ⟨putO σ.t o.dst (.t []),σ.h,σ.nx⟩ (a.put o.dst undef) w ι:=by
  have S':=S.weak (U':=U') fun k hk=>(hU' k hk).1
  cases hx:o.dst with
  | none=>simpa [putO,Act.put] using S'
  | some d=>simpa [putO] using S'.put d (hd d hx) undef (.t []) (.t #[] [] rfl (by simp))
 unfold wpOp
 rw [hi]
 simp only
 unfold QP at hs
 split at hs
 ·rename_i hgn
  simp only at hgn
  subst hgn
  have hon:o.guard=none:=by
   cases hx:o.guard with
   | none=>rfl
   | some x =>
    obtain ⟨j,bb⟩:=x
    rw [hx] at hgd
    simp only [cGd] at hgd
    split at hgd <;> cases hgd
  have hw:Region.wanted o (yielded ops a.tmps)=true:=by simp [Region.wanted,hon]
  rw [if_pos hw]
  split at hs
  rotate_left
  ·cases hs
  rename_i e he
  cases hs
  exact .inl (Qnc hΓ S hd hb hU' hop he)
 ·rename_i s wt hgs
  simp only at hgs
  subst hgs
  obtain ⟨j,d,hog,hjd⟩:∃ j d,o.guard=some (j,wt)∧(ops[j]?).bind (·.dst)=some s:=by
   cases hx:o.guard with
   | none=>rw [hx] at hgd;simp [cGd] at hgd
   | some x =>
    obtain ⟨j,bb⟩:=x
    rw [hx] at hgd
    simp only [cGd] at hgd
    split at hgd
    ·rename_i s' hs'
     cases hgd
     exact ⟨j,0,rfl,hs'⟩
    ·cases hgd
  have hsN:s<C.N:=hg0 s wt rfl
  split at hs
  rotate_left
  ·rename_i hcv
   cases hs
   have hval:a.tmps.getD s undef=undef:=by
    have h1:=S.vals s
    rw [hcv] at h1
    cases hq:a.tmps.getD s undef with
    | tuple vs =>
     rw [hq] at h1
     cases h1 with
     | t vs _ hl _ =>
      have:vs = #[]:=by simpa using hl
      rw [this];rfl
    | _=>rw [hq] at h1;cases h1
   have hyield:yielded ops a.tmps j=none:=by
    unfold yielded
    rw [hjd]
    have h3:s<a.tmps.size:=by rw [S.size];exact hsN
    rw [Array.getD_eq_getD_getElem?,Array.getElem?_eq_getElem h3] at hval
    simp only [Option.bind_some,Array.getElem?_eq_getElem h3]
    simp only [Option.getD_some] at hval
    rw [hval]
    rfl
   have hw:¬ Region.wanted o (yielded ops a.tmps)=true:=by simp [Region.wanted,hog,hyield]
   rw [if_neg hw]
   exact ⟨ι,hskip⟩
  ·cases hs
  rename_i c hcv
  have hval:a.tmps[s]? = some (.bool c):=by
   have h1:=S.vals s
   rw [hcv] at h1
   have h2:=h1.int
   have h3:s<a.tmps.size:=by rw [S.size];exact hsN
   rw [Array.getD_eq_getD_getElem?,Array.getElem?_eq_getElem h3] at h2
   rw [Array.getElem?_eq_getElem h3]
   simpa using h2
  have hyield:yielded ops a.tmps j=some c:=by
   unfold yielded
   rw [hjd]
   simp [hval]
  split at hs
  ·rename_i hcw
   split at hs
   rotate_left
   ·cases hs
   rename_i e he
   cases hs
   have hw:Region.wanted o (yielded ops a.tmps)=true:=by simp [Region.wanted,hog,hyield,hcw]
   rw [if_pos hw]
   exact .inl (Qnc hΓ S hd hb hU' hop he)
  ·rename_i hcw
   cases hs
   have hw:¬ Region.wanted o (yielded ops a.tmps)=true:=by simp [Region.wanted,hog,hyield,hcw]
   rw [if_neg hw]
   exact ⟨ι,hskip⟩
theorem QhI {P:Program} {N:Nat} {ops:Array Oper}:∀ {l:List Oper} {i:Nat} {aos:List AO},Jl P N ops l i=some aos→aos.length=l.length∧∀ (j:Nat) (o:Oper),l[j]? = some o→∃ ao,aos[j]? = some ao∧cAO P N ops o (i+j)=some ao∧ao.off=16*(i+j)
 | [],i,aos,h=>by simp [Jl] at h;subst h;simp
 | o::l,i,aos,h=>by
  simp only [Jl] at h
  split at h
  ·rename_i ao aos' h1 h2
   cases h
   obtain ⟨h3,h4⟩:=QhI h2
   refine ⟨by simp [h3],fun j o' hj=>?_⟩
   cases j with
   | zero =>
    simp at hj
    subst hj
    obtain ⟨_,_,_,_,h5,_⟩:=QhE h1
    exact ⟨ao,rfl,h1,by rw [h5];rfl⟩
   | succ j =>
    simp at hj
    obtain ⟨ao',h5,h6,h7⟩:=h4 j o' hj
    exact ⟨ao',by simpa using h5,by rw [show i+(j+1)=i+1+j by omega];exact h6,by rw [show i+(j+1)=i+1+j by omega];exact h7⟩
  ·cases h
theorem QrV (hΓ:YC C.P Γ) {K:St→Prop}:∀ (l:List Oper) (i:Nat) (aos:List AO) (σ:St) (a:Act) (w:World),Jl C.P C.N ops l i=some aos→(∀ j,l[j]? = ops[i+j]?) →
  SatU C (fun k=>σ.nx+16*i≤k) σ a w→regK Γ aos K σ→(∀ σ' a w,SatU C (fun k=>σ.nx+16*(i+l.length)≤k) σ' a w→σ'.nx=σ.nx→K σ'→Q .normal a w) →
  wpOps C.P ops Q (List.range' i l.length) a w
 | [],i,aos,σ,a,w,hc,hl,S,hk,hQ=>by
  simp [Jl] at hc
  subst hc
  exact hQ σ a w (by simpa using S) rfl hk
 | o::l,i,aos,σ,a,w,hc,hl,S,hk,hQ=>by
  have h0:ops[i]? = some o:=by simpa using (hl 0).symm
  simp only [Jl] at hc
  split at hc
  rotate_left
  ·cases hc
  rename_i ao aos' h1 h2
  cases hc
  have hoff:ao.off=16*i:=by
   obtain ⟨_,_,_,_,h5,_⟩:=QhE h1
   rw [h5]
  have hl':∀ j,l[j]? = ops[i+1+j]?:=fun j=>by have:=hl (j+1);simpa [Nat.add_assoc,Nat.add_comm 1 j] using this
  have go:∀ σ',(∃ ac wr,QP Γ ao σ=some (σ',ac,wr))→regK Γ aos' K σ'→σ'.nx=σ.nx→wpOps C.P ops Q (List.range' i (l.length+1)) a w:=by
   rintro σ' ⟨ac,wr,hs⟩ hk' hn
   rw [List.range'_succ,wpOps_cons]
   refine wpOp_mono (fun a' w' S'=>?_) (Qtb (U':=fun k=>σ.nx+16*(i+1)≤k) hΓ S h0 h1 (fun k hk _=>hk) (fun k hk=>⟨by omega,by omega⟩) hs)
   exact QrV hΓ l (i+1) aos' σ' a' w' h2 hl' (by rw [hn];exact S') hk' (fun σ2 a2 w2 S2 hn2 hK2=>hQ σ2 a2 w2 (by
    rw [hn] at S2
    simpa [Nat.add_assoc,Nat.add_comm 1 l.length] using S2) (hn2.trans hn) hK2)
  simp only [regK] at hk
  split at hk
  ·rename_i hg
   split at hk
   rotate_left
   ·exact hk.elim
   rename_i e he
   exact go (σ.app ao.dst e) ⟨acc (Opd.ev σ.t) ao.op,keys e.blks,by unfold QP;simp only [hg,he]⟩ hk rfl
  ·rename_i s wt hg
   split at hk
   rotate_left
   ·rename_i hcv
    exact go _ ⟨[],[],by unfold QP;simp only [hg,hcv]⟩ hk rfl
   ·exact hk.elim
   rename_i c hcv
   by_cases hcw:c=wt
   ·have hk:=hk.1 hcw
    split at hk
    rotate_left
    ·exact hk.elim
    rename_i e he
    exact go (σ.app ao.dst e) ⟨acc (Opd.ev σ.t) ao.op,keys e.blks,by unfold QP;simp only [hg,hcv,hcw,if_true,he]⟩ hk rfl
   ·exact go _ ⟨[],[],by unfold QP;simp only [hg,hcv,if_neg hcw]⟩ (hk.2 hcw) rfl
end
end Go.Proofs.YtdplaepmjogjjaaGreat.Am
namespace Go.Proofs.YtdplaepmjogjjaaGreat.Am
open Go Go.RowKit
def Run (Γ:Tab) (l:List AO) (L:Nat→List Nat × List Nat):List Nat→St→St→Prop
 | [],σ,σ'=>σ'=σ
 | i::p,σ,σ'=>∃ ao σ1,l[i]? = some ao∧QP Γ ao σ=some (σ1,(L i).1,(L i).2)∧Run Γ l L p σ1 σ'
def QiD (l:List AO) (L:Nat→List Nat × List Nat) (i j:Nat):Prop :=
 ∀ oi oj,l[i]? = some oi→l[j]? = some oj→oi.free oj=true∧Yu (L i).2 ((L j).1++(L j).2)=true∧Yu (L j).2 (L i).1=true
theorem Run.pull {Γ:Tab} {l:List AO} {L:Nat→List Nat × List Nat} {j:Nat} {p2:List Nat}:∀ (p1:List Nat) {σ σ':St},Run Γ l L (p1++j::p2) σ σ'→(∀ i,i∈p1→QiD l L i j)→Run Γ l L (j::(p1++p2)) σ σ'
 | [],_,_,h,_=>h
 | i::p1,σ,σ',h,hi=>by
  obtain ⟨ao,σ1,h1,h2,h3⟩:=h
  obtain ⟨bo,σ2,h4,h5,h6⟩:=Run.pull p1 h3 fun k hk=>hi k (List.mem_cons_of_mem _ hk)
  obtain ⟨f1,f2,f3⟩:=hi i (List.mem_cons_self ..) ao bo h1 h4
  obtain ⟨σ1',h7,h8⟩:=swap f1 h2 h5 f2 f3
  exact ⟨bo,σ1',h4,h7,ao,σ2,h1,h8,h6⟩
theorem Run.mem {Γ:Tab} {l:List AO} {L:Nat→List Nat × List Nat} {j:Nat}:∀ (p:List Nat) {σ σ':St},Run Γ l L p σ σ'→j∈p→∃ ao s s',l[j]? = some ao∧QP Γ ao s=some (s',(L j).1,(L j).2)
 | [],_,_,_,hj=>by cases hj
 | i::p,σ,σ',h,hj=>by
  obtain ⟨ao,σ1,h1,h2,h3⟩:=h
  rcases List.mem_cons.1 hj with rfl | hj
  ·exact ⟨ao,σ,σ1,h1,h2⟩
  ·exact Run.mem p h3 hj
theorem Qtd {Γ:Tab} {l:List AO} {L:Nat→List Nat × List Nat}:∀ (aos:List AO) (i:Nat) (σ σ':St) (log:List (List Nat × List Nat)),QY Γ aos σ=some (σ',log)→(∀ j,aos[j]? = l[i+j]?)→(∀ j x,log[j]? = some x→L (i+j)=x) →
  Run Γ l L (List.range' i aos.length) σ σ'∧log.length=aos.length
 | [],i,σ,σ',log,h,_,_=>by simp [QY] at h;obtain ⟨rfl,rfl⟩:=h;exact ⟨rfl,rfl⟩
 | o::r,i,σ,σ',log,h,hl,hL=>by
  simp only [QY] at h
  split at h
  rotate_left
  ·cases h
  rename_i σ1 a w hs
  split at h
  rotate_left
  ·cases h
  rename_i σ2 lg hr
  cases h
  have h0:L i=(a,w):=hL 0 _ rfl
  obtain ⟨h1,h2⟩:=Qtd r (i+1) σ1 σ' lg hr (fun j=>by have:=hl (j+1);simpa [Nat.add_assoc,Nat.add_comm 1 j] using this) (fun j x hx=>by
   have:=hL (j+1) x (by simpa using hx)
   rwa [show i+(j+1)=i+1+j by omega] at this)
  refine ⟨?_,by simp [h2]⟩
  rw [List.length_cons,List.range'_succ]
  exact ⟨o,σ1,by simpa using (hl 0).symm,by rw [h0];exact hs,h1⟩
theorem Qu2 {ev:Opd→AV} {op:AOp} (h:op.touches=false):acc ev op=[]:=by
 cases op <;> simp [AOp.touches] at h <;> rfl
theorem QlG {Γ:Tab} {ev:Opd→AV} {h:Nat→Blk} {b:Nat} {op:AOp} {e:Eff} (hw:op.writes=false) (hd:Qh Γ ev h b op=some e):e.blks=[]:=by
 cases op <;> simp [AOp.writes] at hw <;> simp only [Qh] at hd <;> (repeat' split at hd) <;> first | (cases hd;rfl) | cases hd | (have hd:=(Option.some.inj hd).symm;subst hd;rfl)
theorem Ql4 {op:AOp} (h:op.touches=false):op.writes=false:=by
 cases op <;> simp [AOp.touches] at h <;> rfl
theorem Qte {Γ:Tab} {o:AO} {s s':St} {a w:List Nat} (h:QP Γ o s=some (s',a,w)):(o.op.touches=false→a=[])∧(o.op.writes=false→w=[]):=by
 unfold QP at h
 split at h
 ·split at h
  rotate_left
  ·cases h
  rename_i e he
  cases h
  exact ⟨Qu2,fun hw=>by rw [QlG hw he];rfl⟩
 ·split at h
  rotate_left
  ·cases h
   exact ⟨fun _=>rfl,fun _=>rfl⟩
  ·cases h
  split at h
  ·split at h
   rotate_left
   ·cases h
   rename_i e he
   cases h
   exact ⟨Qu2,fun hw=>by rw [QlG hw he];rfl⟩
  ·cases h
   exact ⟨fun _=>rfl,fun _=>rfl⟩
theorem QoO (l:List Nat):Yu l []=true:=by unfold Yu;simp
theorem QtB {Γ:Tab} {o:AO} {s s':St} {a w:List Nat} (h:QP Γ o s=some (s',a,w)):s'.nx=s.nx:=by
 obtain ⟨v,bl,rfl,_⟩:=Qkw h
 rfl
theorem QHt {ops:Array Oper} {i j:Nat} (hij:i<j) (hj:j<ops.size) (hw:Qar ops i j=false):(i,j)∈Zg ops:=by
 unfold Zg QpI
 rw [List.mem_flatMap]
 refine ⟨j,List.mem_range.2 hj,?_⟩
 rw [List.mem_filterMap]
 unfold Qar at hw
 exact ⟨i,List.mem_range.2 hij,by rw [hw];simp⟩
theorem Qv5 {Γ:Tab} {l:List AO} {ops:Array Oper} {σ σ':St} {log:List (List Nat × List Nat)} (hfree:Qt7 l (Zg ops)=true) (hlog:QbX log (Qhv l (Zg ops))=true)
  (hlen:log.length=l.length) (hr:Run Γ l (fun j=>(log[j]?).getD ([],[])) (List.range' 0 l.length) σ σ') {i j:Nat} (hij:i<j) (hj:j<ops.size) (hjl:j<l.length) (hw:Qar ops i j=false) :
  QiD l (fun j=>(log[j]?).getD ([],[])) i j:=by
 have hm:=QHt hij hj hw
 intro oi oj hi hoj
 have f1:oi.free oj=true:=by
  have:=List.all_eq_true.1 hfree (i,j) hm
  simpa [hi,hoj] using this
 obtain ⟨ai,s1,s1',hai,hs1⟩:=Run.mem (j:=i) _ hr (by simp;omega)
 obtain ⟨aj,s2,s2',haj,hs2⟩:=Run.mem (j:=j) _ hr (by simp;omega)
 rw [hi] at hai
 rw [hoj] at haj
 cases hai
 cases haj
 obtain ⟨q1,q2⟩:=Qte hs1
 obtain ⟨q3,q4⟩:=Qte hs2
 refine ⟨f1,?_⟩
 by_cases hin:(i,j)∈Qhv l (Zg ops)
 ·have:=List.all_eq_true.1 hlog (i,j) hin
  obtain ⟨x,hx⟩:∃ x,log[i]? = some x:=⟨log[i]'(by omega),List.getElem?_eq_getElem (by omega)⟩
  obtain ⟨y,hy⟩:∃ y,log[j]? = some y:=⟨log[j]'(by omega),List.getElem?_eq_getElem (by omega)⟩
  obtain ⟨a,w⟩:=x
  obtain ⟨a',w'⟩:=y
  simp only [hx,hy,Bool.and_eq_true] at this
  simp only [hx,hy,Option.getD_some]
  exact this
 ·have hno:(oi.op.touches&&oj.op.touches&&(oi.op.writes||oj.op.writes))=false:=by
   cases hb:(oi.op.touches&&oj.op.touches&&(oi.op.writes||oj.op.writes)) with
   | false=>rfl
   | true=>exact absurd (List.mem_filter.2 ⟨hm,by simp only [hi,hoj,hb]⟩) hin
  cases t1:oi.op.touches with
  | false =>
   rw [q1 t1,q2 (Ql4 t1)]
   exact ⟨rfl,QoO _⟩
  | true =>
   cases t2:oj.op.touches with
   | false =>
    rw [q3 t2,q4 (Ql4 t2)]
    exact ⟨QoO _,rfl⟩
   | true =>
    rw [t1,t2] at hno
    simp only [Bool.and_self,Bool.true_and,Bool.or_eq_false_iff] at hno
    rw [q2 hno.1,q4 hno.2]
    exact ⟨rfl,rfl⟩
def Pend (nx n:Nat) (p:List Nat) (k:Nat):Prop:=nx+16*n≤k∨∃ j,j∈p∧nx+16*j≤k∧k<nx+16*j+16
theorem QlW:∀ (l:List Oper) (acc:List (List Nat)),(∀ (k:Nat) (x:List Nat),acc[k]? = some x→(Qas l acc)[k]? = some x) ∧
  ∀ (j:Nat) (o:Oper),l[j]? = some o→∀ x,x∈((Qas l acc)[acc.length+j]?).getD []→∃ k,k∈Yc o∧(x=k∨x∈((Qas l acc)[k]?).getD [])
 | [],acc=>⟨fun k x h=>h,fun j o h=>by simp at h⟩
 | o::l,acc=>by
  obtain ⟨h1,h2⟩:=QlW l (acc++[((Yc o).flatMap fun k=>k::(acc[k]?).getD []).eraseDups])
  have hpre:∀ (k:Nat) (x:List Nat),acc[k]? = some x→(Qas (o::l) acc)[k]? = some x:=fun k x hk=>h1 k x (by rw [List.getElem?_append_left (List.getElem?_eq_some_iff.1 hk).1];exact hk)
  refine ⟨hpre,fun j o' hj x hx=>?_⟩
  cases j with
  | zero =>
   simp only [List.getElem?_cons_zero,Option.some.injEq] at hj
   subst hj
   have h3:=h1 acc.length ((Yc o).flatMap fun k=>k::(acc[k]?).getD []).eraseDups (by simp)
   have h3:(Qas (o::l) acc)[acc.length]? = some (((Yc o).flatMap fun k=>k::(acc[k]?).getD []).eraseDups):=h3
   rw [Nat.add_zero,h3,Option.getD_some] at hx
   rw [List.mem_eraseDups,List.mem_flatMap] at hx
   obtain ⟨k,hk,hx⟩:=hx
   refine ⟨k,hk,?_⟩
   rcases List.mem_cons.1 hx with h | h
   ·exact .inl h
   ·right
    cases hq:acc[k]? with
    | none=>rw [hq] at h;cases h
    | some y=>rw [hq] at h;rw [hpre k y hq];exact h
  | succ j =>
   have:=h2 j o' (by simpa using hj) x (by
    rw [List.length_append,List.length_singleton,Nat.add_assoc,Nat.add_comm 1 j]
    exact hx)
   exact this
theorem Qzv {ops:Array Oper} {j:Nat} {o:Oper} (ho:ops[j]? = some o) {x:Nat} (hx:x∈((ancs ops)[j]?).getD []):∃ k,k∈Yc o∧(x=k∨x∈((ancs ops)[k]?).getD []):=by
 have:=(QlW ops.toList []).2 j o (by simpa using ho) x (by simpa [ancs] using hx)
 exact this
theorem Qs2 {o:Oper} {k:Nat} (h:k∈Yc o):∃ e∈o.after,Region.binds .any e=true∧e.on=k:=by
 unfold Yc at h
 obtain ⟨e,he,rfl⟩:=List.mem_map.1 h
 obtain ⟨h1,h2⟩:=List.mem_filter.1 he
 exact ⟨e,by simpa using h1,h2,rfl⟩
theorem QzP {ops:Array Oper} {p:List Nat} (hedge:Qju ops=true) (hcl:∀ (j:Nat) (o:Oper),ops[j]? = some o→j∉p→∀ k,k∈Yc o→k∉p) {j:Nat} {o:Oper} (ho:ops[j]? = some o) (hd:∀ k,k∈Yc o→k∉p) {i:Nat} (hi:i∈p):Qar ops i j=false:=by
 have key:∀ (n j:Nat) (o:Oper),j<n→ops[j]? = some o→(∀ k,k∈Yc o→k∉p)→∀ x,x∈((ancs ops)[j]?).getD []→x∉p:=by
  intro n
  induction n with
  | zero=>intro j o hj;omega
  | succ n ih =>
   intro j o hj ho hd x hx
   obtain ⟨k,hk,h⟩:=Qzv ho hx
   rcases h with rfl | h
   ·exact hd _ hk
   ·have hkj:k<j:=by
     obtain ⟨e,he,hb,rfl⟩:=Qs2 hk
     have h1:=List.all_eq_true.1 hedge j (List.mem_range.2 (Array.getElem?_eq_some_iff.1 ho).1)
     rw [ho] at h1
     have h2:=Array.all_eq_true_iff_forall_mem.1 h1 e he
     simpa [hb] using h2
    have hks:k<ops.size:=by have:=(Array.getElem?_eq_some_iff.1 ho).1;omega
    exact ih k ops[k] (by omega) (Array.getElem?_eq_getElem hks) (hcl k ops[k] (Array.getElem?_eq_getElem hks) (hd k hk)) x h
 cases hw:Qar ops i j with
 | false=>rfl
 | true =>
  unfold Qar at hw
  exact absurd hi (key (j+1) j o (by omega) ho hd i (by simpa using hw))
section
variable {C:Ctx} {Q:Exit→Act→World→Prop} {Γ:Tab} {ops:Array Oper}
theorem QCg (hΓ:YC C.P Γ) {l:List AO} {L:Nat→List Nat × List Nat} {σf:St} {nx:Nat} (hc:Jl C.P C.N ops ops.toList 0=some l) (hedge:Qju ops=true)
  (hind:∀ i j,i<j→j<ops.size→Qar ops i j=false→QiD l L i j)
  (hQ:∀ a w,SatU C (fun k=>nx+16*ops.size≤k) σf a w→Q .normal a w) :
  ∀ (fuel:Nat) (p:List Nat) (listed:Array Bool) (σ:St) (a:Act) (w:World),p.length≤fuel→p.Pairwise (· < ·)→(∀ j,j∈p→j<ops.size)→(∀ j,j<ops.size→(listed.getD j true=false↔j∈p)) →
   listed.size=ops.size→(∀ (j:Nat) (o:Oper),ops[j]? = some o→j∉p→∀ k,k∈Yc o→k∉p)→σ.nx=nx→Run Γ l L p σ σf→SatU C (Pend nx ops.size p) σ a w→wpAny C.P .any ops Q fuel listed a w:=by
 have hget:∀ (i:Nat) (o:Oper),ops[i]? = some o→∃ ao,l[i]? = some ao∧cAO C.P C.N ops o i=some ao:=fun i o ho=>by
  obtain ⟨_,h⟩:=QhI hc
  obtain ⟨ao,h1,h2,_⟩:=h i o (by simpa using ho)
  exact ⟨ao,h1,by simpa using h2⟩
 have hdone:∀ (σ:St) (a:Act) (w:World) (listed:Array Bool),(∀ j,j<ops.size→(listed.getD j true=false↔j∈([]:List Nat)))→σ.nx=nx→Run Γ l L [] σ σf→SatU C (Pend nx ops.size []) σ a w→Region.ready .any ops listed=[]∧Q .normal a w:=by
  intro σ a w listed hl hn hr S
  refine ⟨?_,?_⟩
  ·cases hx:Region.ready .any ops listed with
   | nil=>rfl
   | cons i r =>
    have hi:i∈Region.ready .any ops listed:=by rw [hx];exact List.mem_cons_self ..
    obtain ⟨h0,o,ho,_⟩:=mem_ready.1 hi
    have:=(hl i (Array.getElem?_eq_some_iff.1 ho).1).1 h0
    cases this
  ·have hr:σf=σ:=hr
   subst hr
   obtain ⟨ι,S⟩:=S
   exact hQ a w ⟨ι,S.weak fun k hk=>.inl hk⟩
 intro fuel
 induction fuel with
 | zero =>
  intro p listed σ a w hf hp hlt hl hsz hcl hn hr S
  have:p=[]:=List.eq_nil_of_length_eq_zero (by omega)
  subst this
  exact hdone σ a w listed hl hn hr S
 | succ fuel ih =>
  intro p listed σ a w hf hp hlt hl hsz hcl hn hr S
  refine ⟨fun h0=>?_,fun i hi=>?_⟩
  ·cases p with
   | nil=>exact (hdone σ a w listed hl hn hr S).2
   | cons j p =>
    exfalso
    have hj:=hlt j (List.mem_cons_self ..)
    have hjr:j∈Region.ready .any ops listed:=by
     refine mem_ready.2 ⟨(hl j hj).2 (List.mem_cons_self ..),ops[j],Array.getElem?_eq_getElem hj,fun e he hb=>?_⟩
     have h1:=List.all_eq_true.1 hedge j (List.mem_range.2 hj)
     rw [Array.getElem?_eq_getElem hj] at h1
     have h2:=Array.all_eq_true_iff_forall_mem.1 h1 e he
     simp only [hb,Bool.not_true,Bool.false_or,decide_eq_true_eq] at h2
     have h3:e.on∉j::p:=by
      intro hm
      rcases List.mem_cons.1 hm with h | h
      ·omega
      ·have:=List.rel_of_pairwise_cons hp h
       omega
     have h4:e.on<listed.size:=by omega
     have h5:¬ listed.getD e.on true=false:=fun h=>h3 ((hl e.on (by omega)).1 h)
     simp only [Array.getD,h4,dif_pos] at h5 ⊢
     simpa using h5
    rw [h0] at hjr
    cases hjr
  ·obtain ⟨h0,o,ho,hall⟩:=mem_ready.1 hi
   have hin:i<ops.size:=(Array.getElem?_eq_some_iff.1 ho).1
   have hip:i∈p:=(hl i hin).1 h0
   obtain ⟨p1,p2,rfl⟩:=List.append_of_mem hip
   have hpw:=List.pairwise_append.1 hp
   have hlt1:∀ k,k∈p1→k<i:=fun k hk=>hpw.2.2 k hk i (List.mem_cons_self ..)
   have hlt2:∀ k,k∈p2→i<k:=fun k hk=>List.rel_of_pairwise_cons hpw.2.1 hk
   have hdeps:∀ k,k∈Yc o→k∉p1++i::p2:=fun k hk hm=>by
    obtain ⟨e,he,hb,rfl⟩:=Qs2 hk
    have h1:=hall e he hb
    have hlt':=hlt _ hm
    have h2:=(hl e.on hlt').2 hm
    have h4:e.on<listed.size:=by omega
    simp only [Array.getD,h4,dif_pos] at h1 h2
    rw [h1] at h2
    cases h2
   have hr':=Run.pull p1 hr fun k hk =>
    hind k i (hlt1 k hk) hin (QzP hedge hcl ho hdeps (List.mem_append.2 (.inl hk)))
   obtain ⟨ao,σ1,h1,h2,h3⟩:=hr'
   obtain ⟨ao',h4,h5⟩:=hget i o ho
   rw [h4] at h1
   cases h1
   have hmem:∀ k,k∈p1++p2↔k∈p1++i::p2∧k≠i:=by
    intro k
    simp only [List.mem_append,List.mem_cons]
    constructor
    ·rintro (h | h)
     ·exact ⟨.inl h,by have:=hlt1 k h;omega⟩
     ·exact ⟨.inr (.inr h),by have:=hlt2 k h;omega⟩
    ·rintro ⟨h | h | h,hk⟩
     ·exact .inl h
     ·exact absurd h hk
     ·exact .inr h
   refine wpOp_mono (fun a' w' S'=>?_) (Qtb (U':=Pend nx ops.size (p1++p2)) hΓ S ho h5 (fun k k1 k2=>.inr ⟨i,hip,by omega,by omega⟩) (fun k hk=>?_) h2)
   ·refine ih (p1++p2) _ σ1 a' w' ?_ ?_ (fun j hj=>hlt j ((hmem j).1 hj).1) (fun j hj=>?_) (by simpa using hsz) (fun j o' ho' hj k hk=>?_) ((QtB h2).trans hn) h3 S'
    ·simp only [List.length_append,List.length_cons] at hf ⊢
     omega
    ·exact hp.sublist (List.Sublist.append (List.Sublist.refl _) (List.sublist_cons_self ..))
    ·rw [hmem]
     by_cases hji:j=i
     ·subst hji
      have:j<listed.size:=by omega
      simp [this]
     ·rw [getD_set_ne true (Ne.symm hji),hl j hj]
      exact ⟨fun h=>⟨h,hji⟩,fun h=>h.1⟩
    ·intro hkm
     have hkm:=((hmem k).1 hkm).1
     by_cases hji:j=i
     ·subst hji
      rw [ho] at ho'
      cases ho'
      exact hdeps k hk hkm
     ·exact hcl j o' ho' (fun hm=>hj ((hmem j).2 ⟨hm,hji⟩)) k hk hkm
   ·rcases hk with hk | ⟨j,hj,k1,k2⟩
    ·refine ⟨.inl hk,?_⟩
     omega
    ·have hj':=(hmem j).1 hj
     refine ⟨.inr ⟨j,hj'.1,k1,k2⟩,?_⟩
     have:=hj'.2
     omega
end
end Go.Proofs.YtdplaepmjogjjaaGreat.Am
namespace Go.Proofs.YtdplaepmjogjjaaGreat.Am
open Go Go.RowKit
def AEx.up:AEx→Exit
 | .normal=>.normal
 | .exit id=>.exit id
 | .ret=>.ret
def Lift (C:Ctx) (Qa:AEx→St→Prop) (Q:Exit→Act→World→Prop):Prop:=∀ e σ a w,Qa e σ→SatE C σ a w→Q e.up a w
theorem QD2 {p:Nat→Prop} (h:∃ n,p n):∃ n,p n∧∀ m,p m→n≤m:=by
 obtain ⟨n,hn⟩:=h
 induction n using Nat.strongRecOn with
 | _ n ih =>
  by_cases hx:∃ m,m<n∧p m
  ·obtain ⟨m,hm,hp⟩:=hx
   exact ih m hm hp
  ·refine ⟨n,hn,fun m hm=>?_⟩
   rcases Nat.lt_or_ge m n with h1 | h1
   ·exact absurd ⟨m,h1,hm⟩ hx
   ·exact h1
theorem QDp {α:Type} (p:α→Nat→Prop):∃ f:α→Nat,∀ x,(∃ n,p x n)→p x (f x)∧∀ m,p x m→f x≤m:=by
 have:∀ x,∃ n,(∃ n,p x n)→p x n∧∀ m,p x m→n≤m:=by
  intro x
  by_cases h:∃ n,p x n
  ·obtain ⟨n,hn⟩:=QD2 h
   exact ⟨n,fun _=>hn⟩
  ·exact ⟨0,fun h'=>absurd h' h⟩
 exact ⟨fun x=>(this x).choose,fun x hx=>(this x).choose_spec hx⟩
theorem SatE.bump {C:Ctx} {σ:St} {a:Act} {w:World} {n:Nat} (S:SatU C (fun k=>σ.nx+n≤k) σ a w):SatE C (σ.bump n) a w:=by
 obtain ⟨ι,S⟩:=S
 exact ⟨ι,S.nx⟩
theorem Sat.drawn {C:Ctx} {U:Nat→Prop} {σ:St} {a:Act} {w:World} {ι:Io} (S:Sat C U σ a w ι) (n:Nat):Sat C U σ a { w with drawn:=n } ι:=by
 have hr:∀ id,Rest w { w with drawn:=n } ι ι id:=fun id=>⟨rfl,rfl,fun _ _=>rfl,fun b p hk=>⟨hk,rfl⟩⟩
 exact S.evolve (nx':=σ.nx) ⟨S.fra.os,S.fra.tape,S.fra.output,S.fra.size,S.fra.block⟩ (fun b hb=>⟨hb,rfl⟩) (fun id=>(hr id).goes rfl) (fun i cs hx=>by rw [hx];simp) (fun id=>.inl ⟨rfl,hr id⟩) S.inj S.rng S.fresh S.live
  (fun b id p hk=>let L:=S.lab b id p hk;⟨L.pn,L.dp,L.fr,L.lt,L.ne⟩)
theorem QsR {C:Ctx} {U:Nat→Prop} {σ:St} {a:Act} {w:World} {ι:Io} (S:Sat C U σ a w ι) {x:Operand} {x':Opd} {ty:TypeId} (hx:cO C.P ty x=some x') {b:Bool} (hv:x'.ev σ.t = .c (.v (.bool b))):a.eval x = .bool b:=by
 have h1:=QL S hx
 rw [hv] at h1
 exact h1.int
section
variable {C:Ctx} {Γ:Tab}
theorem Qcm (hm:C.P.follows .mixedOrders=true) (hΓ:YC C.P Γ):∀ (c:Code) (ac:ACode) (Qa:AEx→St→Prop) (Q:Exit→Act→World→Prop) (σ:St) (a:Act) (w:World),comp C.P C.N c=some ac →
  awp Γ ac Qa σ→SatE C σ a w→Lift C Qa Q→c.wp C.P Q a w:=by
 intro c
 induction c with
 | skip =>
  intro ac Qa Q σ a w hc h S hQ
  simp only [comp,Option.some.injEq] at hc
  subst hc
  exact wp_skip (hQ .normal σ a w h S)
 | region id ops draw =>
  intro ac Qa Q σ a w hc h S hQ
  simp only [comp] at hc
  split at hc
  rotate_left
  ·cases hc
  rename_i l hl
  have hlen:l.length=ops.size:=by have:=(QhI hl).1;simpa using this
  cases draw with
  | false =>
   simp only [Bool.false_eq_true,if_false,Option.some.injEq] at hc
   subst hc
   refine wp_region ?_
   rw [List.range_eq_range',show ops.size=ops.toList.length by simp]
   refine QrV hΓ ops.toList 0 l σ a w hl (fun j=>by simp) (by simpa [SatE] using S) h (fun σ' a' w' S' hn hk=>?_)
   refine hQ .normal _ a' w' hk (SatE.bump ?_)
   rw [hn]
   simpa [hlen] using S'
  | true =>
   simp only [if_true] at hc
   split at hc
   rotate_left
   ·cases hc
   rename_i hck
   rw [Bool.and_eq_true] at hck
   have hc:=(Option.some.inj hc).symm
   subst hc
   simp only [awp] at h
   split at h
   rotate_left
   ·exact h.elim
   rename_i σ' log hd
   obtain ⟨hno,hk⟩:=h
   obtain ⟨hr,hll⟩:=Qtd (l:=l) (L:=fun j=>(log[j]?).getD ([],[])) l 0 σ σ' log hd (fun j=>by simp) (fun j x hx=>by simp [hx])
   refine wp_region_any hm ?_
   obtain ⟨ι,S⟩:=S
   have hn:σ'.nx=σ.nx:=by
    have:∀ (p:List Nat) (s s':St),Run Γ l (fun j=>(log[j]?).getD ([],[])) p s s'→s'.nx=s.nx:=by
     intro p
     induction p with
     | nil=>intro s s' h;rw [show s'=s from h]
     | cons i p ih =>
      intro s s' h
      obtain ⟨ao,s1,_,h2,h3⟩:=h
      exact (ih s1 s' h3).trans (QtB h2)
    exact this _ _ _ hr
   refine QCg hΓ (nx:=σ.nx) (σf:=σ') hl hck.2 (fun i j hij hj hw=>Qv5 hck.1 hno hll hr hij hj (by omega) hw) (fun a' w' S'=>?_) ops.size (List.range' 0 l.length) _ σ a _ (by simp [hlen]) ?_ (fun j hj=>by simp at hj;omega) (fun j hj=>by simp [hj,hlen]) (by simp) (fun j o ho hj=>absurd (show j∈List.range' 0 l.length by have:=(Array.getElem?_eq_some_iff.1 ho).1;simp [hlen];omega) hj) rfl hr ⟨ι,(S.drawn _).weak fun k hk=>?_⟩
   ·refine hQ .normal _ a' w' hk (SatE.bump ?_)
    rw [hn,hlen]
    exact S'
   ·exact List.pairwise_lt_range'
   ·show σ.nx≤k
    rcases hk with hk | ⟨j,_,hk,_⟩ <;> omega
 | seq x y ihx ihy =>
  intro ac Qa Q σ a w hc h S hQ
  simp only [comp] at hc
  split at hc
  rotate_left
  ·cases hc
  rename_i x' y' hx hy
  cases hc
  simp only [awp] at h
  refine wp_seq (ihx _ _ _ σ a w hx h S ?_)
  intro e σ' a' w' he S'
  cases e with
  | normal=>exact ihy _ _ _ σ' a' w' hy he S' hQ
  | exit id=>exact hQ _ _ _ _ he S'
  | ret=>exact hQ _ _ _ _ he S'
 | cond x y z ihy ihz =>
  intro ac Qa Q σ a w hc h S hQ
  simp only [comp] at hc
  split at hc
  rotate_left
  ·cases hc
  rename_i x' y' z' hx hy hz
  cases hc
  simp only [awp] at h
  split at h
  rotate_left
  ·exact h.elim
  rename_i t ht
  obtain ⟨ι,S0⟩:=S
  exact wp_cond_split (QsR S0 hx ht) (fun e=>ihy _ _ _ σ a w hy (h.1 e) ⟨ι,S0⟩ hQ) (fun e=>ihz _ _ _ σ a w hz (h.2 e) ⟨ι,S0⟩ hQ)
 | block id x ih =>
  intro ac Qa Q σ a w hc h S hQ
  simp only [comp,Option.map_eq_some_iff] at hc
  obtain ⟨x',hx,rfl⟩:=hc
  simp only [awp] at h
  refine wp_block (ih _ _ _ σ a w hx h S ?_)
  intro e σ' a' w' he S'
  cases e with
  | normal=>exact hQ _ _ _ _ he S'
  | ret=>exact hQ _ _ _ _ he S'
  | exit id' =>
   simp only at he
   show Exit.inBlock id Q (.exit id') a' w'
   simp only [Exit.inBlock]
   split
   ·rename_i heq;rw [if_pos heq] at he;exact hQ .normal _ _ _ he S'
   ·rename_i heq;rw [if_neg heq] at he;exact hQ (.exit id') _ _ _ he S'
 | loop x ih =>
  intro ac Qa Q σ a w hc h S hQ
  simp only [comp,Option.map_eq_some_iff] at hc
  obtain ⟨x',hx,rfl⟩:=hc
  simp only [awp] at h
  obtain ⟨I,μ,hI,hstep⟩:=h
  obtain ⟨f,hf⟩:=QDp (fun (x:Act × World) n=>∃ σ,I σ∧SatE C σ x.1 x.2∧μ σ=n)
  refine wp_loop (fun a w=>∃ σ,I σ∧SatE C σ a w) (fun a w=>f (a,w)) ⟨σ,hI,S⟩ (fun a w ⟨σ0,h0,S0⟩=>?_)
  obtain ⟨⟨σ1,h1,S1,h2⟩,_⟩:=hf (a,w) ⟨_,σ0,h0,S0,rfl⟩
  refine ih _ _ _ σ1 a w hx (hstep σ1 h1) S1 ?_
  intro e σ' a' w' he S'
  cases e with
  | normal =>
   obtain ⟨h3,h4⟩:=he
   refine ⟨⟨σ',h3,S'⟩,?_⟩
   have:=(hf (a',w') ⟨_,σ',h3,S',rfl⟩).2 _ ⟨σ',h3,S',rfl⟩
   show f (a',w')<f (a,w)
   omega
  | exit id=>exact hQ _ _ _ _ he S'
  | ret=>exact hQ _ _ _ _ he S'
 | exit id =>
  intro ac Qa Q σ a w hc h S hQ
  simp only [comp,Option.some.injEq] at hc
  subst hc
  exact wp_exit (hQ (.exit id) σ a w h S)
 | ret =>
  intro ac Qa Q σ a w hc h S hQ
  simp only [comp,Option.some.injEq] at hc
  subst hc
  exact wp_ret (hQ .ret σ a w h S)
 | _=>intro ac Qa Q σ a w hc;simp [comp] at hc
end
end Go.Proofs.YtdplaepmjogjjaaGreat.Am
namespace Go.Proofs.YtdplaepmjogjjaaGreat.Am
open Go Go.RowKit
inductive ARv where
 | t (s:Nat)
 | l (s n:Nat) (agg:Bool)
def cRv (P:Program):ResultVar→Option ARv
 | .tmp t=>some (.t t)
 | .cell a ty=>match szOf P ty,YS P ty with
  | some n,some agg=>some (.l a (if agg then n else 1) agg)
  | _,_=>none
def cRvs (P:Program):List ResultVar→Option (List ARv)
 | []=>some []
 | x::xs=>match cRv P x,cRvs P xs with
  | some y,some ys=>some (y::ys)
  | _,_=>none
def QeM:Tab:=⟨fun _=>[],fun _ _=>none,false⟩
def ARv.get (σ:St):ARv→Option AV
 | .t s=>some (σ.t s)
 | .l s n agg=>match Qh QeM (Opd.ev σ.t) σ.h 0 (.load (.s s) n agg) with
  | some e=>some e.val
  | none=>none
def Qau (σ:St):List ARv→Option (List AV)
 | []=>some []
 | x::xs=>match x.get σ,Qau σ xs with
  | some y,some ys=>some (y::ys)
  | _,_=>none
def Qs1:List AV→AV
 | [x]=>x
 | xs=>.t xs
def AV.rn1 (ids:List Nat):AV→AV
 | .r sz id off len=>if id∈ids then .r sz (ids.idxOf id) off len else .u
 | .p id i j=>if id∈ids then .p (ids.idxOf id) i j else .u
 | .c d=>.c d
 | .n sz=>.n sz
 | .q cs j=>.q cs j
 | _=>.u
def AV.rn2 (ids:List Nat):AV→AV
 | .a cs=>.a (cs.map (AV.rn1 ids))
 | x=>x.rn1 ids
def AV.rn (ids:List Nat):AV→AV
 | .t vs=>.t (vs.map (AV.rn2 ids))
 | x=>x.rn2 ids
def Blk.rn (ids:List Nat):Blk→Blk
 | .box cs=>.box (cs.map (AV.rn1 ids))
 | x=>x
def J9 (h:Nat→Blk):Nat→Nat→Option (List (List AV))
 | 0,_=>some []
 | n+1,k=>match h k,J9 h n (k+1) with
  | .box cs,some css=>if cs.all isC then some (cs::css) else none
  | _,_=>none
def Y1 (h:Nat→Blk):Nat→Nat→Option (List Blk)
 | 0,_=>some []
 | n+1,k=>match h k,Y1 h n (k+1) with
  | .sl e sz m es,some css=>some (.sl e sz m es::css)
  | .dead,some css=>some (.dead::css)
  | _,_=>none
def QeU (n m:Nat) (ids:List Nat) (σ:St) (v:AV):Option Res :=
 match J9 σ.h n 0,Y1 σ.h m n with
 | some css,some gs=>some ⟨v.rn ids,ids.map fun id=>(σ.h id).rn ids,css,true,gs⟩
 | _,_=>none
def layC:List AV→Nat→List AV
 | [],_=>[]
 | .ow _ sz _ es::r,m=>.r sz m 0 es.length::layC r (m+1)
 | x::r,m=>x::layC r m
def Zj:List AV→List Blk
 | []=>[]
 | .ow e sz m es::r=>.sl e sz m es::Zj r
 | _::r=>Zj r
def layS:List AV→Nat→Nat→List AV
 | [],_,_=>[]
 | .bx _::r,k,m=>.p k 0 0::layS r (k+1) m
 | .ow _ sz _ es::r,k,m=>.r sz m 0 es.length::layS r k (m+1)
 | .a cs::r,k,m=>.a (layC cs m)::layS r k (m+(Zj cs).length)
 | x::r,k,m=>x::layS r k m
def layG:List AV→List Blk
 | []=>[]
 | .ow e sz m es::r=>.sl e sz m es::layG r
 | .a cs::r=>Zj cs++layG r
 | _::r=>layG r
def layB:List AV→List (List AV)
 | []=>[]
 | .bx cs::r=>cs::layB r
 | _::r=>layB r
def Yo (xs:List AV):St :=
 ⟨fun s=>((layS xs 0 (layB xs).length)[s]?).getD .u,fun i=>match (layB xs)[i]? with | some cs=>.box cs | none=>((layG xs)[i-(layB xs).length]?).getD .none,(layB xs).length+(layG xs).length⟩
def AEx.over:AEx→Prop
 | .normal=>True
 | .ret=>True
 | .exit _=>False
theorem Qly {P:Program} {w:World} {α:Type} (f:α→Sem Value):∀ (l:List α) (rest:List Value),rest.length=l.length →
  (∀ (k:Nat) (v:Value) (x:α),rest[k]? = some v→l[k]? = some x→(f x).run P w = .ok v w)→(l.mapM f).run P w = .ok rest w
 | [],[],_,_=>by simp
 | [],v::rest,hl,_=>by simp at hl
 | x::l,[],hl,_=>by simp at hl
 | x::l,v::rest,hl,h=>by
  rw [List.mapM_cons,Sem.run_bind,h 0 v x rfl rfl,Result.andThen_ok,Sem.run_bind,Qly f l rest (by simpa using hl) (fun k v x hk hx=>h (k+1) v x hk hx),Result.andThen_ok,Sem.run_pure]
theorem Qlq {h:Nat→Blk}:∀ {n k:Nat} {css:List (List AV)},J9 h n k=some css→css.length=n∧∀ (i:Nat) (cs:List AV),css[i]? = some cs→h (k+i) = .box cs∧cs.all isC=true
 | 0,k,css,hx=>by simp [J9] at hx;subst hx;simp
 | n+1,k,css,hx=>by
  simp only [J9] at hx
  split at hx
  ·rename_i cs css' h1 h2
   split at hx
   ·rename_i h3
    have hx:=(Option.some.inj hx).symm
    subst hx
    obtain ⟨h4,h5⟩:=Qlq h2
    refine ⟨by simp [h4],fun i c hi=>?_⟩
    cases i with
    | zero=>simp at hi;subst hi;exact ⟨h1,h3⟩
    | succ i =>
     simp at hi
     rw [show k+(i+1)=k+1+i by omega]
     exact h5 i c hi
   ·cases hx
  ·cases hx
theorem QiA {h:Nat→Blk}:∀ {n k:Nat} {css:List Blk},Y1 h n k=some css→css.length=n∧∀ (i:Nat) (B:Blk),css[i]? = some B→h (k+i)=B∧(B = .dead∨∃ e sz m es,B = .sl e sz m es)
 | 0,k,css,hx=>by simp [Y1] at hx;subst hx;simp
 | n+1,k,css,hx=>by
  simp only [Y1] at hx
  split at hx
  ·rename_i e sz m es css' h1 h2
   cases hx
   obtain ⟨h4,h5⟩:=QiA h2
   refine ⟨by simp [h4],fun i c hi=>?_⟩
   cases i with
   | zero=>simp at hi;subst hi;exact ⟨h1,.inr ⟨_,_,_,_,rfl⟩⟩
   | succ i =>
    simp at hi
    rw [show k+(i+1)=k+1+i by omega]
    exact h5 i c hi
  ·rename_i css' h1 h2
   cases hx
   obtain ⟨h4,h5⟩:=QiA h2
   refine ⟨by simp [h4],fun i c hi=>?_⟩
   cases i with
   | zero=>simp at hi;subst hi;exact ⟨h1,.inl rfl⟩
   | succ i =>
    simp at hi
    rw [show k+(i+1)=k+1+i by omega]
    exact h5 i c hi
  ·cases hx
section
variable {w:World} {F F':Nat→Prop} {ι ι':Io} {h h':Nat→Blk} {ids:List Nat}
theorem ZE {id:Nat} (hid:id∈ids):ids[ids.idxOf id]? = some id:=by
 have h1:ids.idxOf id<ids.length:=List.idxOf_lt_length_of_mem hid
 rw [List.getElem?_eq_getElem h1,List.getElem_idxOf h1]
variable (hF:∀ b,F b→F' b) (hh:∀ i id,ids[i]? = some id→h' i=(h id).rn ids∧ι' i=ι id∧ι'.o i=ι.o id)
include hF hh
theorem VR.rn1 {v:Value} {x:AV} (hv:VR w F ι h v x):VR w F' ι' h' v (x.rn1 ids):=by
 cases hv with
 | u=>exact .u _
 | c v d hr=>exact .c _ _ (hr.mono fun b hb=>⟨hF b hb,rfl⟩)
 | n sz=>exact .n _
 | rdead v sz id off len h1 hd =>
  simp only [AV.rn1]
  split
  ·rename_i hm
   exact .rdead _ _ _ _ _ h1 (by rw [(hh _ _ (ZE hm)).1,hd];rfl)
  ·exact .u _
 | rnil id e sz m hi hx =>
  simp only [AV.rn1]
  split
  ·rename_i hm
   exact .rnil _ e sz m ((hh _ _ (ZE hm)).2.1.trans hi) (by rw [(hh _ _ (ZE hm)).1,hx];rfl)
  ·exact .u _
 | remp ad cap id e sz m hi hx ht =>
  simp only [AV.rn1]
  split
  ·rename_i hm
   exact .remp ad cap _ e sz m ((hh _ _ (ZE hm)).2.1.trans hi) (by rw [(hh _ _ (ZE hm)).1,hx];rfl) ht
  ·exact .u _
 | r id off len bk ao cap e sz m es hi hx hlen hcap hao htip =>
  simp only [AV.rn1]
  split
  ·rename_i hm
   exact .r _ off len bk ao cap e sz m es ((hh _ _ (ZE hm)).2.1.trans hi) (by rw [(hh _ _ (ZE hm)).1,hx];rfl) hlen hcap (by rw [(hh _ _ (ZE hm)).2.2];exact hao) htip
  ·exact .u _
 | pdead v id i j h1 hd =>
  simp only [AV.rn1]
  split
  ·rename_i hm
   exact .pdead _ _ _ _ h1 (by rw [(hh _ _ (ZE hm)).1,hd];rfl)
  ·exact .u _
 | p id i j bk hi hn hd =>
  simp only [AV.rn1]
  split
  ·rename_i hm
   have hs:(h' (ids.idxOf id)).sz=(h id).sz:=by rw [(hh _ _ (ZE hm)).1];cases h id <;> rfl
   rw [← hs,← (hh _ _ (ZE hm)).2.2]
   refine .p _ i j bk ((hh _ _ (ZE hm)).2.1.trans hi) ?_ ?_
   ·rw [(hh _ _ (ZE hm)).1];cases hx:h id <;> simp_all [Blk.rn]
   ·rw [(hh _ _ (ZE hm)).1];cases hx:h id <;> simp_all [Blk.rn]
  ·exact .u _
 | q bk o j cs x hb hc hr=>exact .q bk o j cs x (hF _ hb) hc (fun k d hk=>(hr k d hk).mono fun b hb=>⟨hF b hb,rfl⟩)
 | a=>exact .u _
 | t=>exact .u _
 | bdead=>exact .u _
 | b=>exact .u _
 | bqdead=>exact .u _
 | bq=>exact .u _
theorem VR.rn2 {v:Value} {x:AV} (hv:VR w F ι h v x):VR w F' ι' h' v (x.rn2 ids):=by
 cases x with
 | a cs =>
  cases hv with
  | a vs _ hl h1 hv =>
   refine .a vs _ (by simpa using hl) h1 (fun k v x hk hx=>?_)
   simp only [List.getElem?_map,Option.map_eq_some_iff] at hx
   obtain ⟨y,hy,rfl⟩:=hx
   exact (hv k v y hk hy).rn1 hF hh
 | _=>exact hv.rn1 hF hh
theorem VR.rn {v:Value} {x:AV} (hv:VR w F ι h v x):VR w F' ι' h' v (x.rn ids):=by
 cases x with
 | t cs =>
  cases hv with
  | t vs _ hl hv =>
   refine .t vs _ (by simpa using hl) (fun k v x hk hx=>?_)
   simp only [List.getElem?_map,Option.map_eq_some_iff] at hx
   obtain ⟨y,hy,rfl⟩:=hx
   exact (hv k v y hk hy).rn2 hF hh
 | _=>exact hv.rn2 hF hh
theorem BR.rn {i id:Nat} (hi:ids[i]? = some id) (hk:∀ k p,ι.k k=some (id,p)→ι'.k k=some (i,p)) {B:Blk} (hv:BR w F ι h id B):BR w F' ι' h' i (B.rn ids):=by
 obtain ⟨_,hιi,hoi⟩:=hh i id hi
 cases hv with
 | none=>exact .none
 | dead=>exact .dead
 | box bk e vals cs hi' ho hb hl h1 hv =>
  refine .box bk e vals _ (hιi.trans hi') (hoi.trans ho) hb (by simpa using hl) h1 (fun k v x hk hx=>?_)
  simp only [List.getElem?_map,Option.map_eq_some_iff] at hx
  obtain ⟨y,hy,rfl⟩:=hx
  exact (hv k v y hk hy).rn1 hF hh
 | slnil e sz m hz hi'=>exact .slnil e sz m hz (hιi.trans hi')
 | sl bk e e0 sz m es cur hz hi' hb htc hle hml hsz hv =>
  refine .sl bk e e0 sz m es cur hz (hιi.trans hi') hb (by rw [hoi];exact htc) (by rw [hoi];exact hle) hml hsz (fun p q x d hp hq=>?_)
  obtain ⟨v,h1,h2⟩:=hv p q x d hp hq
  refine ⟨v,by rw [hoi];exact h1,?_⟩
  cases m with
  | dp g t H=>exact ⟨h2.1,fun hnot=>(h2.2 hnot).map _ fun k r hkk=>⟨hk k _ hkk,rfl⟩⟩
  | _=>exact Rd.mono (fun b hb=>⟨hF b hb,rfl⟩) h2
end
section
variable {C:Ctx} {U:Nat→Prop} {σ:St} {a:Act} {w:World} {ι:Io}
def Qbl (a:Act):ResultVar→Sem Value
 | .tmp t=>pure (a.tmps.getD t undef)
 | .cell ad t=>do loadVar t (← asAddr (a.tmps.getD ad undef))
theorem QIP (S:Sat C U σ a w ι) {x:ResultVar} {y:ARv} (hx:cRv C.P x=some y) {v:AV} (hv:y.get σ=some v) :
  ∃ u,(Qbl a x).run C.P w = .ok u w∧VR w (Fz C w ι σ.h) ι σ.h u v:=by
 cases x with
 | tmp t =>
  simp only [cRv,Option.some.injEq] at hx
  subst hx
  simp only [ARv.get,Option.some.injEq] at hv
  subst hv
  exact ⟨_,rfl,S.vals t⟩
 | cell ad t =>
  simp only [cRv] at hx
  split at hx
  rotate_left
  ·cases hx
  rename_i n agg hn hagg
  cases hx
  simp only [ARv.get] at hv
  split at hv
  rotate_left
  ·cases hv
  rename_i e he
  cases hv
  obtain ⟨u,x1,rfl,h1,_,ad',h2,h3⟩:=QuD (t1:=0) S (x:=.tmp ad) rfl (rfl:cO C.P 0 (.tmp ad)=some (.s ad)) hagg (fun h=>by simp [h,hn]) (fun h=>by simp [h]) he
  refine ⟨u,?_,h1⟩
  have h4:a.tmps.getD ad undef = .pointer (some ad'):=h2
  simp only [Qbl,h4,asAddr,Sem.run_bind,Sem.run_pure,Result.andThen_ok]
  exact h3
theorem QuP (S:Sat C U σ a w ι):∀ (xs:List ResultVar) (ys:List ARv) (vs:List AV),cRvs C.P xs=some ys→Qau σ ys=some vs →
  ∃ us:List Value,us.length=xs.length∧us.length=vs.length∧(∀ (k:Nat) (u:Value) (x:ResultVar),us[k]? = some u→xs[k]? = some x→(Qbl a x).run C.P w = .ok u w) ∧
   ∀ (k:Nat) (u:Value) (v:AV),us[k]? = some u→vs[k]? = some v→VR w (Fz C w ι σ.h) ι σ.h u v
 | [],ys,vs,hx,hv=>by
  simp [cRvs] at hx
  subst hx
  simp [Qau] at hv
  subst hv
  exact ⟨[],rfl,rfl,by simp,by simp⟩
 | x::xs,ys,vs,hx,hv=>by
  simp only [cRvs] at hx
  split at hx
  rotate_left
  ·cases hx
  rename_i y ys' h1 h2
  cases hx
  simp only [Qau] at hv
  split at hv
  rotate_left
  ·cases hv
  rename_i v vs' h3 h4
  cases hv
  obtain ⟨u,h5,h6⟩:=QIP S h1 h3
  obtain ⟨us,h7,h8,h9,h10⟩:=QuP S xs ys' vs' h2 h4
  refine ⟨u::us,by simp [h7],by simp [h8],fun k u' x' hu hx'=>?_,fun k u' v' hu hv'=>?_⟩
  ·cases k with
   | zero=>simp at hu hx';subst hu;subst hx';exact h5
   | succ k=>exact h9 k u' x' (by simpa using hu) (by simpa using hx')
  ·cases k with
   | zero=>simp at hu hv';subst hu;subst hv';exact h6
   | succ k=>exact h10 k u' v' (by simpa using hu) (by simpa using hv')
theorem QC1 (S:Sat C U σ a w ι) {fn:Func} {ys:List ARv} {vs:List AV} (hx:cRvs C.P fn.results.toList=some ys) (hv:Qau σ ys=some vs) :
  ∃ u,(results fn a.tmps).run C.P w = .ok u w∧VR w (Fz C w ι σ.h) ι σ.h u (Qs1 vs):=by
 obtain ⟨us,h1,h2,h3,h4⟩:=QuP S _ _ _ hx hv
 have hu:results fn a.tmps=(do let vs ← fn.results.mapM (Qbl a);pure (if h:vs.size=1 then vs[0] else .tuple vs)):=rfl
 have hm:(fn.results.mapM (Qbl a)).run C.P w = .ok us.toArray w:=by
  obtain ⟨l,hl⟩:∃ l,fn.results=List.toArray l:=⟨fn.results.toList,by simp⟩
  rw [hl] at h1 h3 ⊢
  have:=Qly (P:=C.P) (w:=w) (Qbl a) l us (by simpa using h1) (fun k v x hk hx=>h3 k v x hk (by simpa using hx))
  simp [this]
 have hr:(results fn a.tmps).run C.P w = .ok (if h:us.toArray.size=1 then us.toArray[0] else .tuple us.toArray) w:=by
  rw [hu,Sem.run_bind,hm]
  rfl
 refine ⟨_,hr,?_⟩
 match us,vs,h2,h4 with
 | [u],[v],_,h4=>exact h4 0 u v rfl rfl
 | [],[],_,h4=>exact .t _ _ rfl (by simp)
 | u::u'::us,v::v'::vs,h2,h4 =>
  rw [dif_neg (by simp)]
  exact .t _ _ (by simpa using h2) (fun k u v hk hx=>h4 k u v (by simpa using hk) hx)
end
end Go.Proofs.YtdplaepmjogjjaaGreat.Am
namespace Go.Proofs.YtdplaepmjogjjaaGreat.Am
open Go Go.RowKit
theorem VR.lift {w:World} {F F':Nat→Prop} (hF:∀ b,F b→F' b) {ι:Io} {h:Nat→Blk} {v:Value} {x:AV} (hx:x.dat=true) (hv:VR w F noι noh v x):VR w F' ι h v x:=by
 cases x with
 | c d=>exact hv.data hF
 | a cs =>
  cases hv with
  | a vs _ hl h1 hv =>
   refine .a vs cs hl h1 (fun k v x hk hxk=>?_)
   have:=List.all_eq_true.1 hx x (List.mem_of_getElem? hxk)
   cases x with
   | c d=>exact (hv k v _ hk hxk).data hF
   | _=>simp at this
 | _=>simp [AV.dat] at hx
theorem OwnV.lift {w:World} {F F':Nat→Prop} {v:Value} {x:Hd} {e:TypeId} {sz:Nat} {mm:Mo} {es:List (List D)} (H:OwnV w F v x e sz mm es) {ι:Io} {h:Nat→Blk} {m:Nat} (h1:ι m=x.o) (ho:ι.o m=x.base) (h2:h m=x.B) :
  VR w F' ι h v (.r sz m 0 es.length):=by
 have hvx:=H.vr
 rw [H.hB] at h2 hvx
 generalize hn:es.length=n at hvx ⊢
 cases hvx with
 | rdead _ _ _ _ _ _ hd=>cases hd
 | rnil _ e' _ mm' hi hh' =>
  have:es=[]:=List.eq_nil_of_length_eq_zero hn
  subst this
  exact .rnil m e sz mm (h1.trans hi) h2
 | remp ad cap _ e' _ mm' hi hh' ht =>
  cases hh'
  exact .remp ad cap m e sz mm (h1.trans hi) h2 ht
 | r _ _ _ b ao cap e' _ mm' es' hi hh' hlen hcap hao htip =>
  cases hh'
  exact .r m 0 n b ao cap e sz mm es (h1.trans hi) h2 hlen hcap (by rw [ho];exact hao) htip
theorem Qwc:∀ (xs:List AV) (m:Nat),(layC xs m).length=xs.length:=by
 intro xs
 induction xs with
 | nil=>intro m;rfl
 | cons x xs ih=>intro m;cases x <;> simp [layC,ih]
theorem QAY:∀ (xs:List AV) (n m:Nat),(layS xs n m).length=xs.length:=by
 intro xs
 induction xs with
 | nil=>intro n m;rfl
 | cons x xs ih=>intro n m;cases x <;> simp [layS,ih]
theorem Qo2:∀ {cs:List AV},cs.all isCO=true→(∀ n m,layS cs n m=layC cs m)∧layG cs=Zj cs∧layB cs=[]
 | [],_=>⟨fun _ _=>rfl,rfl,rfl⟩
 | x::cs,h=>by
  simp only [List.all_cons,Bool.and_eq_true] at h
  obtain ⟨h1,h2,h3⟩:=Qo2 h.2
  cases x with
  | c d=>exact ⟨fun n m=>by simp only [layS,layC,h1],by simp only [layG,Zj,h2],by simp only [layB,h3]⟩
  | ow e sz m es=>exact ⟨fun n m=>by simp only [layS,layC,h1],by simp only [layG,Zj,h2],by simp only [layB,h3]⟩
  | _=>simp [isCO] at h
structure Lay (w:World) (F0:Nat→Prop) (vs:List Value) (xs:List AV) (lb:List Nat) (gb:List Hd):Prop where
 nd:lb.Nodup
 len:lb.length=(layB xs).length
 vl:vs.length=xs.length
 bx:∀ (i b:Nat) (cs:List AV),lb[i]? = some b→(layB xs)[i]? = some cs→cs.all isC=true∧∃ e vals,w.heap[b]? = some (.cells vals e (0,0))∧DR w F0 vals cs
 gl:gb.length=(layG xs).length
 gget:∀ (j:Nat) (x:Hd),gb[j]? = some x→(layG xs)[j]? = some x.B∧(∃ e sz m es,x.B = .sl e sz m es∧∀ b p,x.K b=some p→p≠[]∧b<w.heap.size∧x.o≠some b∧∃ g t H,m = .dp g t H)∧BR w F0 x.io (fun _=>x.B) 0 x.B∧∀ b,x.has b→b∉lb
 ginj:∀ (i j b:Nat) (x y:Hd),gb[i]? = some x→gb[j]? = some y→x.has b→y.has b→i=j
 val:∀ (n m:Nat) (F:Nat→Prop) (ι:Io) (h:Nat→Blk),(∀ b,F0 b→F b)→(∀ i b,lb[i]? = some b→ι (n+i)=some b∧ι.o (n+i)=0)→(∀ i cs,(layB xs)[i]? = some cs→h (n+i) = .box cs) →
  (∀ (j:Nat) (x:Hd),gb[j]? = some x→ι (m+j)=x.o∧ι.o (m+j)=x.base∧h (m+j)=x.B)→∀ (k:Nat) (v:Value),vs[k]? = some v→VR w F ι h v (((layS xs n m)[k]?).getD .u)
theorem Qo3 {w:World} {F0:Nat→Prop} {vs:List Value} {xs:List AV} {lb:List Nat} {gb:List Hd} (hA:Args w F0 vs xs lb gb):Lay w F0 vs xs lb gb:=by
 induction hA with
 | nil=>exact ⟨List.nodup_nil,rfl,rfl,by simp,rfl,by simp,by simp,by simp⟩
 | dat v x vs xs lb gb hv hr hx ih =>
  have hB:layB (x::xs)=layB xs:=by cases x <;> simp [layB,AV.dat] at hx ⊢
  have hGC:∀ cs:List AV,(cs.all fun | .c _=>true | _=>false)=true→Zj cs=[]∧∀ m,layC cs m=cs:=by
   intro cs
   induction cs with
   | nil=>intro _;exact ⟨rfl,fun _=>rfl⟩
   | cons c cs ihc =>
    intro h
    simp only [List.all_cons,Bool.and_eq_true] at h
    obtain ⟨k1,k2⟩:=ihc h.2
    cases c with
    | c d=>exact ⟨by simp only [Zj,k1],fun m=>by simp only [layC,k2]⟩
    | _=>simp at h
  have hG:layG (x::xs)=layG xs:=by
   cases x with
   | a cs=>simp only [AV.dat] at hx;simp only [layG,(hGC cs hx).1,List.nil_append]
   | _=>simp [layG,AV.dat] at hx ⊢
  have hS:∀ n m,layS (x::xs) n m=x::layS xs n m:=by
   intro n m
   cases x with
   | a cs=>simp only [AV.dat] at hx;simp only [layS,(hGC cs hx).1,(hGC cs hx).2,List.length_nil,Nat.add_zero]
   | _=>simp [layS,AV.dat] at hx ⊢
  refine ⟨ih.nd,by rw [hB];exact ih.len,by simp [ih.vl],by rw [hB];exact ih.bx,by rw [hG];exact ih.gl,by rw [hG];exact ih.gget,ih.ginj,fun n m F ι h hF hι hh hg k u hk=>?_⟩
  rw [hS]
  cases k with
  | zero=>simp at hk;subst hk;exact hv.lift hF hx
  | succ k=>exact ih.val n m F ι h hF hι (by rw [hB] at hh;exact hh) hg k u (by simpa using hk)
 | box b e vals cs vs xs lb gb hb hd hc hn hng hr ih =>
  refine ⟨List.nodup_cons.2 ⟨hn,ih.nd⟩,by simp [layB,ih.len],by simp [ih.vl],fun i b' cs' hi hcs=>?_,ih.gl,fun j x hj=>?_,ih.ginj,fun n m F ι h hF hι hh hg k u hk=>?_⟩
  ·cases i with
   | zero=>simp [layB] at hi hcs;subst hi;subst hcs;exact ⟨hc,e,vals,hb,hd⟩
   | succ i=>exact ih.bx i b' cs' (by simpa using hi) (by simpa [layB] using hcs)
  ·obtain ⟨g1,g2,g3,g4⟩:=ih.gget j x hj
   refine ⟨g1,g2,g3,fun b' hb'=>?_⟩
   simp only [List.mem_cons,not_or]
   refine ⟨fun e=>?_,g4 b' hb'⟩
   subst e
   exact hng ⟨x,List.mem_of_getElem? hj,hb'⟩
  ·cases k with
   | zero =>
    simp at hk
    subst hk
    have g1:=hι 0 b rfl
    have g2:=hh 0 cs rfl
    simp only [Nat.add_zero] at g1 g2
    have:VR w F ι h (.pointer (some ⟨b,ι.o n+0*(h n).sz+0,none⟩)) (.p n 0 0):=.p n 0 0 b g1.1 (by rw [g2];simp) (by rw [g2];simp)
    simpa [layS,g1.2] using this
   | succ k =>
    simp only [layS]
    exact ih.val (n+1) m F ι h hF (fun i b hi=>by have:=hι (i+1) b (by simpa using hi);rwa [show n+(i+1)=n+1+i by omega] at this) (fun i cs hi=>by have:=hh (i+1) cs (by simpa [layB] using hi);rwa [show n+(i+1)=n+1+i by omega] at this) hg k u (by simpa using hk)
 | own v x e sz mm es vs xs lb gb hv hn hr ih =>
  refine ⟨ih.nd,ih.len,by simp [ih.vl],ih.bx,by simp [layG,ih.gl],fun j y hj=>?_,fun i j b y z hi hj h1 h2=>?_,fun n m F ι h hF hι hh hg k u hk=>?_⟩
  ·cases j with
   | zero=>simp at hj;subst hj;exact ⟨by rw [hv.hB];rfl,⟨e,sz,mm,es,hv.hB,hv.lab⟩,hv.br,fun b hb=>(hn b hb).1⟩
   | succ j=>exact ih.gget j y (by simpa using hj)
  ·cases i with
   | zero =>
    simp at hi
    subst hi
    cases j with
    | zero=>rfl
    | succ j=>simp at hj;exact absurd ⟨z,List.mem_of_getElem? hj,h2⟩ (hn b h1).2
   | succ i =>
    cases j with
    | zero=>simp at hj;subst hj;simp at hi;exact absurd ⟨y,List.mem_of_getElem? hi,h1⟩ (hn b h2).2
    | succ j=>simp at hi hj;rw [ih.ginj i j b y z hi hj h1 h2]
  ·cases k with
   | zero =>
    simp at hk
    subst hk
    obtain ⟨g1,g2,g3⟩:=hg 0 _ rfl
    simp only [Nat.add_zero] at g1 g2 g3
    have:=hv.lift (F':=F) g1 g2 g3
    simpa [layS] using this
   | succ k =>
    simp only [layS]
    exact ih.val n (m+1) F ι h hF hι hh (fun j y hj=>by have:=hg (j+1) y (by simpa using hj);rwa [show m+(j+1)=m+1+j by omega] at this) k u (by simpa using hk)
 | agg arr cs vs xs lb g1 gb hc hk0 h1 hn hr ihc ih =>
  obtain ⟨c1,c2,c3⟩:=Qo2 hk0
  have hgl:g1.length=(Zj cs).length:=by rw [← c2];exact ihc.gl
  refine ⟨ih.nd,ih.len,by simp [ih.vl],ih.bx,by simp [layG,ih.gl,hgl],fun j y hj=>?_,fun i j b y z hi hj h1 h2=>?_,fun n m F ι h hF hι hh hg k u hk=>?_⟩
  ·rw [List.getElem?_append] at hj
   simp only [layG]
   rw [List.getElem?_append,← hgl]
   split at hj
   ·rename_i hlt
    obtain ⟨k1,k2,k3,_⟩:=ihc.gget j y hj
    rw [c2] at k1
    rw [if_pos hlt]
    exact ⟨k1,k2,k3,fun b hb=>(hn b ⟨y,List.mem_of_getElem? hj,hb⟩).1⟩
   ·rename_i hlt
    rw [if_neg hlt]
    exact ih.gget _ y hj
  ·rw [List.getElem?_append] at hi hj
   split at hi <;> split at hj
   ·exact ihc.ginj i j b y z hi hj h1 h2
   ·exact absurd ⟨z,List.mem_of_getElem? hj,h2⟩ (hn b ⟨y,List.mem_of_getElem? hi,h1⟩).2
   ·exact absurd ⟨y,List.mem_of_getElem? hi,h1⟩ (hn b ⟨z,List.mem_of_getElem? hj,h2⟩).2
   ·have:=ih.ginj _ _ b y z hi hj h1 h2
    omega
  ·cases k with
   | zero =>
    simp at hk
    subst hk
    simp only [layS,List.getElem?_cons_zero,Option.getD_some]
    refine .a arr _ (by rw [Qwc];simpa using ihc.vl) (fun k v hk=>h1 v (List.mem_of_getElem? (by simpa using hk))) (fun k v x hk hx=>?_)
    have:=ihc.val 0 m F ι h hF (by simp) (by rw [c3];simp) (fun j y hj=>hg j y (by rw [List.getElem?_append_left (List.getElem?_eq_some_iff.1 hj).1];exact hj)) k v (by simpa using hk)
    rw [c1,hx] at this
    exact this
   | succ k =>
    simp only [layS]
    refine ih.val n (m+(Zj cs).length) F ι h hF hι hh (fun j y hj=>?_) k u (by simpa using hk)
    have:=hg (g1.length+j) y (by rw [List.getElem?_append_right (by omega),show g1.length+j-g1.length=j by omega];exact hj)
    rwa [hgl,show m+((Zj cs).length+j)=m+(Zj cs).length+j by omega] at this
def Z6 (P:Program) (w:World) (F0:Nat→Prop) (lb:List Nat) (gb:List Hd) (N:Nat):Ctx :=
 { P:=P,w0:=w,F0:=F0,X:=fun b=>b∈lb∨Q8 gb b,L:=fun i=>lb[i]?,N:=N,G:=Q8 gb,O:=fun i=>if i<lb.length then none else gb[i-lb.length]?,GX:=fun _ h=>.inr h }
def gk:List Hd→Nat→Nat→Option (Nat × Pth)
 | [],_,_=>none
 | x::r,k,b=>match x.K b with
  | some p=>some (k,p)
  | none=>gk r (k+1) b
theorem QgC:∀ {gb:List Hd} {k b i:Nat} {p:Pth},gk gb k b=some (i,p)→∃ j x,i=k+j∧gb[j]? = some x∧x.K b=some p
 | [],k,b,i,p,h=>by simp [gk] at h
 | x::r,k,b,i,p,h=>by
  simp only [gk] at h
  split at h
  ·rename_i p' hp;cases h;exact ⟨0,x,rfl,rfl,hp⟩
  ·obtain ⟨j,y,h1,h2,h3⟩:=QgC h
   exact ⟨j+1,y,by omega,by simpa using h2,h3⟩
theorem QrY:∀ {gb:List Hd} {k b:Nat},(∀ x,x∈gb→x.K b=none)→gk gb k b=none
 | [],_,_,_=>rfl
 | x::r,k,b,h=>by
  simp only [gk]
  rw [h x (by simp)]
  exact QrY fun y hy=>h y (by simp [hy])
theorem QE1 {gb:List Hd} (hinj:∀ (i j b:Nat) (x y:Hd),gb[i]? = some x→gb[j]? = some y→x.has b→y.has b→i=j) {k b j:Nat} {x:Hd} {p:Pth} (hj:gb[j]? = some x) (hp:x.K b=some p):gk gb k b=some (k+j,p):=by
 cases hx:gk gb k b with
 | none =>
  have:∀ (gb:List Hd) (k:Nat),gk gb k b=none→∀ y,y∈gb→y.K b=none:=by
   intro gb
   induction gb with
   | nil=>intro k _ y hy;cases hy
   | cons z r ih =>
    intro k h y hy
    simp only [gk] at h
    split at h
    ·cases h
    ·rename_i hz
     rcases List.mem_cons.1 hy with rfl | hy
     ·exact hz
     ·exact ih (k+1) h y hy
  rw [this gb k hx x (List.mem_of_getElem? hj)] at hp
  cases hp
 | some z =>
  obtain ⟨i,q⟩:=z
  obtain ⟨j',y,h1,h2,h3⟩:=QgC hx
  have:=hinj j' j b y x h2 hj (.inr ⟨q,h3⟩) (.inr ⟨p,hp⟩)
  subst this
  rw [hj] at h2
  cases h2
  rw [hp] at h3
  cases h3
  rw [h1]
def ιs (lb:List Nat) (gb:List Hd):Io:=⟨fun i=>if i<lb.length then lb[i]? else (gb[i-lb.length]?).bind (·.o),gk gb lb.length,fun i=>if i<lb.length then 0 else ((gb[i-lb.length]?).map (·.base)).getD 0⟩
theorem ιs_lt {lb:List Nat} {gb:List Hd} {i b:Nat} (h:lb[i]? = some b):ιs lb gb i=some b∧(ιs lb gb).o i=0:=by
 have:=(List.getElem?_eq_some_iff.1 h).1
 exact ⟨by show (if _ then _ else _)=_;rw [if_pos this];exact h,by show (if _ then _ else _)=_;rw [if_pos this]⟩
theorem ιs_ge {lb:List Nat} {gb:List Hd} {j:Nat} {x:Hd} (h:gb[j]? = some x):ιs lb gb (lb.length+j)=x.o∧(ιs lb gb).o (lb.length+j)=x.base:=by
 constructor
 ·show (if _ then _ else _)=_
  rw [if_neg (by omega),show lb.length+j-lb.length=j by omega,h]
  rfl
 ·show (if _ then _ else _)=_
  rw [if_neg (by omega),show lb.length+j-lb.length=j by omega,h]
  rfl
theorem ιs_cases {lb:List Nat} {gb:List Hd} {i b:Nat} (h:ιs lb gb i=some b):lb[i]? = some b∨lb.length≤i∧∃ x,gb[i-lb.length]? = some x∧x.o=some b:=by
 have h:(if i<lb.length then lb[i]? else (gb[i-lb.length]?).bind (·.o))=some b:=h
 split at h
 ·exact .inl h
 ·refine .inr ⟨by omega,?_⟩
  cases hx:gb[i-lb.length]? with
  | none=>rw [hx] at h;cases h
  | some p=>rw [hx] at h;exact ⟨p,rfl,h⟩
theorem QFp {P:Program} {w:World} {F0:Nat→Prop} {vs:Array Value} {xs:List AV} {lb:List Nat} {gb:List Hd} (hA:Args w F0 vs.toList xs lb gb) (hF:∀ b,F0 b→b<w.heap.size∧b∉lb∧¬ Q8 gb b) {N:Nat} (hN:xs.length≤N) :
  SatE (Z6 P w F0 lb gb N) (Yo xs) { tmps:=vs++Array.replicate (N-vs.size) undef,defers:=[] } w:=by
 have L:=Qo3 hA
 have h2:=L.len
 have h3:=L.vl
 have hgl:=L.gl
 have hh:∀ (i:Nat) (cs:List AV),(layB xs)[i]? = some cs→(Yo xs).h i = .box cs:=fun i cs hi=>by simp [Yo,hi]
 have hk:∀ (j:Nat) (B:Blk),(layG xs)[j]? = some B→(Yo xs).h (lb.length+j)=B:=fun j B hj=>by
  simp only [Yo]
  rw [List.getElem?_eq_none (by omega),← h2,show lb.length+j-lb.length=j by omega,hj]
  rfl
 have hout:∀ i,(layB xs).length+(layG xs).length≤i→(Yo xs).h i = .none∧ιs lb gb i=none:=fun i hi=>by
  constructor
  ·simp only [Yo]
   rw [List.getElem?_eq_none (by omega),List.getElem?_eq_none (by omega)]
   rfl
  ·show (if _ then _ else _)=_
   rw [if_neg (by omega),List.getElem?_eq_none (by omega)]
   rfl
 have hex:∀ (i b:Nat),lb[i]? = some b→∃ cs,(layB xs)[i]? = some cs:=fun i b hi=>by
  have:i<lb.length:=(List.getElem?_eq_some_iff.1 hi).1
  exact ⟨(layB xs)[i]'(by omega),List.getElem?_eq_getElem (by omega)⟩
 have hdis:∀ b,b∈lb→¬ Q8 gb b:=fun b hb ⟨x,hm,hx⟩=>by
  obtain ⟨j,hj⟩:=List.getElem?_of_mem hm
  exact (L.gget j _ hj).2.2.2 b hx hb
 have hblt:∀ b,Q8 gb b→b<w.heap.size:=fun b ⟨x,hm,hx⟩=>by
  obtain ⟨j,hj⟩:=List.getElem?_of_mem hm
  obtain ⟨_,⟨e,sz,m,es,hB,hl⟩,hbr,_⟩:=L.gget j _ hj
  rcases hx with hx | ⟨p,hx⟩
  ·rw [hB] at hbr
   cases hbr with
   | slnil _ _ _ _ hi=>exact absurd (hi.symm.trans hx) (by simp)
   | sl bk _ _ _ _ _ cur hz hi hb =>
    have:some bk=some b:=hi.symm.trans hx
    cases this
    exact (Array.getElem?_eq_some_iff.1 hb).1
  ·exact (hl b p hx).2.1
 have hlabn:∀ b,¬ Q8 gb b→(ιs lb gb).k b=none:=fun b hb=>QrY fun x hx=>by
  cases hk:x.K b with
  | none=>rfl
  | some p=>exact absurd ⟨x,hx,.inr ⟨p,hk⟩⟩ hb
 have hFz:∀ b,F0 b→Fz (Z6 P w F0 lb gb N) w (ιs lb gb) (Yo xs).h b:=fun b hb=>⟨(hF b hb).1,.inl hb,fun id hid=>by
  rcases ιs_cases hid with h | ⟨_,x,h,hx⟩
  ·exact absurd (List.mem_of_getElem? h) (hF b hb).2.1
  ·exact absurd ⟨x,List.mem_of_getElem? h,.inl hx⟩ (hF b hb).2.2,hlabn b (hF b hb).2.2⟩
 have hcase:∀ id,id<lb.length∨(∃ j x,id=lb.length+j∧gb[j]? = some x)∨(layB xs).length+(layG xs).length≤id:=fun id=>by
  by_cases h:id<lb.length
  ·exact .inl h
  ·by_cases h':id<lb.length+gb.length
   ·exact .inr (.inl ⟨id-lb.length,gb[id-lb.length],by omega,List.getElem?_eq_getElem (by omega)⟩)
   ·exact .inr (.inr (by omega))
 refine ⟨ιs lb gb,⟨rfl,rfl,rfl,Nat.le_refl _,fun _ _ _=>rfl⟩,fun s=>?_,?_,rfl,fun id=>?_,fun i j b hi hj=>?_,fun i b hi=>?_,fun i hi=>hout i hi,fun i b hi=>?_,fun i b hi=>?_,fun i x hi=>?_,fun b id p hkb=>?_⟩
 ·show VR _ _ _ _ _ (((layS xs 0 (layB xs).length)[s]?).getD .u)
  rcases Nat.lt_or_ge s vs.size with hs | hs
  ·have:=L.val 0 (layB xs).length (Fz (Z6 P w F0 lb gb N) w (ιs lb gb) (Yo xs).h) (ιs lb gb) (Yo xs).h hFz (fun i b hi=>by rw [Nat.zero_add];exact ιs_lt hi) (fun i cs hi=>by simpa using hh i cs hi)
    (fun j x hj=>by rw [← h2];exact ⟨(ιs_ge hj).1,(ιs_ge hj).2,hk j _ (L.gget j x hj).1⟩) s vs[s] (by simp [hs])
   rw [show (vs++Array.replicate (N-vs.size) undef).getD s undef=vs[s] by simp [Array.getD_eq_getD_getElem?,Array.getElem?_append,hs]]
   exact this
  ·rw [List.getElem?_eq_none (by rw [QAY];simp at h3;omega)]
   exact .u _
 ·simp [Z6] at h3 ⊢;omega
 ·rcases hcase id with hlt | ⟨j,x,rfl,hj⟩ | hge
  ·have hx:(layB xs)[id]? = some ((layB xs)[id]'(by omega)):=List.getElem?_eq_getElem (by omega)
   rw [hh id _ hx]
   obtain ⟨hc,e,vals,hb,hd⟩:=L.bx id lb[id] _ (by simp) hx
   refine .box lb[id] e vals _ (ιs_lt (by simp)).1 (ιs_lt (b:=lb[id]) (by simp)).2 hb hd.size hd.one (fun k v x hk hxk=>(hd.vr k v x hk hxk).lift hFz ?_)
   have:=List.all_eq_true.1 hc x (List.mem_of_getElem? hxk)
   cases x <;> simp_all [isC,AV.dat]
  ·obtain ⟨g1,⟨e,sz,m,es,hB,hl⟩,g3,_⟩:=L.gget j x hj
   rw [hk j _ g1]
   obtain ⟨hι,hιo⟩:=ιs_ge (lb:=lb) hj
   rw [hB] at g3 ⊢
   cases g3 with
   | slnil _ _ _ hz hi=>exact .slnil e sz m hz (hι.trans hi)
   | sl bk _ e0 _ _ _ cur hz hi hb htc hle hml hsz hv =>
    refine .sl bk e e0 sz m es cur hz (hι.trans hi) hb (by rw [hιo];exact htc) (by rw [hιo];exact hle) hml hsz (fun i j' el d hx hd=>?_)
    obtain ⟨v,k1,k2⟩:=hv i j' el d hx hd
    refine ⟨v,by rw [hιo];exact k1,?_⟩
    cases m with
    | dp g t H =>
     refine ⟨k2.1,fun hnot=>(k2.2 hnot).map _ fun b q hkb=>⟨?_,rfl⟩⟩
     have hkb:(x.K b).map (fun p=>((0:Nat),p))=some (0,[(i,j')]++q):=hkb
     obtain ⟨p,hp,hpe⟩:=Option.map_eq_some_iff.1 hkb
     cases hpe
     exact QE1 L.ginj hj hp
    | _=>exact Rd.mono (fun b hb=>⟨hFz b hb,rfl⟩) k2
  ·rw [(hout id hge).1];exact .none
 ·rcases ιs_cases hi with h1 | ⟨h1,x,h1',hx⟩
  ·rcases ιs_cases hj with h2 | ⟨h2,y,h2',hy⟩
   ·exact (List.getElem?_inj (List.getElem?_eq_some_iff.1 h1).1 L.nd).1 (h1.trans h2.symm)
   ·exact absurd ⟨y,List.mem_of_getElem? h2',.inl hy⟩ (hdis b (List.mem_of_getElem? h1))
  ·rcases ιs_cases hj with h2 | ⟨h2,y,h2',hy⟩
   ·exact absurd ⟨x,List.mem_of_getElem? h1',.inl hx⟩ (hdis b (List.mem_of_getElem? h2))
   ·have:=L.ginj _ _ b x y h1' h2' (.inl hx) (.inl hy)
    omega
 ·rcases ιs_cases hi with h1 | ⟨h1,x,h1',hx⟩
  ·obtain ⟨cs,hcs⟩:=hex i b h1
   obtain ⟨_,e,vals,hb,_⟩:=L.bx i b cs h1 hcs
   exact ⟨.inr ⟨.inl (List.mem_of_getElem? h1),cs,hh i cs hcs⟩,(Array.getElem?_eq_some_iff.1 hb).1⟩
  ·have hg:Q8 gb b:=⟨x,List.mem_of_getElem? h1',.inl hx⟩
   exact ⟨.inl (.inr hg),hblt b hg⟩
 ·rcases ιs_cases hi with h1 | ⟨h1,x,h1',hx⟩
  ·obtain ⟨cs,hcs⟩:=hex i b h1
   rw [hh i cs hcs];simp
  ·obtain ⟨g1,⟨e,sz,m,es,hB,_⟩,_⟩:=L.gget _ _ h1'
   have:=hk _ _ g1
   rw [show lb.length+(i-lb.length)=i by omega] at this
   rw [this,hB]
   simp
 ·obtain ⟨cs,hcs⟩:=hex i b hi
  exact ⟨(ιs_lt hi).1,⟨cs,hh i cs hcs⟩,rfl⟩
 ·simp only [Z6] at hi
  split at hi
  ·cases hi
  ·obtain ⟨g1,⟨e,sz,m,es,hB,_⟩,_⟩:=L.gget _ _ hi
   have h5:=hk _ _ g1
   obtain ⟨h6,h7⟩:=ιs_ge (lb:=lb) hi
   rw [show lb.length+(i-lb.length)=i by omega] at h5 h6 h7
   exact .inr ⟨h6,h7,by rw [h5,hB];exact ⟨rfl,rfl,rfl,fun h=>h,fun h=>h⟩,fun _ _=>rfl⟩
 ·obtain ⟨j,x,rfl,hj,hp⟩:=QgC hkb
  obtain ⟨g1,⟨e,sz,m,es,hB,hl⟩,g3,g4⟩:=L.gget j x hj
  obtain ⟨q1,q2,q3,g,t,H,rfl⟩:=hl b p hp
  refine ⟨q1,⟨e,sz,g,t,H,es,by rw [hk j _ g1,hB]⟩,.inr ⟨x,List.mem_of_getElem? hj,.inr ⟨p,hp⟩⟩,q2,fun i hi=>?_⟩
  rcases ιs_cases hi with h1 | ⟨h1,y,h1',hy⟩
  ·exact g4 b (.inr ⟨p,hp⟩) (List.mem_of_getElem? h1)
  ·have:=L.ginj _ _ b y x h1' hj (.inl hy) (.inr ⟨p,hp⟩)
   rw [this,hj] at h1'
   cases h1'
   exact q3 hy
theorem QGj {x:Blk} {ids:List Nat} (h:x≠.none∧x≠.dead):x.rn ids≠.none∧x.rn ids≠.dead:=by
 cases x <;> simp_all [Blk.rn]
theorem QFL {P:Program} {w:World} {F0:Nat→Prop} {lb:List Nat} {gb:List Hd} {N n m:Nat} (hn:n=lb.length) (hm:m=gb.length) {U:Nat→Prop} {σ:St} {a:Act} {w':World} {ι:Io}
  (S:Sat (Z6 P w F0 lb gb N) U σ a w' ι) {ids:List Nat} (hnd:ids.Nodup) (hids:∀ id,id∈ids→n+m≤id) {x:AV} {r:Res} (hr:QeU n m ids σ x=some r) {v:Value}
  (hv:VR w' (Fz (Z6 P w F0 lb gb N) w' ι σ.h) ι σ.h v x) :
  ∃ ι',Post w F0 lb gb r v w' ι':=by
 unfold QeU at hr
 split at hr
 rotate_left
 ·cases hr
 rename_i css gs hcss hgs
 have hr:=(Option.some.inj hr).symm
 subst hr
 obtain ⟨hl,hbx⟩:=Qlq hcss
 obtain ⟨hgl,hgv⟩:=QiA hgs
 have hgm:gs.length=m:=hgl
 obtain ⟨R,hR⟩:∃ R:Res,R=⟨x.rn ids,ids.map fun id=>(σ.h id).rn ids,css,true,gs⟩:=⟨_,rfl⟩
 rw [← hR]
 have hRn:R.hb.length=ids.length:=by rw [hR];simp
 obtain ⟨π,hπ⟩:∃ π:Nat→Option Nat,π=fun i=>if i<ids.length then ids[i]? else if i<ids.length+m then some (n+(i-ids.length)) else none:=⟨_,rfl⟩
 obtain ⟨ι',hι'⟩:∃ ι':Io,ι'=⟨fun i=>(π i).bind ι,fun b=>match ι.k b with
   | some (y,p)=>if y∈ids then some (ids.idxOf y,p) else if n≤y∧y<n+m then some (ids.length+(y-n),p) else none
   | none=>none,fun i=>((π i).map ι.o).getD 0⟩:=⟨_,rfl⟩
 have hπ1:∀ i id,ids[i]? = some id→π i=some id:=fun i id hi=>by rw [hπ];simp only;rw [if_pos (List.getElem?_eq_some_iff.1 hi).1];exact hi
 have hπ2:∀ k,k<m→π (ids.length+k)=some (n+k):=fun k hk=>by rw [hπ];simp only;rw [if_neg (by omega),if_pos (by omega),show ids.length+k-ids.length=k by omega]
 have hπc:∀ i y,π i=some y→(ids[i]? = some y)∨(∃ k,i=ids.length+k∧k<m∧y=n+k):=fun i y hy=>by
  rw [hπ] at hy
  simp only at hy
  split at hy
  ·exact .inl hy
  ·split at hy
   ·cases hy;exact .inr ⟨i-ids.length,by omega,by omega,rfl⟩
   ·cases hy
 have hιb:∀ i y,π i=some y→ι' i=ι y∧ι'.o i=ι.o y:=fun i y hy=>by rw [hι'];simp [hy]
 have hιs:∀ i b,ι' i=some b→∃ y,π i=some y∧ι y=some b:=fun i b hi=>by
  rw [hι'] at hi
  simp only at hi
  cases hx:π i with
  | none=>rw [hx] at hi;cases hi
  | some y=>rw [hx] at hi;exact ⟨y,rfl,hi⟩
 have hπinj:∀ i j y,π i=some y→π j=some y→i=j:=fun i j y hi hj=>by
  rcases hπc i y hi with h1 | ⟨k,rfl,h1,rfl⟩ <;> rcases hπc j _ hj with h2 | ⟨k',rfl,h2,h3⟩
  ·exact (List.getElem?_inj (List.getElem?_eq_some_iff.1 h1).1 hnd).1 (h1.trans h2.symm)
  ·have:=hids y (List.mem_of_getElem? h1);omega
  ·have:=hids _ (List.mem_of_getElem? h2);omega
  ·omega
 have hkk:∀ b i p,ι'.k b=some (i,p)↔∃ y,π i=some y∧ι.k b=some (y,p):=by
  intro b i p
  rw [hι']
  simp only
  constructor
  ·intro h
   split at h
   rotate_left
   ·cases h
   rename_i y q hy
   split at h
   ·rename_i hm'
    cases h
    exact ⟨y,hπ1 _ _ (ZE hm'),hy⟩
   ·split at h
    ·rename_i h1 h2
     cases h
     exact ⟨y,by rw [hπ2 _ (by omega)];congr 1;omega,hy⟩
    ·cases h
  ·rintro ⟨y,hy,hk⟩
   simp only [hk]
   rcases hπc i y hy with h1 | ⟨k,rfl,h1,rfl⟩
   ·have hmem:=List.mem_of_getElem? h1
    rw [if_pos hmem]
    have:ids.idxOf y=i:=(List.getElem?_inj (List.idxOf_lt_length_of_mem hmem) hnd).1 ((ZE hmem).trans h1.symm)
    rw [this]
   ·rw [if_neg (fun hmem=>by have:=hids _ hmem;omega),if_pos ⟨by omega,by omega⟩]
    congr 2
    omega
 have hrh:∀ i id,ids[i]? = some id→R.h i=(σ.h id).rn ids:=fun i id hi=>by rw [hR];simp [Res.h,hi]
 have hbg:∀ i y,π i=some y→((R.hb++R.gv)[i]?).getD .none=(if i<ids.length then (σ.h y).rn ids else σ.h y):=fun i y hy=>by
  rcases hπc i y hy with h1 | ⟨k,rfl,h1,rfl⟩
  ·have hlt:=(List.getElem?_eq_some_iff.1 h1).1
   rw [if_pos hlt,List.getElem?_append_left (by rw [hRn];exact hlt)]
   exact hrh i y h1
  ·rw [if_neg (by omega),List.getElem?_append_right (by rw [hRn];omega),hRn,show ids.length+k-ids.length=k by omega,hR]
   simp only
   have:k<gs.length:=by omega
   rw [List.getElem?_eq_getElem this]
   simp only [Option.getD_some]
   exact ((hgv k _ (List.getElem?_eq_getElem this)).1).symm
 have hbgo:∀ i y,π i=some y→(((R.hb++R.gv)[i]?).getD .none).own=(σ.h y).own:=fun i y hy=>by
  rw [hbg i y hy]
  split
  ·cases σ.h y <;> rfl
  ·rfl
 have hgh:∀ (k:Nat) (y:Hd) (B:Blk),gb[k]? = some y→gs[k]? = some B→σ.h (n+k)=B∧(B = .dead∨(ι (n+k)=y.o∧ι.o (n+k)=y.base∧Zv y.B B∧∀ b,y.o=some b→w'.shape? b=w.shape? b)):=fun k y B hk hB=>by
  obtain ⟨h1,_⟩:=hgv k B hB
  refine ⟨h1,?_⟩
  have:=S.hand (n+k) y (by simp only [Z6];rw [if_neg (by omega),show n+k-lb.length=k by omega];exact hk)
  rw [h1] at this
  exact this
 have hFz:∀ b,Fz (Z6 P w F0 lb gb N) w' ι σ.h b→FzC w w' F0 gb R ι' b:=by
  intro b ⟨g1,g2,g3,g4⟩
  refine ⟨g1,g2.imp (fun h=>⟨by rw [hR],h⟩) (fun h=>h),fun i hi=>?_,?_⟩
  ·obtain ⟨y,h1,h2⟩:=hιs i b hi
   rw [hbgo i y h1]
   exact g3 y h2
  ·rw [hι']
   simp only [g4]
 have hsame:∀ (k b:Nat),lb[k]? = some b→w'.shape? b=w.shape? b:=fun k b hk=>(S.lent k b hk).2.2
 have hlentid:∀ (k b:Nat),lb[k]? = some b→ι k=some b:=fun k b hk=>(S.lent k b hk).1
 have hbrk:∀ i y,π i=some y→∀ k p,ι.k k=some (y,p)→ι'.k k=some (i,p):=fun i y hy k p hk=>(hkk k i p).2 ⟨y,hy,hk⟩
 have hrr:∀ i id,ids[i]? = some id→R.h i=(σ.h id).rn ids∧ι' i=ι id∧ι'.o i=ι.o id:=fun i id hi=>⟨hrh i id hi,hιb i id (hπ1 i id hi)⟩
 refine ⟨ι',S.fra.os,S.fra.tape,S.fra.output,S.fra.size,fun k hk h1 h2=>S.fra.block k hk (fun h=>h.elim h1 h2),by rw [show R.v=x.rn ids by rw [hR]];exact hv.rn hFz hrr,fun i hi=>?_,fun i j b hi hj=>?_,fun i b hi=>?_,fun i b hi=>?_,fun b i p hk=>?_,by rw [hR];exact hl.trans hn,fun k b cs hk hcs=>?_,by rw [hR];exact hgl.trans hm,fun k y B hk hB=>?_⟩
 ·have hx:ids[i]? = some ids[i]:=List.getElem?_eq_getElem (by omega)
  rw [hrh i _ hx]
  exact (S.blk ids[i]).rn hFz hrr hx (hbrk i _ (hπ1 i _ hx))
 ·obtain ⟨y,h1,h2⟩:=hιs i b hi
  obtain ⟨z,h3,h4⟩:=hιs j b hj
  have:=S.inj y z b h2 h4
  subst this
  exact hπinj i j y h1 h3
 ·obtain ⟨y,h1,h2⟩:=hιs i b hi
  obtain ⟨h3,h4⟩:=S.rng y b h2
  have hyn:n≤y:=by
   rcases hπc i y h1 with h5 | ⟨k,rfl,h5,rfl⟩
   ·have:=hids y (List.mem_of_getElem? h5);omega
   ·omega
  refine ⟨?_,h4,?_⟩
  ·rcases h3 with (h3 | h3) | ⟨h3,_⟩
   ·exact .inl h3
   ·exact .inr h3
   ·rcases h3 with h3 | h3
    ·exfalso
     obtain ⟨k,hk⟩:=List.getElem?_of_mem h3
     have:=S.inj y k b h2 (hlentid k b hk)
     subst this
     have:=(List.getElem?_eq_some_iff.1 hk).1
     omega
    ·exact .inr h3
  ·rw [hRn,show R.gv=gs by rw [hR],hgm]
   rcases hπc i y h1 with h5 | ⟨k,rfl,h5,rfl⟩
   ·have:=(List.getElem?_eq_some_iff.1 h5).1;omega
   ·omega
 ·obtain ⟨y,h1,h2⟩:=hιs i b hi
  rw [hbg i y h1]
  have:=S.live y b h2
  split
  ·exact QGj this
  ·exact this
 ·obtain ⟨y,h1,h2⟩:=(hkk b i p).1 hk
  have L:=S.lab b y p h2
  obtain ⟨e,sz,g,t,H,es,hdp⟩:=L.dp
  refine ⟨L.pn,⟨e,sz,g,t,H,es,?_⟩,L.fr,L.lt,fun j hj=>?_⟩
  ·have:=hbg i y h1
   rw [hdp] at this
   have hs:(if i<ids.length then (Blk.sl e sz (.dp g t H) es).rn ids else Blk.sl e sz (.dp g t H) es) = .sl e sz (.dp g t H) es:=by split <;> rfl
   rw [hs] at this
   cases hx:(R.hb++R.gv)[i]? with
   | none=>rw [hx] at this;cases this
   | some B=>rw [hx] at this;simp only [Option.getD_some] at this;rw [this]
  ·obtain ⟨z,_,h4⟩:=hιs j b hj
   exact L.ne z h4
 ·have hcs:css[k]? = some cs:=by rw [hR] at hcs;exact hcs
  obtain ⟨h1,h2⟩:=hbx k cs hcs
  simp only [Nat.zero_add] at h1
  refine ⟨h2,hsame k b hk,?_⟩
  have hb:=S.blk k
  rw [h1] at hb
  cases hb with
  | box b' e vals _ hi _ hb hl h3 hvr =>
   rw [hlentid k b hk] at hi
   cases hi
   refine ⟨e,vals,hb,hl,h3,fun j v y hj hy=>?_⟩
   have h4:=List.all_eq_true.1 h2 y (List.mem_of_getElem? hy)
   cases y with
   | c d=>exact (hvr j v _ hj hy).data hFz
   | _=>simp [isC] at h4
 ·have hB:gs[k]? = some B:=by rw [hR] at hB;exact hB
  have hkm:k<m:=by rw [← hgm];exact (List.getElem?_eq_some_iff.1 hB).1
  obtain ⟨h1,h2 | ⟨h2,h2',h3,h4⟩⟩:=hgh k y B hk hB
  ·exact .inl h2
  ·refine .inr ⟨h3,?_,?_,?_,h4⟩
   ·rw [hRn,(hιb _ _ (hπ2 k hkm)).1];exact h2
   ·rw [hRn,(hιb _ _ (hπ2 k hkm)).2];exact h2'
   ·have hb:=S.blk (n+k)
    rw [h1] at hb
    rw [hRn]
    obtain ⟨q1,q2⟩:=hιb _ _ (hπ2 k hkm)
    rcases (hgv k B hB).2 with rfl | ⟨e,sz,mm,es,rfl⟩
    ·exact .dead
    ·cases hb with
     | slnil _ _ _ hz hi=>exact .slnil e sz mm hz (q1.trans hi)
     | sl bk _ e0 _ _ _ cur hz hi hb htc hle hml hsz hv =>
      refine .sl bk e e0 sz mm es cur hz (q1.trans hi) hb (by rw [q2];exact htc) (by rw [q2];exact hle) hml hsz (fun i j el d hx hd=>?_)
      obtain ⟨u,k1,k2⟩:=hv i j el d hx hd
      refine ⟨u,by rw [q2];exact k1,?_⟩
      cases mm with
      | dp g t H=>exact ⟨k2.1,fun hnot=>(k2.2 hnot).map _ fun b q hkb=>⟨hbrk _ _ (hπ2 k hkm) b _ hkb,rfl⟩⟩
      | _=>exact Rd.mono (fun b hb=>⟨hFz b hb,rfl⟩) k2
end Go.Proofs.YtdplaepmjogjjaaGreat.Am
namespace Go.Proofs.YtdplaepmjogjjaaGreat.Am
open Go Go.RowKit
def one (f:FuncId) (dec:List AV→Option Res):Tab:=⟨fun _=>[],fun g xs=>if g=f then dec xs else none,false⟩
theorem ok_one {P:Program} {f:FuncId} {dec:List AV→Option Res} (h:∀ args r,dec args=some r→Con P f args r):YC P (one f dec):=fun g args r hr=>by
 simp only [one] at hr
 split at hr
 ·rename_i hg;subst hg;exact h args r hr
 ·cases hr
theorem Con.plain {P:Program} {f:FuncId} {args:List AV} {x:Value} (h:Con P f args ⟨.c (.v x),[],[],true,[]⟩):Con P f args ⟨.c (.v x),[],[],false,[]⟩:=by
 intro w F0 vs lb gb hA hF
 refine (h w F0 vs lb gb hA hF).mono ?_
 rintro e w' ⟨v,ι,rfl,Q⟩
 refine ⟨v,ι,rfl,?_⟩
 have hlb:lb=[]:=List.eq_nil_of_length_eq_zero Q.bxl.symm
 subst hlb
 have hgb:gb=[]:=List.eq_nil_of_length_eq_zero Q.gvl.symm
 subst hgb
 have hv:=Q.val
 have hv':VR w' (FzC w w' F0 [] ⟨.c (.v x),[],[],false,[]⟩ ι) ι (Res.h ⟨.c (.v x),[],[],false,[]⟩) v (.c (.v x)):=by
  cases hv with
  | c v d hr=>cases hr with
   | v x h1=>exact .c _ _ (.v _ h1)
 exact ⟨Q.os,Q.tape,Q.output,Q.size,Q.block,hv',fun i hi=>absurd hi (Nat.not_lt_zero _),Q.inj,Q.rng,Q.live,Q.lab,rfl,by simp,rfl,by simp⟩
def Qfi (P:Program) (f:FuncId):Option (ACode × List ARv × Nat) :=
 match P.funcs[f]? with
 | some fn=>match fn.body with
  | some c=>match comp P fn.ntmps c,cRvs P fn.results.toList with
   | some ac,some rs=>some (ac,rs,fn.ntmps)
   | _,_=>none
  | none=>none
 | none=>none
end Go.Proofs.YtdplaepmjogjjaaGreat.Am
namespace Go.Proofs.YtdplaepmjogjjaaGreat.Am
open Go Go.RowKit Go.ChangeShapes Go.WideShapes Go.ChangeAt
theorem QAV {H:Type} {enc:TypeId × Value→H} {P:Program} {f:Func} {s:ChangeSpec} {apart fresh handsOn again:Bool} {W W':World} {args:Array Value} {v:Value} {ds gs:List (DataW H)} {before pa pv:List MemPlace}
  (hW:DataW.Whole enc P f.params.toList s.vars apart W args.toList ds gs before)
  (hres:∀ (b:Nat) (sp:Nat→Bool) (hd:Bool),DataW.TrodAll enc P W' b sp hd f.resultTypes.toList (v.resultList f.resultTypes.size) (s.fn H (ds++gs)).results [])
  (hargs:∀ sp:Nat→Bool,(∀ p∈before,sp p.block=true)→DataW.TrodAll enc P W' 0 sp true f.params.toList args.toList (s.fn H (ds++gs)).args pa)
  (hvars:∀ sp:Nat→Bool,(∀ p∈before,sp p.block=true)→DataW.TrodVars enc P W' sp s.vars (s.fn H (ds++gs)).vars pv)
  (hps:before=pa++pv) (hB:Below W.heap.size W W')
  (hok:∀ (j:Nat) (t:TypeId) (r:Value),f.resultTypes[j]? = some t→(v.resultList f.resultTypes.size)[j]? = some r→Value.okWide P W' .any 0 t r) :
  s.post enc P f apart fresh handsOn again W args v W':=by
 have hlt:∀ p∈before,p.block<W.heap.size:=fun p hp=>hW.lt p hp
 have hold:∀ p∈before,(fun b=>decide (b<W.heap.size)) p.block=true:=fun p hp=>by simpa using hlt p hp
 subst hps
 refine ⟨ds,gs,pa++pv,[],pa,pv,hW,hres _ _ _,hargs _ hold,hvars _ hold,hB.frame _,fun _=>?_⟩
 obtain ⟨_,_,_,_,_,hz,hn⟩:=hW
 refine ⟨hok,_,_,([]++pa)++pv,⟨[]++pa,pv,trodAll_append (hargs _ (fun _ _=>rfl)) (hres _ _ _),hvars _ (fun _ _=>rfl),rfl,?_,?_⟩,?_⟩
 ·intro b off hp
  have hp':MemPlace.cell b off∈pa++pv:=by simpa using hp
  have h1:=hlt _ hp'
  rw [hB.frozen (by exact h1)]
  exact hz b off hp'
 ·intro ha
  simpa using hn ha
 ·intro p hp _
  simpa using hp
theorem QHB {P:Program} {f:FuncId} {vs:Array Value} {xs:List AV} {x:Value} {al:Bool} (h:Con P f xs ⟨.c (.v x),[],[],al,[]⟩) {w:World} {F0:Nat→Prop} (hA:Args w F0 vs.toList xs [] []) (hF:∀ b,F0 b→b<w.heap.size) :
  Calls P f vs w fun e w'=>e = .returned x∧Below w.heap.size w w':=by
 refine (h w F0 vs [] [] hA (fun b hb=>⟨hF b hb,by simp,fun ⟨_,hm,_⟩=>by simp at hm⟩)).mono ?_
 rintro e w' ⟨v,ι,rfl,Q⟩
 have hv:=Q.val.int
 subst hv
 exact ⟨rfl,Q.os,Q.tape,Q.output,Q.size,fun k hk=>Q.block k hk (by simp) (fun ⟨_,hm,_⟩=>by simp at hm)⟩
end Go.Proofs.YtdplaepmjogjjaaGreat.Am

