/- -/
import Derived.Test.YtjbdljkhbglnhaaGreatZIGA
import Derived.Test.YtjbdljkhbglnhaaGreatZIG9
set_option linter.all false
namespace Go.Proofs.YtjbdljkhbglnhaaGreat.Am
open Go Sz
section
variable {m:Zf} {cuts:List Int} (hc:Zy m cuts=true)
include hc
end
end Go.Proofs.YtjbdljkhbglnhaaGreat.Am
namespace Go.Proofs.YtjbdljkhbglnhaaGreat.Am
open Go Sz
theorem Qye:∀ (l:List TOp'),(∀ o,o∈l→Zd o=true)→0≤(l.map fun o:TOp'=>o.2.1).sum∧(l.map fun o:TOp'=>o.2.1).sum≤6*l.length
 | [],_=>by simp
 | o::l,h=>by
  have h1:=Qbc (h o (List.mem_cons_self ..))
  have h2:=Qye l (fun y hy=>h y (List.mem_cons_of_mem _ hy))
  have e:((o::l).map fun o:TOp'=>o.2.1).sum=o.2.1+(l.map fun o:TOp'=>o.2.1).sum:=by simp
  rw [e,List.length_cons]
  omega
theorem Qjf (c:QM) (s:Int):0≤Yv c s∧Yv c s≤54∧0≤(Yo c s).1∧(Yo c s).1≤Yv c s∧0≤(Yo c s).2∧(Yo c s).2≤Yv c s:=by
 obtain ⟨h1,h2,h3,h4⟩:=Qfv c.1 c.2.1 s
 unfold Yv Yo
 simp only
 generalize QV c.1 c.2.1 s=r at h1 h2 h3 h4 ⊢
 by_cases h:r.1<r.2
 ·have hm:=(h4.1 h).1
  simp only [Zy,Bool.and_eq_true] at hm
  have hm:=hm.1
  have h8:=Ym hm
  rw [if_pos h,if_neg (by omega)]
  have ha:r.1.toNat<c.1.length:=by omega
  have hb:r.2.toNat-1<c.1.length:=by omega
  have hA:=Qbc (Qgb hm ha)
  have hB:=Qbc (Qgb hm hb)
  have hs:slice c.1 r.1 r.2=gtd dOp c.1 r.1.toNat::(c.1.drop (r.1.toNat+1)).take (r.2.toNat-r.1.toNat-1):=by
   unfold slice
   rw [List.drop_eq_getElem_cons ha,show r.2.toNat-r.1.toNat=(r.2.toNat-r.1.toNat-1)+1 by omega,List.take_succ_cons]
   have:gtd dOp c.1 r.1.toNat=c.1[r.1.toNat]:=QbL (List.getElem?_eq_getElem ha) _
   rw [this];rfl
  rw [hs]
  have hR:=Qye ((c.1.drop (r.1.toNat+1)).take (r.2.toNat-r.1.toNat-1)) (fun o ho=>Qoi hm o (List.mem_of_mem_drop (List.mem_of_mem_take ho)))
  have hl:((c.1.drop (r.1.toNat+1)).take (r.2.toNat-r.1.toNat-1)).length≤7:=by simp;omega
  simp only [List.map_cons,List.sum_cons]
  rw [Qp (by omega) (by omega)]
  omega
 ·rw [if_neg h,if_pos (by omega)]
  have hs:slice c.1 r.1 r.2=[]:=by unfold slice;rw [show r.2.toNat-r.1.toNat=0 by omega,List.take_zero]
  rw [hs]
  have:w64 (((List.map (fun o:TOp'=>o.2.1) []).sum:Int)+0)=0:=by simp [Qp]
  simp only [this]
  omega
theorem Qp3 (c:QM) (s:Int):0≤YR c s∧YR c s≤Yv c s:=by
 have h:=Qjf c s
 unfold YR
 split <;> omega
theorem QxN (c:QM) (s m:Int):(Yp c s m=0∧¬ (m_in s 0 (QZ c-1)=true∧m_in m 1 5=true∧QZ c≤4)) ∨
  ((m_in s 0 (QZ c-1)=true∧m_in m 1 5=true∧QZ c≤4)∧Yp c s m=(if c.2.2.1=2 then iMin m (QZ c-s) else m)*YR c s+iMax (Yo c s).1 (Yo c s).2+if Ju c s then Yv c s else 0):=by
 have h:=Qjf c s
 have hv:=Qp3 c s
 by_cases hc:(m_in s 0 (QZ c-1)&&m_in m 1 5&&decide (QZ c≤4))=true
 ·right
  have hc':=hc
  simp only [Bool.and_eq_true,decide_eq_true_eq] at hc'
  refine ⟨⟨hc'.1.1,hc'.1.2,hc'.2⟩,?_⟩
  unfold Yp
  rw [if_pos hc]
  simp only
  have h1:=QP.1 hc'.1.1
  have h2:=QP.1 hc'.1.2
  have hk:1≤(if c.2.2.1=2 then iMin m (QZ c-s) else m)∧(if c.2.2.1=2 then iMin m (QZ c-s) else m)≤5:=by
   unfold iMin;split <;> (try split) <;> omega
  generalize (if c.2.2.1=2 then iMin m (QZ c-s) else m)=k at hk ⊢
  have hp:0≤k*YR c s∧k*YR c s≤5*54:=⟨Int.mul_nonneg (by omega) hv.1,Int.mul_le_mul hk.2 (by omega) hv.1 (by omega)⟩
  generalize k*YR c s=P at hp ⊢
  have hx:0≤iMax (Yo c s).1 (Yo c s).2∧iMax (Yo c s).1 (Yo c s).2≤54:=by unfold iMax;split <;> omega
  generalize iMax (Yo c s).1 (Yo c s).2=X at hx ⊢
  rw [Qp (x:=P) (by omega) (by omega),Qp (x:=P+X) (by omega) (by omega)]
  have hf:0≤(if Ju c s=true then Yv c s else 0)∧(if Ju c s=true then Yv c s else 0)≤54:=by split <;> omega
  generalize (if Ju c s=true then Yv c s else 0)=F at hf ⊢
  rw [Qp (by omega) (by omega)]
 ·left
  refine ⟨?_,fun h=>hc (by simp [h.1,h.2.1,h.2.2])⟩
  unfold Yp
  rw [if_neg hc]
theorem QUb (c:QM) (s m:Int):0≤Yp c s m∧(0<Yp c s m→YR c s≤Yp c s m):=by
 have h:=Qjf c s
 have hv:=Qp3 c s
 rcases QxN c s m with ⟨h0,_⟩ | ⟨⟨h1,h2,h3⟩,h0⟩
 ·rw [h0];exact ⟨Int.le_refl _,fun h=>absurd h (by omega)⟩
 ·rw [h0]
  have h1:=QP.1 h1
  have h2:=QP.1 h2
  have hk:1≤(if c.2.2.1=2 then iMin m (QZ c-s) else m):=by
   unfold iMin;split <;> (try split) <;> omega
  generalize (if c.2.2.1=2 then iMin m (QZ c-s) else m)=k at hk ⊢
  have hp:1*YR c s≤k*YR c s:=Int.mul_le_mul_of_nonneg_right hk hv.1
  have hx:0≤iMax (Yo c s).1 (Yo c s).2:=by unfold iMax;split <;> omega
  have hf:0≤(if Ju c s=true then Yv c s else 0):=by split <;> omega
  generalize k*YR c s=P at hp ⊢
  omega
end Go.Proofs.YtjbdljkhbglnhaaGreat.Am
namespace Go.Proofs.YtjbdljkhbglnhaaGreat.Am
open Go Sz
def QtH (r:List Int):Int:=if 0<r.length then w64 (gtd 0 r (r.length-1)+1) else 1
def ext (lim:Int) (r:List Int):List (List Int):=(List.range (lim+1-QtH r).toNat).map fun j:Nat=>r++[QtH r+(j:Int)]
def fill (now:List Int) (i:Nat):Nat→List Int
 | 0=>now
 | f+1=>fill (now.set i (w64 (gtd 0 now (i-1)+1))) (i+1) f
end Go.Proofs.YtjbdljkhbglnhaaGreat.Am

