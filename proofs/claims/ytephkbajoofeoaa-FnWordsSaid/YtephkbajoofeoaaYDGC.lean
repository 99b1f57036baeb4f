/- -/
import Derived.Test.YtephkbajoofeoaaYDGA
import Derived.Test.YtephkbajoofeoaaYDG9
set_option linter.all false
namespace Go.Proofs.Ytephkbajoofeoaa.Am
open Go Sz
section
variable {m:QF} {cuts:List Int} (hc:Qw m cuts=true)
include hc
end
end Go.Proofs.Ytephkbajoofeoaa.Am
namespace Go.Proofs.Ytephkbajoofeoaa.Am
open Go Sz
theorem Qhy:∀ (l:List TOp'),(∀ o,o∈l→QQ o=true)→0≤(l.map fun o:TOp'=>o.2.1).sum∧(l.map fun o:TOp'=>o.2.1).sum≤6*l.length
 | [],_=>by simp
 | o::l,h=>by
  have h1:=Jl (h o (List.mem_cons_self ..))
  have h2:=Qhy l (fun y hy=>h y (List.mem_cons_of_mem _ hy))
  have e:((o::l).map fun o:TOp'=>o.2.1).sum=o.2.1+(l.map fun o:TOp'=>o.2.1).sum:=by simp
  rw [e,List.length_cons]
  omega
theorem Jc (c:Qf) (s:Int):0≤QC c s∧QC c s≤54∧0≤(Qs c s).1∧(Qs c s).1≤QC c s∧0≤(Qs c s).2∧(Qs c s).2≤QC c s:=by
 obtain ⟨h1,h2,h3,h4⟩:=Ju c.1 c.2.1 s
 unfold QC Qs
 simp only
 generalize Qd c.1 c.2.1 s=r at h1 h2 h3 h4 ⊢
 by_cases h:r.1<r.2
 ·have hm:=(h4.1 h).1
  simp only [Qw,Bool.and_eq_true] at hm
  have hm:=hm.1
  have h8:=JR hm
  rw [if_pos h,if_neg (by omega)]
  have ha:r.1.toNat<c.1.length:=by omega
  have hb:r.2.toNat-1<c.1.length:=by omega
  have hA:=Jl (Qa7 hm ha)
  have hB:=Jl (Qa7 hm hb)
  have hs:slice c.1 r.1 r.2=gtd dOp c.1 r.1.toNat::(c.1.drop (r.1.toNat+1)).take (r.2.toNat-r.1.toNat-1):=by
   unfold slice
   rw [List.drop_eq_getElem_cons ha,show r.2.toNat-r.1.toNat=(r.2.toNat-r.1.toNat-1)+1 by omega,List.take_succ_cons]
   have:gtd dOp c.1 r.1.toNat=c.1[r.1.toNat]:=QeE (List.getElem?_eq_getElem ha) _
   rw [this];rfl
  rw [hs]
  have hR:=Qhy ((c.1.drop (r.1.toNat+1)).take (r.2.toNat-r.1.toNat-1)) (fun o ho=>Qlw hm o (List.mem_of_mem_drop (List.mem_of_mem_take ho)))
  have hl:((c.1.drop (r.1.toNat+1)).take (r.2.toNat-r.1.toNat-1)).length≤7:=by simp;omega
  simp only [List.map_cons,List.sum_cons]
  rw [Qi (by omega) (by omega)]
  omega
 ·rw [if_neg h,if_pos (by omega)]
  have hs:slice c.1 r.1 r.2=[]:=by unfold slice;rw [show r.2.toNat-r.1.toNat=0 by omega,List.take_zero]
  rw [hs]
  have:w64 (((List.map (fun o:TOp'=>o.2.1) []).sum:Int)+0)=0:=by simp [Qi]
  simp only [this]
  omega
theorem J1 (c:Qf) (s:Int):0≤Qy c s∧Qy c s≤QC c s:=by
 have h:=Jc c s
 unfold Qy
 split <;> omega
theorem Qb9 (c:Qf) (s m:Int):(QA c s m=0∧¬ (m_in s 0 (Qn c-1)=true∧m_in m 1 5=true∧Qn c≤4)) ∨
  ((m_in s 0 (Qn c-1)=true∧m_in m 1 5=true∧Qn c≤4)∧QA c s m=(if c.2.2.1=2 then iMin m (Qn c-s) else m)*Qy c s+iMax (Qs c s).1 (Qs c s).2+if QY c s then QC c s else 0):=by
 have h:=Jc c s
 have hv:=J1 c s
 by_cases hc:(m_in s 0 (Qn c-1)&&m_in m 1 5&&decide (Qn c≤4))=true
 ·right
  have hc':=hc
  simp only [Bool.and_eq_true,decide_eq_true_eq] at hc'
  refine ⟨⟨hc'.1.1,hc'.1.2,hc'.2⟩,?_⟩
  unfold QA
  rw [if_pos hc]
  simp only
  have h1:=QE.1 hc'.1.1
  have h2:=QE.1 hc'.1.2
  have hk:1≤(if c.2.2.1=2 then iMin m (Qn c-s) else m)∧(if c.2.2.1=2 then iMin m (Qn c-s) else m)≤5:=by
   unfold iMin;split <;> (try split) <;> omega
  generalize (if c.2.2.1=2 then iMin m (Qn c-s) else m)=k at hk ⊢
  have hp:0≤k*Qy c s∧k*Qy c s≤5*54:=⟨Int.mul_nonneg (by omega) hv.1,Int.mul_le_mul hk.2 (by omega) hv.1 (by omega)⟩
  generalize k*Qy c s=P at hp ⊢
  have hx:0≤iMax (Qs c s).1 (Qs c s).2∧iMax (Qs c s).1 (Qs c s).2≤54:=by unfold iMax;split <;> omega
  generalize iMax (Qs c s).1 (Qs c s).2=X at hx ⊢
  rw [Qi (x:=P) (by omega) (by omega),Qi (x:=P+X) (by omega) (by omega)]
  have hf:0≤(if QY c s=true then QC c s else 0)∧(if QY c s=true then QC c s else 0)≤54:=by split <;> omega
  generalize (if QY c s=true then QC c s else 0)=F at hf ⊢
  rw [Qi (by omega) (by omega)]
 ·left
  refine ⟨?_,fun h=>hc (by simp [h.1,h.2.1,h.2.2])⟩
  unfold QA
  rw [if_neg hc]
theorem Qe3 (c:Qf) (s m:Int):0≤QA c s m∧(0<QA c s m→Qy c s≤QA c s m):=by
 have h:=Jc c s
 have hv:=J1 c s
 rcases Qb9 c s m with ⟨h0,_⟩ | ⟨⟨h1,h2,h3⟩,h0⟩
 ·rw [h0];exact ⟨Int.le_refl _,fun h=>absurd h (by omega)⟩
 ·rw [h0]
  have h1:=QE.1 h1
  have h2:=QE.1 h2
  have hk:1≤(if c.2.2.1=2 then iMin m (Qn c-s) else m):=by
   unfold iMin;split <;> (try split) <;> omega
  generalize (if c.2.2.1=2 then iMin m (Qn c-s) else m)=k at hk ⊢
  have hp:1*Qy c s≤k*Qy c s:=Int.mul_le_mul_of_nonneg_right hk hv.1
  have hx:0≤iMax (Qs c s).1 (Qs c s).2:=by unfold iMax;split <;> omega
  have hf:0≤(if QY c s=true then QC c s else 0):=by split <;> omega
  generalize k*Qy c s=P at hp ⊢
  omega
theorem QpN (c:Qf) (s m:Int) (hn:QA c s m≠0) (hm:m<5) :
  QA c s m≤QA c s (m+1)∧QA c s (m+1)-QA c s m≤Qy c s∧QA c s m≤m*Qy c s+2*QC c s∧QA c s (m+1)≤1000∧m*Qy c s≤1000∧0≤m*Qy c s∧1≤m:=by
 have h:=Jc c s
 have hv:=J1 c s
 rcases Qb9 c s m with ⟨h0,_⟩ | ⟨⟨h1,h2,h3⟩,h0⟩
 ·exact absurd h0 hn
 rcases Qb9 c s (m+1) with ⟨_,h5⟩ | ⟨⟨_,_,_⟩,h5⟩
 ·have h2:=QE.1 h2
  exact absurd ⟨h1,QE.2 ⟨by omega,by omega⟩,h3⟩ h5
 ·rw [h0,h5]
  have h1:=QE.1 h1
  have h2:=QE.1 h2
  have hk:1≤(if c.2.2.1=2 then iMin m (Qn c-s) else m)∧(if c.2.2.1=2 then iMin m (Qn c-s) else m)≤m ∧
    (if c.2.2.1=2 then iMin m (Qn c-s) else m)≤(if c.2.2.1=2 then iMin (m+1) (Qn c-s) else m+1)∧(if c.2.2.1=2 then iMin (m+1) (Qn c-s) else m+1)≤(if c.2.2.1=2 then iMin m (Qn c-s) else m)+1:=by
   unfold iMin;split <;> (try split) <;> (try split) <;> omega
  generalize (if c.2.2.1=2 then iMin m (Qn c-s) else m)=k at hk ⊢
  generalize (if c.2.2.1=2 then iMin (m+1) (Qn c-s) else m+1)=k' at hk ⊢
  have p1:k*Qy c s≤k'*Qy c s:=Int.mul_le_mul_of_nonneg_right hk.2.2.1 hv.1
  have p2:k'*Qy c s≤(k+1)*Qy c s:=Int.mul_le_mul_of_nonneg_right hk.2.2.2 hv.1
  have p3:k*Qy c s≤m*Qy c s:=Int.mul_le_mul_of_nonneg_right hk.2.1 hv.1
  have p4:m*Qy c s≤5*54:=Int.mul_le_mul (by omega) (by omega) hv.1 (by omega)
  have p5:0≤m*Qy c s:=Int.mul_nonneg (by omega) hv.1
  rw [Int.add_mul,Int.one_mul] at p2
  have hx:0≤iMax (Qs c s).1 (Qs c s).2∧iMax (Qs c s).1 (Qs c s).2≤QC c s:=by unfold iMax;split <;> omega
  have hf:0≤(if QY c s=true then QC c s else 0)∧(if QY c s=true then QC c s else 0)≤QC c s:=by split <;> omega
  generalize k*Qy c s=P at p1 p2 p3 ⊢
  generalize k'*Qy c s=P' at p1 p2 ⊢
  generalize m*Qy c s=P2 at p3 p4 p5 ⊢
  omega
end Go.Proofs.Ytephkbajoofeoaa.Am
namespace Go.Proofs.Ytephkbajoofeoaa.Am
open Go Sz
def Qfq (r:List Int):Int:=if 0<r.length then w64 (gtd 0 r (r.length-1)+1) else 1
def ext (lim:Int) (r:List Int):List (List Int):=(List.range (lim+1-Qfq r).toNat).map fun j:Nat=>r++[Qfq r+(j:Int)]
def fill (now:List Int) (i:Nat):Nat→List Int
 | 0=>now
 | f+1=>fill (now.set i (w64 (gtd 0 now (i-1)+1))) (i+1) f
end Go.Proofs.Ytephkbajoofeoaa.Am

