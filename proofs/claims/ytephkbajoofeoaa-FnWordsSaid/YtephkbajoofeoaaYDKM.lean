/- -/
import Derived.Test.YtephkbajoofeoaaYDGB
import Derived.Test.YtephkbajoofeoaaYDGC
import Derived.Test.YtephkbajoofeoaaYDG9
set_option linter.all false
namespace Go.Proofs.Ytephkbajoofeoaa.Am
open Go Sz
def YP (c:TCur) (m:QF) (t:List Qk × TCur):Prop:=Qm7 c m t∧(Qu m=true→Qak m t.1=true)
def ZS (c:TCur) (t:Qf × List Qk × TCur):Prop:=Ql4 c t∧QdG t.1 t.2.1=0
theorem Qe8 {v:List Int} {n:Int} (h1:v.length=n.toNat) (h2:Za v=true) (h3:1≤n) (h4:n≤6):ZI v n=true :=
 Qqv.2 ⟨Qnj.2 ⟨by omega,h2⟩,by omega⟩
theorem Qdp {m:QF} (h:Qu m=true):(1≤Q2 m∧Q2 m≤6)∧1≤Zc m∧Zc m≤6:=by
 have hl:=JR h
 have h1:=Jl (Qa7 h (k:=0) (by omega))
 have h2:=Jl (Qa7 h (k:=m.length-1) (by omega))
 unfold Q2 Zc
 rw [if_pos h,if_pos h]
 omega
theorem QiZ (c:Qf) (micro:Int):∀ (l:List Int) (s:Nat),(∀ j:Nat,j<l.length→QA c ((s+j:Nat):Int) micro≤gtd 0 l j∧gtd 0 l j≤100000)→Qbl c micro l (s:Int)=true
 | [],_,_=>rfl
 | n::r,s,h=>by
  have h0:=h 0 (by simp)
  have ih:=QiZ c micro r (s+1) (fun j hj=>by
   have h1:=h (j+1) (by simpa using hj)
   rw [show s+(j+1)=s+1+j by omega] at h1
   exact h1)
  simp only [Qbl,Bool.and_eq_true,QE]
  rw [show (s:Int)+1=((s+1:Nat):Int) by omega]
  exact ⟨h0,ih⟩
theorem QpO (c:Qf) (s m:Int):0≤QA c s m∧QA c s m≤1000:=by
 refine ⟨(Qe3 c s m).1,?_⟩
 have h:=Jc c s
 have hv:=J1 c s
 rcases Qb9 c s m with ⟨h0,_⟩ | ⟨⟨h1,h2,h3⟩,h0⟩
 ·omega
 ·have h1:=QE.1 h1
  have h2:=QE.1 h2
  have hk:0≤(if c.2.2.1=2 then iMin m (Qn c-s) else m)∧(if c.2.2.1=2 then iMin m (Qn c-s) else m)≤5:=by
   unfold iMin
   split
   ·split <;> omega
   ·omega
  generalize (if c.2.2.1=2 then iMin m (Qn c-s) else m)=k at hk h0
  have hmul:k*Qy c s≤5*Qy c s:=Int.mul_le_mul_of_nonneg_right hk.2 hv.1
  have hmax:iMax (Qs c s).1 (Qs c s).2≤54:=by unfold iMax;split <;> omega
  rw [h0]
  split <;> omega
theorem Qne {c:Qf} {b:List Qk} (h1:Qu (Zs c)=true) (h2:Qak (Zs c) b=true) (h3:Qw (Zs c) (Zf c)=true) (h4:(Zf c).length≤3) (h5:1≤cDs c∧cDs c≤2)
  (h6:(QaF c).length=(Zf c).length+1) (h7:(Qcl c).length=(Zf c).length) (h8:∀ x,x∈Qcl c→1≤x∧x≤5) (h9:(Qcc c).length=(Zf c).length+1)
  (h10:∀ j:Nat,j<(Qcc c).length→QA c (j:Int) b.length≤gtd 0 (Qcc c) j∧gtd 0 (Qcc c) j≤100000):Adm c b:=by
 refine ⟨h1,h2,h3,by omega,h5,h6,?_,?_⟩
 ·unfold QdD
  rw [Bool.and_eq_true,beq_iff_eq,List.all_eq_true]
  exact ⟨h7,fun x hx=>QE.2 (h8 x hx)⟩
 ·unfold QcU
  rw [Bool.and_eq_true,beq_iff_eq]
  refine ⟨?_,?_⟩
  ·rw [(QbN (c:=c)).2.2.2 h3]
   have h9:c.2.2.2.2.2.length=c.2.1.length+1:=h9
   omega
  ·refine QiZ c b.length c.2.2.2.2.2 0 (fun j hj=>?_)
   rw [Nat.zero_add]
   exact h10 j hj
section
variable {c:Qf} {b:List Qk} (A:Adm c b)
include A
end
end Go.Proofs.Ytephkbajoofeoaa.Am

