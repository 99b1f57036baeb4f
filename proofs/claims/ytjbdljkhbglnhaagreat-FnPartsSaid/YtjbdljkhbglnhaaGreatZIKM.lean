/- -/
import Derived.Test.YtjbdljkhbglnhaaGreatZIKL
import Derived.Test.YtjbdljkhbglnhaaGreatZIGC
import Derived.Test.YtjbdljkhbglnhaaGreatZIG9
set_option linter.all false
namespace Go.Proofs.YtjbdljkhbglnhaaGreat.Am
open Go Sz
def QcQ (c:TCur) (m:Zf) (t:List Qy × TCur):Prop:=QQA c m t∧(QT m=true→YL m t.1=true)
def QaK (c:TCur) (t:QM × List Qy × TCur):Prop:=QEQ c t∧Yd t.1 t.2.1=0
theorem QzZ {v:List Int} {n:Int} (h1:v.length=n.toNat) (h2:Zz v=true) (h3:1≤n) (h4:n≤6):Qr v n=true :=
 YQ.2 ⟨ZZ.2 ⟨by omega,h2⟩,by omega⟩
theorem Qp7 {m:Zf} (h:QT m=true):(1≤Q6 m∧Q6 m≤6)∧1≤Q5 m∧Q5 m≤6:=by
 have hl:=Ym h
 have h1:=Qbc (Qgb h (k:=0) (by omega))
 have h2:=Qbc (Qgb h (k:=m.length-1) (by omega))
 unfold Q6 Q5
 rw [if_pos h,if_pos h]
 omega
theorem QxW (c:QM) (micro:Int):∀ (l:List Int) (s:Nat),(∀ j:Nat,j<l.length→Yp c ((s+j:Nat):Int) micro≤gtd 0 l j∧gtd 0 l j≤100000)→QbM c micro l (s:Int)=true
 | [],_,_=>rfl
 | n::r,s,h=>by
  have h0:=h 0 (by simp)
  have ih:=QxW c micro r (s+1) (fun j hj=>by
   have h1:=h (j+1) (by simpa using hj)
   rw [show s+(j+1)=s+1+j by omega] at h1
   exact h1)
  simp only [QbM,Bool.and_eq_true,QP]
  rw [show (s:Int)+1=((s+1:Nat):Int) by omega]
  exact ⟨h0,ih⟩
theorem QXx (c:QM) (s m:Int):0≤Yp c s m∧Yp c s m≤1000:=by
 refine ⟨(QUb c s m).1,?_⟩
 have h:=Qjf c s
 have hv:=Qp3 c s
 rcases QxN c s m with ⟨h0,_⟩ | ⟨⟨h1,h2,h3⟩,h0⟩
 ·omega
 ·have h1:=QP.1 h1
  have h2:=QP.1 h2
  have hk:0≤(if c.2.2.1=2 then iMin m (QZ c-s) else m)∧(if c.2.2.1=2 then iMin m (QZ c-s) else m)≤5:=by
   unfold iMin
   split
   ·split <;> omega
   ·omega
  generalize (if c.2.2.1=2 then iMin m (QZ c-s) else m)=k at hk h0
  have hmul:k*YR c s≤5*YR c s:=Int.mul_le_mul_of_nonneg_right hk.2 hv.1
  have hmax:iMax (Yo c s).1 (Yo c s).2≤54:=by unfold iMax;split <;> omega
  rw [h0]
  split <;> omega
theorem QOH {c:QM} {b:List Qy} (h1:QT (ZU c)=true) (h2:YL (ZU c) b=true) (h3:Zy (ZU c) (Zv c)=true) (h4:(Zv c).length≤3) (h5:1≤cDs c∧cDs c≤2)
  (h6:(J5 c).length=(Zv c).length+1) (h7:(JK c).length=(Zv c).length) (h8:∀ x,x∈JK c→1≤x∧x≤5) (h9:(QiH c).length=(Zv c).length+1)
  (h10:∀ j:Nat,j<(QiH c).length→Yp c (j:Int) b.length≤gtd 0 (QiH c) j∧gtd 0 (QiH c) j≤100000):Adm c b:=by
 refine ⟨h1,h2,h3,by omega,h5,h6,?_,?_⟩
 ·unfold Qaj
  rw [Bool.and_eq_true,beq_iff_eq,List.all_eq_true]
  exact ⟨h7,fun x hx=>QP.2 (h8 x hx)⟩
 ·unfold Qbn
  rw [Bool.and_eq_true,beq_iff_eq]
  refine ⟨?_,?_⟩
  ·rw [(QdP (c:=c)).2.2.2 h3]
   have h9:c.2.2.2.2.2.length=c.2.1.length+1:=h9
   omega
  ·refine QxW c b.length c.2.2.2.2.2 0 (fun j hj=>?_)
   rw [Nat.zero_add]
   exact h10 j hj
section
variable {c:QM} {b:List Qy} (A:Adm c b)
include A
end
end Go.Proofs.YtjbdljkhbglnhaaGreat.Am

