/- -/
import Derived.Test.YtjbdljkhbglnhaaGreatZHKL
import Derived.Test.YtjbdljkhbglnhaaGreatZHGC
import Derived.Test.YtjbdljkhbglnhaaGreatZHG9
set_option linter.all false
namespace Go.Proofs.YtjbdljkhbglnhaaGreat.Am
open Go Sz
def QcY (c:TCur) (m:QU) (t:List Qd × TCur):Prop:=QOg c m t∧(Qw m=true→ZC m t.1=true)
def QaE (c:TCur) (t:Ql × List Qd × TCur):Prop:=QCd c t∧Zj t.1 t.2.1=0
theorem Qxo {v:List Int} {n:Int} (h1:v.length=n.toNat) (h2:Zu v=true) (h3:1≤n) (h4:n≤6):Qs v n=true :=
 YA.2 ⟨YE.2 ⟨by omega,h2⟩,by omega⟩
theorem Qn0 {m:QU} (h:Qw m=true):(1≤QX m∧QX m≤6)∧1≤Q1 m∧Q1 m≤6:=by
 have hl:=Yx h
 have h1:=Qad (Qel h (k:=0) (by omega))
 have h2:=Qad (Qel h (k:=m.length-1) (by omega))
 unfold QX Q1
 rw [if_pos h,if_pos h]
 omega
theorem QxU (c:Ql) (micro:Int):∀ (l:List Int) (s:Nat),(∀ j:Nat,j<l.length→Zy c ((s+j:Nat):Int) micro≤gtd 0 l j∧gtd 0 l j≤100000)→J1 c micro l (s:Int)=true
 | [],_,_=>rfl
 | n::r,s,h=>by
  have h0:=h 0 (by simp)
  have ih:=QxU c micro r (s+1) (fun j hj=>by
   have h1:=h (j+1) (by simpa using hj)
   rw [show s+(j+1)=s+1+j by omega] at h1
   exact h1)
  simp only [J1,Bool.and_eq_true,QJ]
  rw [show (s:Int)+1=((s+1:Nat):Int) by omega]
  exact ⟨h0,ih⟩
theorem QoP (c:Ql) (s m:Int):0≤Zy c s m∧Zy c s m≤1000:=by
 refine ⟨(QOs c s m).1,?_⟩
 have h:=QhX c s
 have hv:=Qnm c s
 rcases Qyi c s m with ⟨h0,_⟩ | ⟨⟨h1,h2,h3⟩,h0⟩
 ·omega
 ·have h1:=QJ.1 h1
  have h2:=QJ.1 h2
  have hk:0≤(if c.2.2.1=2 then iMin m (QH c-s) else m)∧(if c.2.2.1=2 then iMin m (QH c-s) else m)≤5:=by
   unfold iMin
   split
   ·split <;> omega
   ·omega
  generalize (if c.2.2.1=2 then iMin m (QH c-s) else m)=k at hk h0
  have hmul:k*ZX c s≤5*ZX c s:=Int.mul_le_mul_of_nonneg_right hk.2 hv.1
  have hmax:iMax (Zm c s).1 (Zm c s).2≤54:=by unfold iMax;split <;> omega
  rw [h0]
  split <;> omega
theorem QqB {c:Ql} {b:List Qd} (h1:Qw (QV c)=true) (h2:ZC (QV c) b=true) (h3:Q0 (QV c) (Q3 c)=true) (h4:(Q3 c).length≤3) (h5:1≤cDs c∧cDs c≤2)
  (h6:(JW c).length=(Q3 c).length+1) (h7:(Jr c).length=(Q3 c).length) (h8:∀ x,x∈Jr c→1≤x∧x≤5) (h9:(Qgf c).length=(Q3 c).length+1)
  (h10:∀ j:Nat,j<(Qgf c).length→Zy c (j:Int) b.length≤gtd 0 (Qgf c) j∧gtd 0 (Qgf c) j≤100000):Adm c b:=by
 refine ⟨h1,h2,h3,by omega,h5,h6,?_,?_⟩
 ·unfold Yp
  rw [Bool.and_eq_true,beq_iff_eq,List.all_eq_true]
  exact ⟨h7,fun x hx=>QJ.2 (h8 x hx)⟩
 ·unfold YG
  rw [Bool.and_eq_true,beq_iff_eq]
  refine ⟨?_,?_⟩
  ·rw [(QbC (c:=c)).2.2.2 h3]
   have h9:c.2.2.2.2.2.length=c.2.1.length+1:=h9
   omega
  ·refine QxU c b.length c.2.2.2.2.2 0 (fun j hj=>?_)
   rw [Nat.zero_add]
   exact h10 j hj
theorem QyY {m:QU}:∀ (b:List Qd) (g:QZ),(∀ p,p∈b→Yn m p=true)→(g.1.length=m.length∧ZP m g.1=true)→(QeO m b g).1.length=m.length
 | [],g,_,hg=>hg.1
 | p::r,g,hb,hg=>QyY r _ (fun q hq=>hb q (List.mem_cons_of_mem _ hq)) (QA3 hg (QMw (hb p List.mem_cons_self)))
theorem QPW {m:QU} {b:List Qd} (h:ZC m b=true):(Qa1 m b).1.length=m.length:=by
 unfold Qa1
 rw [if_pos h]
 simp only [ZC,Bool.and_eq_true,List.all_eq_true] at h
 exact QyY b _ h.2 (QtO h.1.1)
theorem QOy {m:QU} {k:Int} (hm:Qw m=true) (h1:1≤k) (h2:k≤m.length):Q0 m (Yj m k).1=true∧((Yj m k).1.length:Int)=k-1:=by
 have hl:=Yx hm
 obtain ⟨pre,post,e,_,_⟩:=QCC (m:=m) (k:=k) (by rw [hm,Bool.true_and];exact QJ.2 ⟨h1,h2⟩)
 have hmem:(Yj m k).1∈Q2 m.length k:=by rw [e];simp
 have h:=(QhE (n:=m.length) (k:=k) (by omega) h1 h2).2.2 _ hmem
 refine ⟨?_,h.2⟩
 unfold Q0
 rw [hm,Bool.true_and]
 exact h.1
section
variable {c:Ql} {b:List Qd} (A:Adm c b)
include A
end
end Go.Proofs.YtjbdljkhbglnhaaGreat.Am

