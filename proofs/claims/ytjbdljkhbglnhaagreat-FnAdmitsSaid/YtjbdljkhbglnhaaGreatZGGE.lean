/- -/
import Derived.Test.YtjbdljkhbglnhaaGreatZGGD
set_option linter.all false
namespace Go.Proofs.YtjbdljkhbglnhaaGreat.Am
open Go Sz
theorem QK7 {c:Qh} {b:List Qd} (A:Adm c b) {ks:Nat→Nat} (V:Ok c b ks):QjP (Q8 c b ks):=by
 intro s hs
 have h:=Qnw A V
 simp only [Zd,Bool.and_eq_true] at h
 have h1:=QyG (Qm4 h.2.2 s hs).1
 obtain ⟨t,ht,rfl⟩:=List.mem_map.1 hs
 have ht:t<nSt c:=List.mem_range.1 ht
 have h2:(QH (stAt c b t (ks t))).length=lenP c b t:=rfl
 have h3:=QxV A ht
 have h4:b.length≤5:=by
  have:=A.batch
  simp only [ZM,Bool.and_eq_true,QL] at this
  omega
 show sPc (stAt c b t (ks t))≤_
 omega
end Go.Proofs.YtjbdljkhbglnhaaGreat.Am
namespace Go.Proofs.YtjbdljkhbglnhaaGreat.Am
open Go Sz
end Go.Proofs.YtjbdljkhbglnhaaGreat.Am
namespace Go.Proofs.YtjbdljkhbglnhaaGreat.Am
open Go Sz
theorem QOl {c:Qh} {b:List Qd} (h:¬ Q7 c b=0):Zi c b=Qo6:=by unfold Zi;rw [if_neg h]
section
variable {c:Qh} {b:List Qd} (A:Adm c b)
include A
end
end Go.Proofs.YtjbdljkhbglnhaaGreat.Am

