/- -/
import Derived.Test.YtjbdljkhbglnhaaGreatZHGD
set_option linter.all false
namespace Go.Proofs.YtjbdljkhbglnhaaGreat.Am
open Go Sz
theorem QPo {c:Ql} {b:List Qd} (A:Adm c b) {ks:Nat→Nat} (V:Ok c b ks):Qnc (Q6 c b ks):=by
 intro s hs
 have h:=Qxf A V
 simp only [ZZ,Bool.and_eq_true] at h
 have h1:=QrU (Qly h.2.2 s hs).1
 obtain ⟨t,ht,rfl⟩:=List.mem_map.1 hs
 have ht:t<nSt c:=List.mem_range.1 ht
 have h2:(QG (stAt c b t (ks t))).length=lenP c b t:=rfl
 have h3:=Qvw A ht
 have h4:b.length≤5:=by
  have:=A.batch
  simp only [ZC,Bool.and_eq_true,QJ] at this
  omega
 show sPc (stAt c b t (ks t))≤_
 omega
end Go.Proofs.YtjbdljkhbglnhaaGreat.Am
namespace Go.Proofs.YtjbdljkhbglnhaaGreat.Am
open Go Sz
def QcI (_:List Int) (_:Int) (t:List Int):Prop:=t.length≤1000
end Go.Proofs.YtjbdljkhbglnhaaGreat.Am
namespace Go.Proofs.YtjbdljkhbglnhaaGreat.Am
open Go Sz
section
variable {c:Ql} {b:List Qd} (A:Adm c b)
include A
end
end Go.Proofs.YtjbdljkhbglnhaaGreat.Am

