/- -/
import Derived.Test.YtjbdljkhbglnhaaGreatZBGD
set_option linter.all false
namespace Go.Proofs.YtjbdljkhbglnhaaGreat.Am
open Go Sz
end Go.Proofs.YtjbdljkhbglnhaaGreat.Am
namespace Go.Proofs.YtjbdljkhbglnhaaGreat.Am
open Go Sz
def Qc7 (_:List Int) (_:Int) (t:List Int):Prop:=t.length≤60
end Go.Proofs.YtjbdljkhbglnhaaGreat.Am
namespace Go.Proofs.YtjbdljkhbglnhaaGreat.Am
open Go Sz
section
variable {c:Ql} {b:List Qg} (A:Adm c b)
include A
theorem QAR:b.length≤5:=by
 have:=A.batch
 simp only [ZY,Bool.and_eq_true,QS] at this
 omega
end
end Go.Proofs.YtjbdljkhbglnhaaGreat.Am

