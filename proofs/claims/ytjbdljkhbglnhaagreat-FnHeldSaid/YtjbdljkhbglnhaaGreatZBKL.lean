/- -/
import Derived.Test.YtjbdljkhbglnhaaGreatZBGE
set_option linter.all false
namespace Go.Proofs.YtjbdljkhbglnhaaGreat.Am
open Go Sz
section
variable {c:Ql} {b:List Qg} (A:Adm c b)
include A
theorem QKF:c.2.2.2.1.length=nSt c:=A.redo
end
end Go.Proofs.YtjbdljkhbglnhaaGreat.Am

