/- -/
import Derived.Test.YtjbdljkhbglnhaaGreatZJGD
import Derived.Test.YtjbdljkhbglnhaaGreatZJGC
import Derived.Test.YtjbdljkhbglnhaaGreatZJG9
set_option linter.all false
namespace Go.Proofs.YtjbdljkhbglnhaaGreat.Am
open Go Sz
theorem Qmd {m:Q6} (h:QC m=true):(1≤QV m∧QV m≤6)∧1≤QP m∧QP m≤6:=by
 have hl:=Zw h
 have h1:=JT (Qeu h (k:=0) (by omega))
 have h2:=JT (Qeu h (k:=m.length-1) (by omega))
 unfold QV QP
 rw [if_pos h,if_pos h]
 omega
section
variable {c:Zy} {b:List ZY} (A:Adm c b)
include A
end
end Go.Proofs.YtjbdljkhbglnhaaGreat.Am

