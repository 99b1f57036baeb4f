/- -/
import Derived.Test.YtjbdljkhbglnhaaGreatZDGE
set_option linter.all false
namespace Go.Proofs.YtjbdljkhbglnhaaGreat.Am
open Go Sz
section
variable {c:QM} {b:List Qr} (A:Adm c b)
include A
theorem QK8 {ks:Nat→Nat} {s:Nat} (hs:s<nSt c):Qba (Je (Q8 c b ks)) (s:Int)=Zu (Q8 c b ks) (s:Int):=by
 unfold Qba
 rw [Bool.eq_iff_iff,decide_eq_true_iff,Qmn A]
 exact ⟨fun h=>h.2,fun h=>⟨⟨by omega,by omega⟩,h⟩⟩
end
end Go.Proofs.YtjbdljkhbglnhaaGreat.Am

