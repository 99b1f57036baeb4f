/- -/
import Derived.Test.YtjbdljkhbglnhaaGreatZIGD
set_option linter.all false
namespace Go.Proofs.YtjbdljkhbglnhaaGreat.Am
open Go Sz
end Go.Proofs.YtjbdljkhbglnhaaGreat.Am
namespace Go.Proofs.YtjbdljkhbglnhaaGreat.Am
open Go Sz
theorem QcM {α:Type} (d:α) {a b:List α} (hl:a.length=b.length) (P:Nat→Prop) (hE:a=b→P a.length)
  (hs:∀ k,k<a.length→(gtd d a k=gtd d b k→P (k+1))→(gtd d a k≠gtd d b k→a≠b)→P k):P 0:=by
 refine JH a.length (fun k=>(∀ j,j<k→gtd d a j=gtd d b j)→P k) ?_ ?_ (fun j hj=>absurd hj (Nat.not_lt_zero j))
 ·intro h
  refine hE (List.ext_getElem? fun i=>?_)
  by_cases hi:i<a.length
  ·rw [YZ hi d,YZ (hl ▸ hi) d,h i hi]
  ·rw [List.getElem?_eq_none (by omega),List.getElem?_eq_none (by omega)]
 ·intro k hk ih h
  refine hs k hk (fun he=>ih fun j hj=>?_) (fun hne hab=>hne (by rw [hab]))
  by_cases hjk:j=k
  ·subst hjk;exact he
  ·exact h j (by omega)
def Qd2 (a _:List Qd):Prop:=sz a≤2147483648
def QdM (a _:Qe):Prop:=sz a≤2147483648
end Go.Proofs.YtjbdljkhbglnhaaGreat.Am
namespace Go.Proofs.YtjbdljkhbglnhaaGreat.Am
open Go Sz
section
variable {c:QM} {b:List Qy} (A:Adm c b)
include A
end
end Go.Proofs.YtjbdljkhbglnhaaGreat.Am

