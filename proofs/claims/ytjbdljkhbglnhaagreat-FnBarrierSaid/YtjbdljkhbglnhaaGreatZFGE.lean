/- -/
import Derived.Test.YtjbdljkhbglnhaaGreatZFGD
set_option linter.all false
namespace Go.Proofs.YtjbdljkhbglnhaaGreat.Am
open Go Sz
end Go.Proofs.YtjbdljkhbglnhaaGreat.Am
namespace Go.Proofs.YtjbdljkhbglnhaaGreat.Am
open Go Sz
theorem QdM {α:Type} (d:α) {a b:List α} (hl:a.length=b.length) (P:Nat→Prop) (hE:a=b→P a.length)
  (hs:∀ k,k<a.length→(gtd d a k=gtd d b k→P (k+1))→(gtd d a k≠gtd d b k→a≠b)→P k):P 0:=by
 refine Y7 a.length (fun k=>(∀ j,j<k→gtd d a j=gtd d b j)→P k) ?_ ?_ (fun j hj=>absurd hj (Nat.not_lt_zero j))
 ·intro h
  refine hE (List.ext_getElem? fun i=>?_)
  by_cases hi:i<a.length
  ·rw [Y4 hi d,Y4 (hl ▸ hi) d,h i hi]
  ·rw [List.getElem?_eq_none (by omega),List.getElem?_eq_none (by omega)]
 ·intro k hk ih h
  refine hs k hk (fun he=>ih fun j hj=>?_) (fun hne hab=>hne (by rw [hab]))
  by_cases hjk:j=k
  ·subst hjk;exact he
  ·exact h j (by omega)
def Qeb (a _:List Qd):Prop:=sz a≤2147483648
def QiW (a _:Qe):Prop:=sz a≤2147483648
def Qdl (_:List Int) (_:Int) (t:List Int):Prop:=t.length≤60
end Go.Proofs.YtjbdljkhbglnhaaGreat.Am
namespace Go.Proofs.YtjbdljkhbglnhaaGreat.Am
open Go Sz
section
variable {c:QC} {b:List Qp} (A:Adm c b)
include A
theorem QRD (n:Int):∃ ks,Ok c b ks∧ZP (Zy c b) n=Zv c b ks:=by
 have hl:=Qci (c:=c) (b:=b) (fun _=>0)
 have hn:=Qdg A
 obtain ⟨ks,h1,h2,_⟩:=Qmv A (min n.toNat 2000) 0 (Q1K A)
 refine ⟨ks,h1,?_⟩
 unfold ZP
 rw [QPW A,if_pos (by rw [hl];omega),h2]
theorem QK6:b.length≤5:=by
 have:=A.batch
 simp only [Yj,Bool.and_eq_true,QV] at this
 omega
end
end Go.Proofs.YtjbdljkhbglnhaaGreat.Am

