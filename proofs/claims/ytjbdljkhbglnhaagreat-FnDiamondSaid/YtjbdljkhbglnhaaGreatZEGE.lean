/- -/
import Derived.Test.YtjbdljkhbglnhaaGreatZEGD
set_option linter.all false
namespace Go.Proofs.YtjbdljkhbglnhaaGreat.Am
open Go Sz
end Go.Proofs.YtjbdljkhbglnhaaGreat.Am
namespace Go.Proofs.YtjbdljkhbglnhaaGreat.Am
open Go Sz
theorem QcD {α:Type} (d:α) {a b:List α} (hl:a.length=b.length) (P:Nat→Prop) (hE:a=b→P a.length)
  (hs:∀ k,k<a.length→(gtd d a k=gtd d b k→P (k+1))→(gtd d a k≠gtd d b k→a≠b)→P k):P 0:=by
 refine Y4 a.length (fun k=>(∀ j,j<k→gtd d a j=gtd d b j)→P k) ?_ ?_ (fun j hj=>absurd hj (Nat.not_lt_zero j))
 ·intro h
  refine hE (List.ext_getElem? fun i=>?_)
  by_cases hi:i<a.length
  ·rw [Y2 hi d,Y2 (hl ▸ hi) d,h i hi]
  ·rw [List.getElem?_eq_none (by omega),List.getElem?_eq_none (by omega)]
 ·intro k hk ih h
  refine hs k hk (fun he=>ih fun j hj=>?_) (fun hne hab=>hne (by rw [hab]))
  by_cases hjk:j=k
  ·subst hjk;exact he
  ·exact h j (by omega)
def QdF (a _:List Qd):Prop:=sz a≤2147483648
def Qhz (a _:Qe):Prop:=sz a≤2147483648
def QcT (_:List Int) (_:Int) (t:List Int):Prop:=t.length≤60
end Go.Proofs.YtjbdljkhbglnhaaGreat.Am
namespace Go.Proofs.YtjbdljkhbglnhaaGreat.Am
open Go Sz
section
variable {c:QN} {b:List Qt} (A:Adm c b)
include A
theorem QPF (l:List Int):∃ ks,Ok c b ks∧Jq (Z4 c b) l=Ze c b ks∧left c b ks≤left c b (fun _=>0):=by
 obtain ⟨ks,h1,h2,h3⟩:=Qxh A (l.take 2000) (QG6 A)
 refine ⟨ks,h1,?_,QR9 (fun j=>h3 j)⟩
 unfold Jq;rw [QRn A,h2]
theorem QKN {ks:Nat→Nat} (s:Int):s∈ZM (Ze c b ks)↔(0≤s∧s<(nSt c:Nat))∧Za (Ze c b ks) s=true:=by
 have hl:=Qc5 (c:=c) (b:=b) ks
 unfold ZM
 rw [hl,List.mem_filter,List.mem_map]
 constructor
 ·rintro ⟨⟨k,hk,rfl⟩,h⟩
  have:=List.mem_range.1 hk
  exact ⟨by omega,h⟩
 ·rintro ⟨⟨h1,h2⟩,h⟩
  exact ⟨⟨s.toNat,List.mem_range.2 (by omega),by omega⟩,h⟩
end
end Go.Proofs.YtjbdljkhbglnhaaGreat.Am

