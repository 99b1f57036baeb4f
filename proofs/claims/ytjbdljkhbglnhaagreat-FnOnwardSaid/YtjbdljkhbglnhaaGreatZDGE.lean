/- -/
import Derived.Test.YtjbdljkhbglnhaaGreatZDGD
set_option linter.all false
namespace Go.Proofs.YtjbdljkhbglnhaaGreat.Am
open Go Sz
theorem Qwk {c:QM} {b:List Qr} (A:Adm c b) {ks:Nat→Nat} (V:Ok c b ks):Qco (Q8 c b ks):=by
 intro s hs
 have h:=Qj0 A V
 simp only [Zi,Bool.and_eq_true] at h
 have h1:=Ql0 (Qp2 h.2.2 s hs).1
 obtain ⟨t,ht,rfl⟩:=List.mem_map.1 hs
 have ht:t<nSt c:=List.mem_range.1 ht
 have h2:(QA (stAt c b t (ks t))).length=lenP c b t:=rfl
 have h3:=QCC A ht
 have h4:b.length≤5:=by
  have:=A.batch
  simp only [YY,Bool.and_eq_true,QS] at this
  omega
 show sPc (stAt c b t (ks t))≤_
 omega
end Go.Proofs.YtjbdljkhbglnhaaGreat.Am
namespace Go.Proofs.YtjbdljkhbglnhaaGreat.Am
open Go Sz
theorem QdB {α:Type} (d:α) {a b:List α} (hl:a.length=b.length) (P:Nat→Prop) (hE:a=b→P a.length)
  (hs:∀ k,k<a.length→(gtd d a k=gtd d b k→P (k+1))→(gtd d a k≠gtd d b k→a≠b)→P k):P 0:=by
 refine Jb a.length (fun k=>(∀ j,j<k→gtd d a j=gtd d b j)→P k) ?_ ?_ (fun j hj=>absurd hj (Nat.not_lt_zero j))
 ·intro h
  refine hE (List.ext_getElem? fun i=>?_)
  by_cases hi:i<a.length
  ·rw [Y3 hi d,Y3 (hl ▸ hi) d,h i hi]
  ·rw [List.getElem?_eq_none (by omega),List.getElem?_eq_none (by omega)]
 ·intro k hk ih h
  refine hs k hk (fun he=>ih fun j hj=>?_) (fun hne hab=>hne (by rw [hab]))
  by_cases hjk:j=k
  ·subst hjk;exact he
  ·exact h j (by omega)
def Qeb (a _:List Qd):Prop:=sz a≤2147483648
def Qkh (a _:Qe):Prop:=sz a≤2147483648
def QeI (_:List Int) (_:Int) (t:List Int):Prop:=t.length≤60
def Qba (l:List Int) (x:Int):Bool:=decide (x∈l)
end Go.Proofs.YtjbdljkhbglnhaaGreat.Am
namespace Go.Proofs.YtjbdljkhbglnhaaGreat.Am
open Go Sz
section
variable {c:QM} {b:List Qr} (A:Adm c b)
include A
theorem QUn (l:List Int):∃ ks,Ok c b ks∧JO (YJ c b) l=Q8 c b ks∧left c b ks≤left c b (fun _=>0):=by
 obtain ⟨ks,h1,h2,h3⟩:=Qrl A (l.take 2000) (QYZ A)
 refine ⟨ks,h1,?_,QM9 (fun j=>h3 j)⟩
 unfold JO;rw [QYo A,h2]
theorem Qmn {ks:Nat→Nat} (s:Int):s∈Je (Q8 c b ks)↔(0≤s∧s<(nSt c:Nat))∧Zu (Q8 c b ks) s=true:=by
 have hl:=Qcf (c:=c) (b:=b) ks
 unfold Je
 rw [hl,List.mem_filter,List.mem_map]
 constructor
 ·rintro ⟨⟨k,hk,rfl⟩,h⟩
  have:=List.mem_range.1 hk
  exact ⟨by omega,h⟩
 ·rintro ⟨⟨h1,h2⟩,h⟩
  exact ⟨⟨s.toNat,List.mem_range.2 (by omega),by omega⟩,h⟩
theorem QOn {ks:Nat→Nat} (V:Ok c b ks):(Je (Q8 c b ks)).length=0↔left c b ks=0:=by
 constructor
 ·intro h
  have h:Je (Q8 c b ks)=[]:=List.length_eq_zero_iff.1 h
  by_cases h0:left c b ks=0
  ·exact h0
  ·obtain ⟨s,hs,E⟩:=QRb A V h0
   have:(s:Int)∈Je (Q8 c b ks):=(Qmn A (s:Int)).2 ⟨by omega,(Qei A V hs).2 E⟩
   rw [h] at this;cases this
 ·intro h
  have hz:=QwE.1 h
  rw [List.length_eq_zero_iff]
  refine List.eq_nil_iff_forall_not_mem.2 fun s hs=>?_
  have hs:=(Qmn A s).1 hs
  obtain ⟨t,rfl⟩:=Int.eq_ofNat_of_zero_le hs.1.1
  have E:=(Qei A V (by omega)).1 hs.2
  have:=hz t (by omega)
  have:=E.1
  omega
end
end Go.Proofs.YtjbdljkhbglnhaaGreat.Am

