/- -/
import Derived.Test.YtjbdljkhbglnhaaGreatZJGA
set_option linter.all false
namespace Go.Proofs.YtjbdljkhbglnhaaGreat.Am
open Go Sz
def bump (ks:Nat→Nat) (s:Nat):Nat→Nat:=fun j=>if j=s then ks j+1 else ks j
section
variable {c:Zy} {b:List ZY} (A:Adm c b)
include A
end
end Go.Proofs.YtjbdljkhbglnhaaGreat.Am
namespace Go.Proofs.YtjbdljkhbglnhaaGreat.Am
open Go Sz
def Qu6:Bool:=[1,2].all fun ds:Int=>[1,2,3,4].all fun n:Int=>[0,1,2,3].all fun s:Int=>[1,2,3,4,5].all fun M:Int=>[true,false].all fun rd =>
 decide (((ZR ds n s M rd).length:Int)≤7*M+1)
set_option maxRecDepth 100000 in
theorem QIU:Qu6=true:=by kernel_rfl
theorem Qvb {ds n s M:Int} (rd:Bool) (h1:1≤ds) (h2:ds≤2) (h3:n≤4) (h4:0≤s) (h5:s<n) (h6:1≤M) (h7:M≤5):((ZR ds n s M rd).length:Int)≤7*M+1:=by
 have h:=QIU
 unfold Qu6 at h
 rw [List.all_eq_true] at h
 have h:=h ds (by have:ds=1∨ds=2:=(by omega);rcases this with rfl | rfl <;> simp)
 rw [List.all_eq_true] at h
 have h:=h n (by have:n=1∨n=2∨n=3∨n=4:=(by omega);rcases this with rfl | rfl | rfl | rfl <;> simp)
 rw [List.all_eq_true] at h
 have h:=h s (by have:s=0∨s=1∨s=2∨s=3:=(by omega);rcases this with rfl | rfl | rfl | rfl <;> simp)
 rw [List.all_eq_true] at h
 have h:=h M (by have:M=1∨M=2∨M=3∨M=4∨M=5:=(by omega);rcases this with rfl | rfl | rfl | rfl | rfl <;> simp)
 rw [List.all_eq_true] at h
 have h:=h rd (by cases rd <;> simp)
 simpa using h
section
variable {c:Zy} {b:List ZY} (A:Adm c b)
include A
def left (c:Zy) (b:List ZY) (ks:Nat→Nat):Nat:=((List.range (nSt c)).map fun s=>lenP c b s-ks s).sum
end
end Go.Proofs.YtjbdljkhbglnhaaGreat.Am
namespace Go.Proofs.YtjbdljkhbglnhaaGreat.Am
open Go Sz
theorem Qp3:∀ {l:List TOp'} {i o:Int} {x:List Int},ZX i l o→Qf x i=true→((Qp l x).1.map fun r=>(r.length:Int)).sum=(l.map fun a=>a.2.1).sum+o
 | [],i,o,x,h,hx=>by
  have:=(Yd.1 hx).2
  have h':i=o:=h
  simp [Qp];omega
 | a::r,i,o,x,h,hx=>by
  obtain ⟨h1,h2,h3⟩:=h
  have hx':=(Yd.1 hx).2
  have:=Qp3 h3 (Qd7 h1 (by rw [h2];exact hx))
  rw [Qp]
  simp only [List.map_cons,List.sum_cons,this]
  omega
theorem Qt5:∀ {l:List TOp'} {i o:Int},ZX i l o→0≤(l.map fun a=>a.2.1).sum∧(l.map fun a=>a.2.1).sum≤6*l.length
 | [],i,o,h=>by simp
 | a::r,i,o,h=>by
  have:=JT h.1
  have:=Qt5 h.2.2
  simp only [List.map_cons,List.sum_cons,List.length_cons];omega
section
variable {c:Zy} {b:List ZY} (A:Adm c b)
include A
end
end Go.Proofs.YtjbdljkhbglnhaaGreat.Am

