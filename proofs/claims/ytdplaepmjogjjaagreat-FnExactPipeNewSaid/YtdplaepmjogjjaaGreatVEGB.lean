/- -/
import Derived.Test.YtdplaepmjogjjaaGreatVEGA
set_option linter.all false
namespace Go.Proofs.YtdplaepmjogjjaaGreat.Am
open Go Sz
def bump (ks:Nat→Nat) (s:Nat):Nat→Nat:=fun j=>if j=s then ks j+1 else ks j
section
variable {c:Qf} {b:List Qc} (A:Adm c b)
include A
end
end Go.Proofs.YtdplaepmjogjjaaGreat.Am
namespace Go.Proofs.YtdplaepmjogjjaaGreat.Am
open Go Sz
section
variable {c:Qf} {b:List Qc} (A:Adm c b)
include A
theorem QgO:Qs c=(nSt c:Nat):=by
 have:=(QbR (c:=c)).2.2.2 A.cuts
 rw [this];simp [nSt]
def left (c:Qf) (b:List Qc) (ks:Nat→Nat):Nat:=((List.range (nSt c)).map fun s=>lenP c b s-ks s).sum
end
end Go.Proofs.YtdplaepmjogjjaaGreat.Am
namespace Go.Proofs.YtdplaepmjogjjaaGreat.Am
open Go Sz
section
variable {c:Qf} {b:List Qc} (A:Adm c b)
include A
end
end Go.Proofs.YtdplaepmjogjjaaGreat.Am

