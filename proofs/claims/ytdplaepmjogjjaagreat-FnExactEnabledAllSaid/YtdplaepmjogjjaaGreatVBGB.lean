/- -/
import Derived.Test.YtdplaepmjogjjaaGreatVBGA
set_option linter.all false
namespace Go.Proofs.YtdplaepmjogjjaaGreat.Am
open Go Sz
def bump (ks:Nat→Nat) (s:Nat):Nat→Nat:=fun j=>if j=s then ks j+1 else ks j
section
variable {c:QW} {b:List Qh} (A:Adm c b)
include A
end
end Go.Proofs.YtdplaepmjogjjaaGreat.Am
namespace Go.Proofs.YtdplaepmjogjjaaGreat.Am
open Go Sz
section
variable {c:QW} {b:List Qh} (A:Adm c b)
include A
def left (c:QW) (b:List Qh) (ks:Nat→Nat):Nat:=((List.range (nSt c)).map fun s=>lenP c b s-ks s).sum
end
end Go.Proofs.YtdplaepmjogjjaaGreat.Am
namespace Go.Proofs.YtdplaepmjogjjaaGreat.Am
open Go Sz
section
variable {c:QW} {b:List Qh} (A:Adm c b)
include A
end
end Go.Proofs.YtdplaepmjogjjaaGreat.Am

