/- -/
import Derived.Test.YtdplaepmjogjjaaGreatVCGA
set_option linter.all false
namespace Go.Proofs.YtdplaepmjogjjaaGreat.Am
open Go Sz
def bump (ks:Nat→Nat) (s:Nat):Nat→Nat:=fun j=>if j=s then ks j+1 else ks j
section
variable {c:Zb} {b:List Zw} (A:Adm c b)
include A
end
end Go.Proofs.YtdplaepmjogjjaaGreat.Am
namespace Go.Proofs.YtdplaepmjogjjaaGreat.Am
open Go Sz
section
variable {c:Zb} {b:List Zw} (A:Adm c b)
include A
def left (c:Zb) (b:List Zw) (ks:Nat→Nat):Nat:=((List.range (nSt c)).map fun s=>lenP c b s-ks s).sum
end
end Go.Proofs.YtdplaepmjogjjaaGreat.Am
namespace Go.Proofs.YtdplaepmjogjjaaGreat.Am
open Go Sz
section
variable {c:Zb} {b:List Zw} (A:Adm c b)
include A
end
end Go.Proofs.YtdplaepmjogjjaaGreat.Am

