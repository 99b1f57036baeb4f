/- -/
import Derived.Test.YtdplaepmjogjjaaGreatVDGA
set_option linter.all false
namespace Go.Proofs.YtdplaepmjogjjaaGreat.Am
open Go Sz
def bump (ks:Nat→Nat) (s:Nat):Nat→Nat:=fun j=>if j=s then ks j+1 else ks j
section
variable {c:Zo} {b:List ZG} (A:Adm c b)
include A
end
end Go.Proofs.YtdplaepmjogjjaaGreat.Am
namespace Go.Proofs.YtdplaepmjogjjaaGreat.Am
open Go Sz
section
variable {c:Zo} {b:List ZG} (A:Adm c b)
include A
def left (c:Zo) (b:List ZG) (ks:Nat→Nat):Nat:=((List.range (nSt c)).map fun s=>lenP c b s-ks s).sum
end
end Go.Proofs.YtdplaepmjogjjaaGreat.Am
namespace Go.Proofs.YtdplaepmjogjjaaGreat.Am
open Go Sz
section
variable {c:Zo} {b:List ZG} (A:Adm c b)
include A
end
end Go.Proofs.YtdplaepmjogjjaaGreat.Am

