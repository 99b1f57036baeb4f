/- -/
import Derived.Test.YtdplaepmjogjjaaGreatVDGA
import Derived.Test.YtdplaepmjogjjaaGreatVDG8
set_option linter.all false
namespace Go.Proofs.YtdplaepmjogjjaaGreat.Am
open Go Sz
section
variable {m:Zg} {cuts:List Int} (hc:Qa2 m cuts=true)
include hc
end
end Go.Proofs.YtdplaepmjogjjaaGreat.Am
namespace Go.Proofs.YtdplaepmjogjjaaGreat.Am
open Go Sz
end Go.Proofs.YtdplaepmjogjjaaGreat.Am
namespace Go.Proofs.YtdplaepmjogjjaaGreat.Am
open Go Sz
def QsE (r:List Int):Int:=if 0<r.length then w64 (gtd 0 r (r.length-1)+1) else 1
def ext (lim:Int) (r:List Int):List (List Int):=(List.range (lim+1-QsE r).toNat).map fun j:Nat=>r++[QsE r+(j:Int)]
def fill (now:List Int) (i:Nat):Nat→List Int
 | 0=>now
 | f+1=>fill (now.set i (w64 (gtd 0 now (i-1)+1))) (i+1) f
end Go.Proofs.YtdplaepmjogjjaaGreat.Am

