/- -/
import Derived.Test.YtdplaepmjogjjaaGreatVEGA
import Derived.Test.YtdplaepmjogjjaaGreatVEG9
set_option linter.all false
namespace Go.Proofs.YtdplaepmjogjjaaGreat.Am
open Go Sz
section
variable {m:QN} {cuts:List Int} (hc:QE m cuts=true)
include hc
end
end Go.Proofs.YtdplaepmjogjjaaGreat.Am
namespace Go.Proofs.YtdplaepmjogjjaaGreat.Am
open Go Sz
end Go.Proofs.YtdplaepmjogjjaaGreat.Am
namespace Go.Proofs.YtdplaepmjogjjaaGreat.Am
open Go Sz
def Qs9 (r:List Int):Int:=if 0<r.length then w64 (gtd 0 r (r.length-1)+1) else 1
def ext (lim:Int) (r:List Int):List (List Int):=(List.range (lim+1-Qs9 r).toNat).map fun j:Nat=>r++[Qs9 r+(j:Int)]
def fill (now:List Int) (i:Nat):Nat→List Int
 | 0=>now
 | f+1=>fill (now.set i (w64 (gtd 0 now (i-1)+1))) (i+1) f
end Go.Proofs.YtdplaepmjogjjaaGreat.Am

