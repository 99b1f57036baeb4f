/- -/
import Derived.Test.YtdplaepmjogjjaaGreatVBGB
import Derived.Test.YtdplaepmjogjjaaGreatVBGC
set_option linter.all false
namespace Go.Proofs.YtdplaepmjogjjaaGreat.Am
open Go Sz
theorem Qgh (p:Qp):sz p=sz (Qq3 p)+sz (Qb9 p)+sz (Qof p)+sz (Qi6 p):=by
 simp only [QD];((try simp only [sPc,QyD,sOps,Qv2,QBu,QzQ,QyR,sX,sY,sG,sD,QCO,QFg,sSat,Qq3,Qb9,Qof,Qi6] at *);omega)
end Go.Proofs.YtdplaepmjogjjaaGreat.Am
namespace Go.Proofs.YtdplaepmjogjjaaGreat.Am
open Go Sz
end Go.Proofs.YtdplaepmjogjjaaGreat.Am
namespace Go.Proofs.YtdplaepmjogjjaaGreat.Am
open Go Sz
end Go.Proofs.YtdplaepmjogjjaaGreat.Am

