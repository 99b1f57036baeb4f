/- -/
import Derived.Test.YtephkbajoofeoaaWCGB
import Derived.Test.YtephkbajoofeoaaWCGC
set_option linter.all false
namespace Go.Proofs.Ytephkbajoofeoaa.Am
open Go Sz
theorem QfI (p:Qt):sz p=sz (Qhm p)+sz (Qcx p)+sz (Qm1 p)+sz (Qmy p):=by
 simp only [Qx];((try simp only [sPc,Qw3,sOps,Qus,Qow,Qbm,Qsl,sX,sY,sG,sD,QsO,QoQ,sSat,Qhm,Qcx,Qm1,Qmy] at *);omega)
end Go.Proofs.Ytephkbajoofeoaa.Am
namespace Go.Proofs.Ytephkbajoofeoaa.Am
open Go Sz
end Go.Proofs.Ytephkbajoofeoaa.Am
namespace Go.Proofs.Ytephkbajoofeoaa.Am
open Go Sz
end Go.Proofs.Ytephkbajoofeoaa.Am

