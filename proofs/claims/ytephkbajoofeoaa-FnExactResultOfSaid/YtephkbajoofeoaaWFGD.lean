/- -/
import Derived.Test.YtephkbajoofeoaaWFGB
import Derived.Test.YtephkbajoofeoaaWFGC
set_option linter.all false
namespace Go.Proofs.Ytephkbajoofeoaa.Am
open Go Sz
def Qal (p:Qs):Prop:=sz p≤2147483648∧Ye p
theorem Qfi (s:Qd):sz s=sz (Yh s)+sz (sOps s)+sz (Yq s)+sz (Yc s)+sz (sX s)+sz (sY s)+sz (sG s)+sz (sD s)+sz (Zc s):=by
 simp only [Qw,Qy,QD];((try simp only [sPc,Yh,sOps,YK,YX,Yq,Yc,sX,sY,sG,sD,Zc,Q1,sSat,Yw,Q2,Yv,Z5] at *);omega)
theorem QeQ (p:Qs):sz p=sz (Yw p)+sz (Q2 p)+sz (Yv p)+sz (Z5 p):=by
 simp only [Qw];((try simp only [sPc,Yh,sOps,YK,YX,Yq,Yc,sX,sY,sG,sD,Zc,Q1,sSat,Yw,Q2,Yv,Z5] at *);omega)
end Go.Proofs.Ytephkbajoofeoaa.Am
namespace Go.Proofs.Ytephkbajoofeoaa.Am
open Go Sz
end Go.Proofs.Ytephkbajoofeoaa.Am
namespace Go.Proofs.Ytephkbajoofeoaa.Am
open Go Sz
end Go.Proofs.Ytephkbajoofeoaa.Am

