/- -/
import Derived.Test.YtephkbajoofeoaaWFGA
set_option linter.all false
namespace Go.Proofs.Ytephkbajoofeoaa.Am
open Go Sz
def bump (ks:Nat→Nat) (s:Nat):Nat→Nat:=fun j=>if j=s then ks j+1 else ks j
section
variable {c:QQ} {b:List Qe} (A:Adm c b)
include A
end
end Go.Proofs.Ytephkbajoofeoaa.Am
namespace Go.Proofs.Ytephkbajoofeoaa.Am
open Go Sz
section
variable {c:QQ} {b:List Qe} (A:Adm c b)
include A
def left (c:QQ) (b:List Qe) (ks:Nat→Nat):Nat:=((List.range (nSt c)).map fun s=>lenP c b s-ks s).sum
end
end Go.Proofs.Ytephkbajoofeoaa.Am
namespace Go.Proofs.Ytephkbajoofeoaa.Am
open Go Sz
section
variable {c:QQ} {b:List Qe} (A:Adm c b)
include A
end
end Go.Proofs.Ytephkbajoofeoaa.Am

