/- -/
import Derived.Test.YtephkbajoofeoaaWEGB
import Derived.Test.YtephkbajoofeoaaWEGC
set_option linter.all false
namespace Go.Proofs.Ytephkbajoofeoaa.Am
open Go Sz
def JT (ops:QC) (plan:List TIns) (_ _:Bool):Prop:=sz ops≤2147483648∧plan.length≤2147483648
theorem Qs2 (s:Qq):sz s=sz (Qeh s)+sz (sOps s)+sz (Qe0 s)+sz (Qdu s)+sz (sX s)+sz (sY s)+sz (sG s)+sz (sD s)+sz (QdF s):=by
 simp only [Zk,Zi,YB];((try simp only [sPc,Qeh,sOps,Qrr,Qqu,Qe0,Qdu,sX,sY,sG,sD,QdF,Qnw,sSat,Qth,Qp5,Qnn,QoT] at *);omega)
theorem QhU (m:QC):(Qy m).2=(0,false):=by unfold Qy;split <;> rfl
end Go.Proofs.Ytephkbajoofeoaa.Am
namespace Go.Proofs.Ytephkbajoofeoaa.Am
open Go Sz
end Go.Proofs.Ytephkbajoofeoaa.Am
namespace Go.Proofs.Ytephkbajoofeoaa.Am
open Go Sz
theorem QpL {m:QC} (h:Qu m=true):sz m≤296:=by
 have hl:=Qbo h
 have hm:=Qh7 h
 have:∀ l:List TOp',(∀ o,o∈l→QH o=true)→sz l≤37*l.length:=by
  intro l
  induction l with
  | nil=>intro _;exact Nat.zero_le _
  | cons o l ih =>
   intro hh
   have h1:=QcC (hh o (List.mem_cons_self ..))
   have h2:=ih (fun y hy=>hh y (List.mem_cons_of_mem _ hy))
   have h3:=QcO o.2.2.2
   simp only [Qb1,Zk,Zi,List.length_cons]
   omega
 have:=this m hm
 omega
theorem Qq4 (l:List TIns):sz l=l.length:=QfP l (fun _=>rfl)
theorem QnW (ops:QC) (plan:List TIns) (a b:Bool):sz (Qi ops plan a b)≤plan.length+600:=by
 unfold Qi
 split
 ·rename_i h
  have h1:=QpL h
  have h2:=QqR h (Qt3 h)
  have h3:=Qq4 plan
  have h4:sz (Qy ops).1≤sz (Qy ops):=by simp only [Zk];omega
  have e0:sz ([]:List Int)=0:=rfl
  have e1:sz ([]:List (List Int))=0:=rfl
  have e2:sz ([]:List Qj)=0:=rfl
  rw [Qs2]
  simp only [Qeh,sOps,Qe0,Qdu,sX,sY,sG,sD,QdF,e0,e1,e2]
  omega
 ·exact Nat.zero_le _
end Go.Proofs.Ytephkbajoofeoaa.Am

