/- -/
import Derived.Test.YtdplaepmjogjjaaGreatVEGB
import Derived.Test.YtdplaepmjogjjaaGreatVEGC
set_option linter.all false
namespace Go.Proofs.YtdplaepmjogjjaaGreat.Am
open Go Sz
def QbI (ops:QN) (plan:List TIns) (_ _:Bool):Prop:=sz ops≤2147483648∧plan.length≤2147483648
theorem QHd (s:Qr):sz s=sz (Qey s)+sz (sOps s)+sz (QdQ s)+sz (Qgo s)+sz (sX s)+sz (sY s)+sz (sG s)+sz (sD s)+sz (QeH s):=by
 simp only [QM,QS,Za];((try simp only [sPc,Qey,sOps,Qli,Qro,QdQ,Qgo,sX,sY,sG,sD,QeH,QqJ,sSat,Qes,Qf8,Qed,Qet] at *);omega)
theorem QzK (p:QO):sz p=sz (Qes p)+sz (Qf8 p)+sz (Qed p)+sz (Qet p):=by
 simp only [QM];((try simp only [sPc,Qey,sOps,Qli,Qro,QdQ,Qgo,sX,sY,sG,sD,QeH,QqJ,sSat,Qes,Qf8,Qed,Qet] at *);omega)
theorem Qp9 (m:QN):(QR m).2=(0,false):=by unfold QR;split <;> rfl
theorem vec6 {v:List Int} (h:Q5 v=true):v.length≤6:=by
 simp only [Q5,Bool.and_eq_true,Q6] at h;omega
theorem Qpx {v:List Int} {n:Int} (h:ZH v n=true):v.length≤6:=by
 simp only [ZH,Bool.and_eq_true] at h;exact vec6 h.1
end Go.Proofs.YtdplaepmjogjjaaGreat.Am
namespace Go.Proofs.YtdplaepmjogjjaaGreat.Am
open Go Sz
end Go.Proofs.YtdplaepmjogjjaaGreat.Am
namespace Go.Proofs.YtdplaepmjogjjaaGreat.Am
open Go Sz
theorem Qi0 {m:QN} (h:QB m=true):sz m≤296:=by
 have hl:=Y5 h
 have hm:=Qqh h
 have:∀ l:List TOp',(∀ o,o∈l→Q2 o=true)→sz l≤37*l.length:=by
  intro l
  induction l with
  | nil=>intro _;exact Nat.zero_le _
  | cons o l ih =>
   intro hh
   have h1:=Qgd (hh o (List.mem_cons_self ..))
   have h2:=ih (fun y hy=>hh y (List.mem_cons_of_mem _ hy))
   have h3:=J5 o.2.2.2
   simp only [Qai,QM,QS,List.length_cons]
   omega
 have:=this m hm
 omega
theorem Qii {m:QN} {b:List Qc} (h:Q9 m b=true):sz b≤65:=by
 simp only [Q9,Bool.and_eq_true,Q6,List.all_eq_true] at h
 have:∀ l:List Qc,(∀ o,o∈l→Ya m o=true)→sz l≤13*l.length:=by
  intro l
  induction l with
  | nil=>intro _;exact Nat.zero_le _
  | cons o l ih =>
   intro hh
   have h1:=hh o (List.mem_cons_self ..)
   simp only [Ya,Bool.and_eq_true] at h1
   have h4:=Qpx h1.1.2
   have h5:=Qpx h1.2
   have h2:=ih (fun y hy=>hh y (List.mem_cons_of_mem _ hy))
   have h3:=J5 o.1
   have h6:=J5 o.2
   simp only [Qai,QM,List.length_cons]
   omega
 have:=this b h.2
 omega
theorem QCp (l:List TIns):sz l=l.length:=QuA l (fun _=>rfl)
theorem QFz (ops:QN) (plan:List TIns) (a b:Bool):sz (Yb ops plan a b)≤plan.length+600:=by
 unfold Yb
 split
 ·rename_i h
  have h1:=Qi0 h
  have h2:=QxN h (QIf h)
  have h3:=QCp plan
  have h4:sz (QR ops).1≤sz (QR ops):=by simp only [QM];omega
  have e0:sz ([]:List Int)=0:=rfl
  have e1:sz ([]:List (List Int))=0:=rfl
  have e2:sz ([]:List QA)=0:=rfl
  rw [QHd]
  simp only [Qey,sOps,QdQ,Qgo,sX,sY,sG,sD,QeH,e0,e1,e2]
  omega
 ·exact Nat.zero_le _
theorem Qge (c:Qf) (n micro:Int):∀ k:Nat,sz (Yg c n micro k)≤700*k
 | 0=>Nat.zero_le _
 | k+1=>by
  have h:=Qge c n micro k
  have e2:sz ([]:List Qr)=0:=rfl
  rw [Yg,Qla,Qai,e2]
  have h1:=QFz (slice (ZA c) (Qo (ZA c) (Ze c) k).1 (Qo (ZA c) (Ze c) k).2) (QT (cDs c) n k micro (gtd false (JI c) k)) (decide ((k:Int)=n-1)) (gtd false (JI c) k)
  have h2:=Qiw (cDs c) n k micro (gtd false (JI c) k)
  omega
theorem QkS:∀ l:List Int,sz (l.map fun n=>((n,[]):Qp))=l.length
 | []=>rfl
 | n::l=>by
  have e:sz ([]:List Qy)=0:=rfl
  simp only [List.map_cons,Qai,QcN,QS,QkS l,e,List.length_cons];omega
theorem QEb (c:Qf) (b:List Qc):sz (QG c b)≤10000:=by
 unfold QG
 split
 ·rename_i h
  have A:=Qi7 h
  have hn:=QgO A
  have h1:=Qii A.batch
  have h2:=Qge c (Qs c) b.length (Qs c).toNat
  have h3:=Qj6 A
  have h4:=QkS (YM c)
  have h5:=A.stages
  have h6:nSt c=(Ze c).length+1:=rfl
  rw [QzK]
  simp only [Qes,Qf8,Qed,Qet]
  omega
 ·exact Nat.zero_le _
end Go.Proofs.YtdplaepmjogjjaaGreat.Am

