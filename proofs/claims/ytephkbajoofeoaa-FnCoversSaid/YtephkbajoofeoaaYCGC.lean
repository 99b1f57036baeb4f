/- -/
import Derived.Test.YtephkbajoofeoaaYCGA
import Derived.Test.YtephkbajoofeoaaYCG9
set_option linter.all false
namespace Go.Proofs.Ytephkbajoofeoaa.Am
open Go Sz
def QI (l:List TOp'):Int:=(l.map Q5).sum
theorem Ql2 (o:TOp'):0≤Q5 o∧Q5 o≤36:=by
 unfold Q5
 split
 ·rename_i h
  simp only [QF,Bool.and_eq_true,QK] at h
  obtain ⟨⟨⟨⟨⟨h1,h2⟩,h3⟩,h4⟩,h5⟩,h6⟩:=h
  split
  ·have h7:o.2.1*o.2.2.1≤6*6:=Int.mul_le_mul h2.2 h3.2 (by omega) (by omega)
   have h8:0≤o.2.1*o.2.2.1:=Int.mul_nonneg (by omega) (by omega)
   omega
  ·split <;> omega
 ·omega
theorem Qd7 (a b:List TOp'):QI (a++b)=QI a+QI b:=by simp [QI,List.sum_append]
theorem Jm:∀ (l:List TOp'),0≤QI l∧QI l≤36*l.length
 | []=>by simp [QI]
 | o::l=>by
  have h1:=Ql2 o
  have h2:=Jm l
  simp only [QI,List.map_cons,List.sum_cons,List.length_cons] at h2 ⊢
  omega
theorem Qik {m:Qp} {k:Nat} (hk:k<m.length):QI (m.take (k+1))=QI (m.take k)+Q5 (gtd dOp m k):=by
 rw [List.take_add_one,Zq hk dOp]
 simp [Qd7,QI]
theorem Qgi {f:Nat→Int} {x:Int}:∀ {n k:Nat},k<n→f k≤Z3 f n x
 | n+1,k,h=>by
  simp only [Z3]
  by_cases hk:k=n
  ·subst hk;split <;> omega
  ·have:=Qgi (f:=f) (x:=x) (show k<n by omega)
   split <;> omega
theorem QeV {f:Nat→Int} {x B:Int} (hx:x≤B):∀ {n:Nat},(∀ k,k<n→f k≤B)→Z3 f n x≤B
 | 0,_=>hx
 | n+1,h=>by
  simp only [Z3]
  have h1:=QeV hx (f:=f) (n:=n) (fun k hk=>h k (by omega))
  have h2:=h n (by omega)
  split <;> omega
theorem QeG {f:Nat→Int} {x:Int}:∀ {n:Nat},x≤Z3 f n x
 | 0=>Int.le_refl _
 | n+1=>by
  simp only [Z3]
  have h1:=QeG (f:=f) (x:=x) (n:=n)
  split <;> omega
section
variable {m:Qp} {cuts:List Int} (hc:Qh m cuts=true)
include hc
theorem Qcz:cuts.length+1≤m.length∧m.length≤8:=by
 have h:=hc
 simp only [Qh,Bool.and_eq_true,Qs,QK] at h
 obtain ⟨⟨h1,_⟩,h2⟩:=h
 refine ⟨?_,by omega⟩
 by_cases h0:cuts.length=0
 ·omega
 ·have h3:=Ya h2 (cuts.length-1) (gtd 0 cuts (cuts.length-1)) (Zq (by omega) 0)
  simp only [Option.getD_none] at h3
  omega
theorem Qgk {s:Nat} (hs:s≤cuts.length):QS m cuts (s:Int)=QI (Zd m cuts s):=by
 unfold QS
 simp only
 rw [QkC hc hs]
 have h1:=Jm (Zd m cuts s)
 have h2:=Qgo hc hs
 have h3:=Qcm hc (s:=s+1)
 have h4:=Qcz hc
 unfold QI at h1 ⊢
 exact Qk (by omega) (by omega)
theorem Qmv {s:Nat} (hs:s≤cuts.length):0≤QS m cuts (s:Int)∧QS m cuts (s:Int)≤288:=by
 rw [Qgk hc hs]
 have h1:=Jm (Zd m cuts s)
 have h2:=Qgo hc hs
 have h3:=Qcm hc (s:=s+1)
 have h4:=Qcz hc
 omega
theorem Qgh {s:Nat} (hs:s≤cuts.length):QI (m.take (Qn m cuts (s+1)))=QI (m.take (Qn m cuts s))+QS m cuts (s:Int):=by
 rw [Qis hc hs,Qd7,Qgk hc hs]
theorem QdU {s:Nat} (hs:s≤cuts.length):QS m cuts (s:Int)≤QL m cuts:=by
 unfold QL
 rw [if_pos hc]
 exact Qgi (f:=fun s:Nat=>QS m cuts (s:Int)) (show s<cuts.length+1 by omega)
theorem QjK:0≤QL m cuts∧QL m cuts≤288:=by
 unfold QL
 rw [if_pos hc]
 exact ⟨QeG,QeV (by omega) (fun k hk=>(Qmv hc (show k≤cuts.length by omega)).2)⟩
theorem Qes:∀ {s:Nat},s≤cuts.length+1→QI (m.take (Qn m cuts s))≤s*QL m cuts
 | 0,_=>by simp [Qn,QI]
 | s+1,hs=>by
  have h1:=Qes (s:=s) (by omega)
  have h2:=QdU hc (s:=s) (by omega)
  rw [Qgh hc (by omega)]
  have:((s+1:Nat):Int)*QL m cuts=s*QL m cuts+QL m cuts:=by
   rw [Int.natCast_add,Int.add_mul];simp
  omega
end
end Go.Proofs.Ytephkbajoofeoaa.Am
namespace Go.Proofs.Ytephkbajoofeoaa.Am
open Go Sz
end Go.Proofs.Ytephkbajoofeoaa.Am
namespace Go.Proofs.Ytephkbajoofeoaa.Am
open Go Sz
def Qhm (r:List Int):Int:=if 0<r.length then w64 (gtd 0 r (r.length-1)+1) else 1
def ext (lim:Int) (r:List Int):List (List Int):=(List.range (lim+1-Qhm r).toNat).map fun j:Nat=>r++[Qhm r+(j:Int)]
def fill (now:List Int) (i:Nat):Nat→List Int
 | 0=>now
 | f+1=>fill (now.set i (w64 (gtd 0 now (i-1)+1))) (i+1) f
end Go.Proofs.Ytephkbajoofeoaa.Am

