/- -/
import Derived.Test.YtdplaepmjogjjaaGreatVEG8
set_option linter.all false
namespace Go.Proofs.YtdplaepmjogjjaaGreat.Am
open Go Sz
theorem Jx (st s m:Int):(Q0 st s m).length≤3:=by unfold Q0;split <;> split <;> simp
theorem QgU (st s m:Int) (redo:Bool):(Q7 st s m redo).length≤4:=by unfold Q7;split <;> split <;> split <;> simp
theorem Qk8 {α:Type} {f:Nat→List α} {R:Nat} (n:Nat) (h:∀ k,k<n→(f k).length≤R):((List.range n).flatMap f).length≤n*R:=by
 induction n with
 | zero=>simp
 | succ n ih =>
  have h1:=ih (fun k hk=>h k (by omega))
  have h2:=h n (by omega)
  rw [QgG,List.length_append,Nat.add_mul];omega
theorem Qf5 {st s mi:Int}:QV st s mi=true↔1≤st∧st≤4∧0≤s∧s<st∧1≤mi∧mi≤5:=by
 simp only [QV,Bool.and_eq_true,Q6];omega
theorem Qcb {ds st s mi:Int} (h:QV st s mi=true):0≤QU ds st s mi∧QU ds st s mi≤mi:=by
 have:=Qf5.1 h
 unfold QU;rw [if_pos h]
 split
 ·unfold iMin;split <;> omega
 ·omega
def Yi (st s:Int) (w:Nat):List TIns:=(List.range w).flatMap fun m:Nat=>Q0 st s (m:Int)
def Qb4 (st s mi:Int) (redo:Bool) (w m:Nat):List TIns:=(if (m:Int)+w<mi then Q0 st s ((m:Int)+w) else [])++Q7 st s (m:Int) redo
def Yr (st s mi:Int) (redo:Bool) (w k:Nat):List TIns:=(List.range k).flatMap fun m:Nat=>Qb4 st s mi redo w m
theorem Qif {ds st s mi:Int} {redo:Bool} (h:(m_in ds 1 2&&QV st s mi)=true) :
  QT ds st s mi redo=Yi st s (QU ds st s mi).toNat++Yr st s mi redo (QU ds st s mi).toNat mi.toNat++[(8,0)]:=by
 unfold QT;rw [if_pos h];rfl
theorem Qkm {ds st s mi:Int} {redo:Bool} (h:¬ (m_in ds 1 2&&QV st s mi)=true):QT ds st s mi redo=[]:=by
 unfold QT;rw [if_neg h]
theorem Qap (st s:Int) (w:Nat):(Yi st s w).length≤w*3:=Qk8 w (fun k _=>Jx st s k)
theorem Qcx (st s mi:Int) (redo:Bool) (w k:Nat):(Yr st s mi redo w k).length≤k*7:=by
 refine Qk8 k (fun m _=>?_)
 have h1:=Jx st s ((m:Int)+w)
 have h2:=QgU st s m redo
 unfold Qb4
 rw [List.length_append]
 split
 ·omega
 ·simp only [List.length_nil];omega
theorem QnG (st s:Int) (w:Nat):Yi st s (w+1)=Yi st s w++Q0 st s w:=QgG
theorem Qrf (st s mi:Int) (redo:Bool) (w k:Nat):Yr st s mi redo w (k+1)=Yr st s mi redo w k++Qb4 st s mi redo w k:=QgG
theorem QwE {ds st s mi:Int}:((((!(m_in ds 1 2))||(!(m_in st 1 4)))||(!(m_in s 0 (w64 (st-1)))))||(!(m_in mi 1 5))) = !(m_in ds 1 2&&QV st s mi):=by
 by_cases hst:m_in st 1 4=true
 ·have:=Q6.1 hst
  rw [Qx (by omega) (by omega)]
  unfold QV
  cases m_in ds 1 2 <;> cases m_in st 1 4 <;> cases m_in s 0 (st-1) <;> cases m_in mi 1 5 <;> rfl
 ·simp only [Bool.not_eq_true] at hst
  unfold QV
  rw [hst];cases m_in ds 1 2 <;> rfl
theorem QAS {ds st s mi:Int}:(((ds != 1)&&(ds != 2))||(!(QV st s mi))) = !(m_in ds 1 2&&QV st s mi):=by
 have:((ds != 1)&&(ds != 2)) = !(m_in ds 1 2):=by
  rw [Bool.eq_iff_iff];simp [m_in];omega
 rw [this];cases m_in ds 1 2 <;> cases QV st s mi <;> rfl
theorem QiO {α:Type} {l x:List α} (h:l.length+x.length≤1000000):(l.length=l.length∨l.length+(List.take x.length (List.drop 0 x)).length≤l.length)∧l.length+(List.take x.length (List.drop 0 x)).length≤big:=by
 rw [List.drop_zero,List.take_length];exact ⟨.inl rfl,by rw [Q3];omega⟩
theorem Qks {α:Type} (l x:List α):List.take (l.length+(List.take x.length (List.drop 0 x)).length) (List.take l.length l++List.take x.length (List.drop 0 x))=l++x:=by
 rw [List.drop_zero,List.take_length,QEw]
end Go.Proofs.YtdplaepmjogjjaaGreat.Am
namespace Go.Proofs.YtdplaepmjogjjaaGreat.Am
open Go Sz
theorem Qiw (ds st s mi:Int) (redo:Bool):(QT ds st s mi redo).length≤51:=by
 by_cases h:(m_in ds 1 2&&QV st s mi)=true
 ·rw [Qif h]
  have hq:QV st s mi=true:=by simp only [Bool.and_eq_true] at h;exact h.2
  have hr:=Qf5.1 hq
  have hw:=Qcb (ds:=ds) hq
  have h1:=Qap st s (QU ds st s mi).toNat
  have h2:=Qcx st s mi redo (QU ds st s mi).toNat mi.toNat
  rw [List.length_append,List.length_append]
  simp only [List.length_cons,List.length_nil]
  omega
 ·rw [Qkm h];simp
end Go.Proofs.YtdplaepmjogjjaaGreat.Am
namespace Go.Proofs.YtdplaepmjogjjaaGreat.Am
open Go Sz
end Go.Proofs.YtdplaepmjogjjaaGreat.Am
namespace Go.Proofs.YtdplaepmjogjjaaGreat.Am
open Go Sz
end Go.Proofs.YtdplaepmjogjjaaGreat.Am

