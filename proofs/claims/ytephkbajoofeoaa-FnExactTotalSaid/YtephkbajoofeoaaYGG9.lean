/- -/
import Derived.Test.YtephkbajoofeoaaYGG8
set_option linter.all false
namespace Go.Proofs.Ytephkbajoofeoaa.Am
open Go Sz
theorem ZL (st s m:Int):(QA st s m).length≤3:=by unfold QA;split <;> split <;> simp
theorem Qbc (st s m:Int) (redo:Bool):(QD st s m redo).length≤4:=by unfold QD;split <;> split <;> split <;> simp
theorem Qe9 {α:Type} {f:Nat→List α} {R:Nat} (n:Nat) (h:∀ k,k<n→(f k).length≤R):((List.range n).flatMap f).length≤n*R:=by
 induction n with
 | zero=>simp
 | succ n ih =>
  have h1:=ih (fun k hk=>h k (by omega))
  have h2:=h n (by omega)
  rw [QcB,List.length_append,Nat.add_mul];omega
theorem Qan {st s mi:Int}:Qv st s mi=true↔1≤st∧st≤4∧0≤s∧s<st∧1≤mi∧mi≤5:=by
 simp only [Qv,Bool.and_eq_true,QQ];omega
theorem Y4 {ds st s mi:Int} (h:Qv st s mi=true):0≤Qt ds st s mi∧Qt ds st s mi≤mi:=by
 have:=Qan.1 h
 unfold Qt;rw [if_pos h]
 split
 ·unfold iMin;split <;> omega
 ·omega
def Zc (st s:Int) (w:Nat):List TIns:=(List.range w).flatMap fun m:Nat=>QA st s (m:Int)
def Je (st s mi:Int) (redo:Bool) (w m:Nat):List TIns:=(if (m:Int)+w<mi then QA st s ((m:Int)+w) else [])++QD st s (m:Int) redo
def Zd (st s mi:Int) (redo:Bool) (w k:Nat):List TIns:=(List.range k).flatMap fun m:Nat=>Je st s mi redo w m
theorem QcZ {ds st s mi:Int} {redo:Bool} (h:(m_in ds 1 2&&Qv st s mi)=true) :
  Qw ds st s mi redo=Zc st s (Qt ds st s mi).toNat++Zd st s mi redo (Qt ds st s mi).toNat mi.toNat++[(8,0)]:=by
 unfold Qw;rw [if_pos h];rfl
theorem Qb8 {ds st s mi:Int} {redo:Bool} (h:¬ (m_in ds 1 2&&Qv st s mi)=true):Qw ds st s mi redo=[]:=by
 unfold Qw;rw [if_neg h]
theorem Yc (st s:Int) (w:Nat):(Zc st s w).length≤w*3:=Qe9 w (fun k _=>ZL st s k)
theorem YR (st s mi:Int) (redo:Bool) (w k:Nat):(Zd st s mi redo w k).length≤k*7:=by
 refine Qe9 k (fun m _=>?_)
 have h1:=ZL st s ((m:Int)+w)
 have h2:=Qbc st s m redo
 unfold Je
 rw [List.length_append]
 split
 ·omega
 ·simp only [List.length_nil];omega
theorem Qdo (st s:Int) (w:Nat):Zc st s (w+1)=Zc st s w++QA st s w:=QcB
theorem Qff (st s mi:Int) (redo:Bool) (w k:Nat):Zd st s mi redo w (k+1)=Zd st s mi redo w k++Je st s mi redo w k:=QcB
theorem Qhi {ds st s mi:Int}:((((!(m_in ds 1 2))||(!(m_in st 1 4)))||(!(m_in s 0 (w64 (st-1)))))||(!(m_in mi 1 5))) = !(m_in ds 1 2&&Qv st s mi):=by
 by_cases hst:m_in st 1 4=true
 ·have:=QQ.1 hst
  rw [Qz (by omega) (by omega)]
  unfold Qv
  cases m_in ds 1 2 <;> cases m_in st 1 4 <;> cases m_in s 0 (st-1) <;> cases m_in mi 1 5 <;> rfl
 ·simp only [Bool.not_eq_true] at hst
  unfold Qv
  rw [hst];cases m_in ds 1 2 <;> rfl
theorem Qim {ds st s mi:Int}:(((ds != 1)&&(ds != 2))||(!(Qv st s mi))) = !(m_in ds 1 2&&Qv st s mi):=by
 have:((ds != 1)&&(ds != 2)) = !(m_in ds 1 2):=by
  rw [Bool.eq_iff_iff];simp [m_in];omega
 rw [this];cases m_in ds 1 2 <;> cases Qv st s mi <;> rfl
theorem QcY {α:Type} {l x:List α} (h:l.length+x.length≤1000000):(l.length=l.length∨l.length+(List.take x.length (List.drop 0 x)).length≤l.length)∧l.length+(List.take x.length (List.drop 0 x)).length≤big:=by
 rw [List.drop_zero,List.take_length];exact ⟨.inl rfl,by rw [Q0];omega⟩
theorem QcQ {α:Type} (l x:List α):List.take (l.length+(List.take x.length (List.drop 0 x)).length) (List.take l.length l++List.take x.length (List.drop 0 x))=l++x:=by
 rw [List.drop_zero,List.take_length,Qlb]
end Go.Proofs.Ytephkbajoofeoaa.Am
namespace Go.Proofs.Ytephkbajoofeoaa.Am
open Go Sz
theorem Qc3 (ds st s mi:Int) (redo:Bool):(Qw ds st s mi redo).length≤51:=by
 by_cases h:(m_in ds 1 2&&Qv st s mi)=true
 ·rw [QcZ h]
  have hq:Qv st s mi=true:=by simp only [Bool.and_eq_true] at h;exact h.2
  have hr:=Qan.1 hq
  have hw:=Y4 (ds:=ds) hq
  have h1:=Yc st s (Qt ds st s mi).toNat
  have h2:=YR st s mi redo (Qt ds st s mi).toNat mi.toNat
  rw [List.length_append,List.length_append]
  simp only [List.length_cons,List.length_nil]
  omega
 ·rw [Qb8 h];simp
theorem QbI (c:Qg) (mi:Int):∀ k,0≤ZY c mi k∧ZY c mi k≤51*k
 | 0=>by simp [ZY]
 | k+1=>by
  have h1:=QbI c mi k
  have h2:=Qc3 c.2.2.1 (QH c) k mi (gtd false c.2.2.2.1 k)
  unfold ZY
  omega
end Go.Proofs.Ytephkbajoofeoaa.Am
namespace Go.Proofs.Ytephkbajoofeoaa.Am
open Go Sz
end Go.Proofs.Ytephkbajoofeoaa.Am
namespace Go.Proofs.Ytephkbajoofeoaa.Am
open Go Sz
end Go.Proofs.Ytephkbajoofeoaa.Am

