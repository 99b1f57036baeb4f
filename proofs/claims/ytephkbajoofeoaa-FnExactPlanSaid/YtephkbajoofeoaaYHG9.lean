/- -/
import Derived.Test.YtephkbajoofeoaaYHG8
set_option linter.all false
namespace Go.Proofs.Ytephkbajoofeoaa.Am
open Go Sz
theorem ZD (st s m:Int):(Qr st s m).length≤3:=by unfold Qr;split <;> split <;> simp
theorem Qbj (st s m:Int) (redo:Bool):(Qt st s m redo).length≤4:=by unfold Qt;split <;> split <;> split <;> simp
theorem QdC {α:Type} {f:Nat→List α} {R:Nat} (n:Nat) (h:∀ k,k<n→(f k).length≤R):((List.range n).flatMap f).length≤n*R:=by
 induction n with
 | zero=>simp
 | succ n ih =>
  have h1:=ih (fun k hk=>h k (by omega))
  have h2:=h n (by omega)
  rw [Qaz,List.length_append,Nat.add_mul];omega
theorem Jd {st s mi:Int}:Qm st s mi=true↔1≤st∧st≤4∧0≤s∧s<st∧1≤mi∧mi≤5:=by
 simp only [Qm,Bool.and_eq_true,YL];omega
theorem Yq {ds st s mi:Int} (h:Qm st s mi=true):0≤Qk ds st s mi∧Qk ds st s mi≤mi:=by
 have:=Jd.1 h
 unfold Qk;rw [if_pos h]
 split
 ·unfold iMin;split <;> omega
 ·omega
def Q4 (st s:Int) (w:Nat):List TIns:=(List.range w).flatMap fun m:Nat=>Qr st s (m:Int)
def Yl (st s mi:Int) (redo:Bool) (w m:Nat):List TIns:=(if (m:Int)+w<mi then Qr st s ((m:Int)+w) else [])++Qt st s (m:Int) redo
def Q1 (st s mi:Int) (redo:Bool) (w k:Nat):List TIns:=(List.range k).flatMap fun m:Nat=>Yl st s mi redo w m
theorem JT {ds st s mi:Int} {redo:Bool} (h:(m_in ds 1 2&&Qm st s mi)=true) :
  Qp ds st s mi redo=Q4 st s (Qk ds st s mi).toNat++Q1 st s mi redo (Qk ds st s mi).toNat mi.toNat++[(8,0)]:=by
 unfold Qp;rw [if_pos h];rfl
theorem Qbl {ds st s mi:Int} {redo:Bool} (h:¬ (m_in ds 1 2&&Qm st s mi)=true):Qp ds st s mi redo=[]:=by
 unfold Qp;rw [if_neg h]
theorem ZW (st s:Int) (w:Nat):(Q4 st s w).length≤w*3:=QdC w (fun k _=>ZD st s k)
theorem Yh (st s mi:Int) (redo:Bool) (w k:Nat):(Q1 st s mi redo w k).length≤k*7:=by
 refine QdC k (fun m _=>?_)
 have h1:=ZD st s ((m:Int)+w)
 have h2:=Qbj st s m redo
 unfold Yl
 rw [List.length_append]
 split
 ·omega
 ·simp only [List.length_nil];omega
theorem QdG (st s:Int) (w:Nat):Q4 st s (w+1)=Q4 st s w++Qr st s w:=Qaz
theorem QdK (st s mi:Int) (redo:Bool) (w k:Nat):Q1 st s mi redo w (k+1)=Q1 st s mi redo w k++Yl st s mi redo w k:=Qaz
theorem QgE {ds st s mi:Int}:((((!(m_in ds 1 2))||(!(m_in st 1 4)))||(!(m_in s 0 (w64 (st-1)))))||(!(m_in mi 1 5))) = !(m_in ds 1 2&&Qm st s mi):=by
 by_cases hst:m_in st 1 4=true
 ·have:=YL.1 hst
  rw [QA (by omega) (by omega)]
  unfold Qm
  cases m_in ds 1 2 <;> cases m_in st 1 4 <;> cases m_in s 0 (st-1) <;> cases m_in mi 1 5 <;> rfl
 ·simp only [Bool.not_eq_true] at hst
  unfold Qm
  rw [hst];cases m_in ds 1 2 <;> rfl
theorem Qet {ds st s mi:Int}:(((ds != 1)&&(ds != 2))||(!(Qm st s mi))) = !(m_in ds 1 2&&Qm st s mi):=by
 have:((ds != 1)&&(ds != 2)) = !(m_in ds 1 2):=by
  rw [Bool.eq_iff_iff];simp [m_in];omega
 rw [this];cases m_in ds 1 2 <;> cases Qm st s mi <;> rfl
theorem QaO {α:Type} {l x:List α} (h:l.length+x.length≤1000000):(l.length=l.length∨l.length+(List.take x.length (List.drop 0 x)).length≤l.length)∧l.length+(List.take x.length (List.drop 0 x)).length≤big:=by
 rw [List.drop_zero,List.take_length];exact ⟨.inl rfl,by rw [QT];omega⟩
theorem Qa0 {α:Type} (l x:List α):List.take (l.length+(List.take x.length (List.drop 0 x)).length) (List.take l.length l++List.take x.length (List.drop 0 x))=l++x:=by
 rw [List.drop_zero,List.take_length,QfB]
end Go.Proofs.Ytephkbajoofeoaa.Am
namespace Go.Proofs.Ytephkbajoofeoaa.Am
open Go Sz
theorem QhD (ds st s mi:Int) (redo:Bool):(Qp ds st s mi redo).length≤51:=by
 by_cases h:(m_in ds 1 2&&Qm st s mi)=true
 ·rw [JT h]
  have hq:Qm st s mi=true:=by simp only [Bool.and_eq_true] at h;exact h.2
  have hr:=Jd.1 hq
  have hw:=Yq (ds:=ds) hq
  have h1:=ZW st s (Qk ds st s mi).toNat
  have h2:=Yh st s mi redo (Qk ds st s mi).toNat mi.toNat
  rw [List.length_append,List.length_append]
  simp only [List.length_cons,List.length_nil]
  omega
 ·rw [Qbl h];simp
end Go.Proofs.Ytephkbajoofeoaa.Am
namespace Go.Proofs.Ytephkbajoofeoaa.Am
open Go Sz
def QV:List TIns→Int→List TIns
 | [],_=>[]
 | _::r,k=>(k,k+1)::QV r (k+1+1)
def ZH:List TIns→Int→Int
 | [],k=>k
 | x::r,k=>if x.1≠k then -1 else if x.2≠k+1 then -1 else ZH r (k+1+1)
def Q8 (l:List TIns) (k:Int):Int × List TIns:=(k+2*l.length,QV l k)
def Zq (l:List TIns) (k:Int):Int:=ZH l k
def Zn (l:List TIns) (k:Int):Prop:=0≤k∧k≤1000000∧l.length≤1000000
theorem Qaw:∀ (l:List TIns) (k:Int),(QV l k).length=l.length
 | [],k=>rfl
 | _::r,k=>by simp [QV,Qaw r]
theorem Qbv:∀ (l:List TIns) (k:Int),ZH (QV l k) k=k+2*l.length
 | [],k=>by simp [QV,ZH]
 | _::r,k=>by simp only [QV,ZH,ne_eq,not_true_eq_false,if_false,Qbv r,List.length_cons];omega
theorem Qe8 {α:Type} {d:α} {l:List α} {i:Nat} {x:α} (h:i<l.length):gtd d (l.set i x) i=x:=Qdm (by simp [h]) d
theorem Qh0 {α:Type} (a:List α) (x y:α) (r:List α):(a++x::r).set a.length y=(a++[y])++r:=by simp [List.set_append]
theorem QgY {α:Type} (d:α) (a:List α) (x:α) (r:List α):gtd d (a++x::r) a.length=x:=Qdm (by simp) d
end Go.Proofs.Ytephkbajoofeoaa.Am
namespace Go.Proofs.Ytephkbajoofeoaa.Am
open Go Sz
end Go.Proofs.Ytephkbajoofeoaa.Am

