/- -/
import Derived.Test.YtephkbajoofeoaaYBG8
set_option linter.all false
namespace Go.Proofs.Ytephkbajoofeoaa.Am
open Go Sz
abbrev TCur:=List Int × Int × Int
def Zf (l:List Int):Prop:=l.length≤1048576
def Qj (c:TCur):Prop:=0≤c.2.1∧c.1.length≤1048576
@[reducible] def QF {α:Type} (c:TCur) (_:α):Prop:=Qj c
@[reducible] def Z0 (_:List Int) (t:TCur):Prop:=Qj t
def Jc (code:List Int):Bool:=decide ((code.length:Int)>1048576)
def JY (_:TCur) (t:Int × TCur):Prop:=0≤t.1∧t.1≤255∧Qj t.2
def Qaa (_:TCur) (n:Int) (t:Int × TCur):Prop:=0≤t.1∧(0<n→t.1<n)∧(n≤0→t.1=0)∧Qj t.2
@[reducible] def Qam (_:TCur) (_:Int) (t:Bool × TCur):Prop:=Qj t.2
def QY (c:TCur) (l:List Int):Prop:=Qj c∧1≤l.length∧l.length≤100
def Qat (_:TCur) (l:List Int) (t:Int × TCur):Prop:=t.1∈l∧Qj t.2
def Jv (_:TCur) (t:Int × TCur):Prop:=QR t.1=true∧Qj t.2
@[reducible] def JR (_:TCur) (t:Int × TCur):Prop:=Qj t.2
def Zv (c:TCur) (n:Int):Prop:=Qj c∧n≤1000
def Yh (_:TCur) (n:Int) (t:List Int × TCur):Prop:=t.1.length=n.toNat∧Q3 t.1=true∧Qj t.2
def Qai (_:TCur) (t:List Int × TCur):Prop:=t.1.length≤7∧Qj t.2
def QbS (q:Qb):Prop:=q.2.length≤4∧q.1≤6∧∀ x,x∈q.2→x.2.length≤7
def Yj (_:TCur) (t:Qb × TCur):Prop:=QbS t.1∧Qj t.2
end Go.Proofs.Ytephkbajoofeoaa.Am
namespace Go.Proofs.Ytephkbajoofeoaa.Am
open Go Sz
end Go.Proofs.Ytephkbajoofeoaa.Am
namespace Go.Proofs.Ytephkbajoofeoaa.Am
open Go Sz
theorem QK {α:Type} {q:α→Prop} {R:α→TRes} {x:α} (h:q x):∃ t,q t∧R x=R t:=⟨x,h,rfl⟩
theorem JS (a:Int):0≤w64 (((BitVec.ofInt (IntKind.i64.bits) a &&& BitVec.ofInt (IntKind.i64.bits) 255).toNat:Nat):Int)∧w64 (((BitVec.ofInt (IntKind.i64.bits) a &&& BitVec.ofInt (IntKind.i64.bits) 255).toNat:Nat):Int)≤255:=by
 have h:(BitVec.ofInt (IntKind.i64.bits) a &&& BitVec.ofInt (IntKind.i64.bits) 255).toNat≤255:=by
  rw [BitVec.toNat_and]
  have:(BitVec.ofInt (IntKind.i64.bits) 255).toNat=255:=by decide
  rw [this]
  exact Nat.and_le_right
 rw [QE (by omega) (by omega)]
 omega
theorem Qj7 {a b B:Int} (hb:0<b) (h1:-B≤a) (h2:a≤B):-B≤Int.tdiv a b∧Int.tdiv a b≤B:=by
 by_cases h:0≤a
 ·have h3:0≤Int.tdiv a b:=Int.tdiv_nonneg h (by omega)
  have h4:Int.tdiv a b≤a:=by
   rw [Int.tdiv_eq_ediv_of_nonneg h]
   exact Int.ediv_le_self b h
  omega
 ·have h5:Int.tdiv a b = - Int.tdiv (-a) b:=by rw [Int.neg_tdiv];omega
  have h3:0≤Int.tdiv (-a) b:=Int.tdiv_nonneg (by omega) (by omega)
  have h4:Int.tdiv (-a) b≤-a:=by
   rw [Int.tdiv_eq_ediv_of_nonneg (by omega)]
   exact Int.ediv_le_self b (by omega)
  omega
theorem Qgh {code:List Int} (h:Jc code=false):Zf code:=by
 unfold Jc at h;unfold Zf
 have:=of_decide_eq_false h
 omega
theorem QgQ {l:List Int} {x:Int} (h:Q3 l=true) (hx:QR x=true):Q3 (l++[x])=true:=by
 simp only [Q3,List.all_append,List.all_cons,List.all_nil,Bool.and_true,Bool.and_eq_true] at h ⊢
 exact ⟨h,hx⟩
end Go.Proofs.Ytephkbajoofeoaa.Am
namespace Go.Proofs.Ytephkbajoofeoaa.Am
open Go Sz
def J1 (_:List Int) (t:Qb × Qg):Prop:=QbS t.1∧t.2.2.length≤7
theorem Qcf {l:List Qg} (h:∀ x,x∈l→x.2.length≤7):sz l≤8*l.length:=by
 induction l with
 | nil=>exact Nat.le_refl 0
 | cons x l ih =>
  have h1:=h x (List.mem_cons_self ..)
  have h2:=ih (fun y hy=>h y (List.mem_cons_of_mem _ hy))
  have h3:=ZU x.2
  simp only [Qip,Zo,Q7,List.length_cons]
  omega
theorem Qi7 {q:Qb} (h:QbS q):sz q≤32:=by
 have:=Qcf h.2.2
 have h1:=h.1
 simp only [Zo,Q7]
 omega
theorem Qf1 {q:Qb} {x:Qg} {n:Nat} (hq:q.2.length≤n) (h:∀ x,x∈q.2→x.2.length≤7) (hx:x.2.length≤7) :
  (QQ q x).1.2.length≤n+1∧(QQ q x).1.1=q.1∧∀ y,y∈(QQ q x).1.2→y.2.length≤7:=by
 unfold QQ
 split
 ·refine ⟨by simp;omega,rfl,fun y hy=>?_⟩
  rcases List.mem_append.1 hy with hy | hy
  ·exact h y hy
  ·rw [List.mem_singleton.1 hy];exact hx
 ·exact ⟨Nat.le_succ_of_le hq,rfl,h⟩
theorem QfW {l:List Qg} (h:l.all QA=true):0≤(l.map fun x=>(x.2.length:Int)).sum∧(l.map fun x=>(x.2.length:Int)).sum≤6*l.length:=by
 induction l with
 | nil=>simp
 | cons x l ih =>
  simp only [List.all_cons,Bool.and_eq_true] at h
  have h1:=ih h.2
  have h2:=h.1
  simp only [QA,QP,Bool.and_eq_true,Qhf] at h2
  have e:((x::l).map fun x=>(x.2.length:Int)).sum=x.2.length+(l.map fun x=>(x.2.length:Int)).sum:=by simp
  rw [e,List.length_cons]
  omega
theorem Qie {q:Qb} {x:Qg} (hq:Qn q=true) (hx:QA x=true) (hl:(q.2.length:Int)<q.1):QQ q x=((q.1,q.2++[x]),true):=by
 simp [QQ,hq,hx,hl]
theorem QeT {q:Qb} {x:Qg} (hq:Qn q=true) (hx:QA x=true) (hl:(q.2.length:Int)<q.1) (k:Nat):Qn (q.1,q.2.drop k++[x])=true:=by
 simp only [Qn,Bool.and_eq_true,decide_eq_true_eq,List.all_append,List.all_cons,List.all_nil,List.length_append,List.length_drop,List.length_singleton,Bool.and_true] at hq ⊢
 refine ⟨⟨hq.1.1,by omega⟩,?_,hx⟩
 rw [List.all_eq_true] at hq ⊢
 exact fun y hy=>hq.2 y (List.mem_of_mem_drop hy)
theorem Qin {q:Qb} {x:Qg} (hq:Qn q=true) (hx:QA x=true) (hl:(q.2.length:Int)<q.1):Zm (q.1,q.2++[x])=w64 (Zm q+x.2.length):=by
 have h:=QeT hq hx hl 0
 rw [List.drop_zero] at h
 unfold Zm
 rw [if_pos h,if_pos hq]
 simp only [Qn,Bool.and_eq_true,decide_eq_true_eq] at hq
 have h1:=QfW hq.2
 rw [QE (x:=(q.2.map _).sum) (by omega) (by omega)]
 simp [List.map_append,List.sum_append]
theorem Qd1 {q:Qb} {x:Qg} (hq:Qn q=true) (hx:QA x=true) (hl:(q.2.length:Int)<q.1) (k:Nat) :
  QC (q.1,q.2.drop k++[x])=((q.1,(q.2.drop k++[x]).tail),gtd (0,[]) (q.2.drop k++[x]) 0,true):=by
 simp [QC,QeT hq hx hl k]
theorem QiA (n:Int):(QC (n,[])).2.2=false:=by simp [QC]
theorem Qd5 (x:Qg):QA x=(QP x.2&&decide (x.1≥0)&&decide (x.1<5)):=rfl
end Go.Proofs.Ytephkbajoofeoaa.Am

