/- -/
import Derived.Test.YtephkbajoofeoaaYCG8
set_option linter.all false
namespace Go.Proofs.Ytephkbajoofeoaa.Am
open Go Sz
abbrev TCur:=List Int × Int × Int
def Zo (l:List Int):Prop:=l.length≤1048576
def Qf (c:TCur):Prop:=0≤c.2.1∧c.1.length≤1048576
@[reducible] def QD {α:Type} (c:TCur) (_:α):Prop:=Qf c
@[reducible] def Yn (_:List Int) (t:TCur):Prop:=Qf t
def JB (code:List Int):Bool:=decide ((code.length:Int)>1048576)
def QaR (_:TCur) (t:Int × TCur):Prop:=0≤t.1∧t.1≤255∧Qf t.2
def QaE (_:TCur) (n:Int) (t:Int × TCur):Prop:=0≤t.1∧(0<n→t.1<n)∧(n≤0→t.1=0)∧Qf t.2
@[reducible] def QaT (_:TCur) (_:Int) (t:Bool × TCur):Prop:=Qf t.2
def Zv (c:TCur) (l:List Int):Prop:=Qf c∧1≤l.length∧l.length≤100
def Qal (_:TCur) (l:List Int) (t:Int × TCur):Prop:=t.1∈l∧Qf t.2
def Qbp (_:TCur) (t:Int × TCur):Prop:=QU t.1=true∧Qf t.2
@[reducible] def Qa1 (_:TCur) (t:Int × TCur):Prop:=Qf t.2
def Y4 (c:TCur) (n:Int):Prop:=Qf c∧n≤1000
def YT (_:TCur) (n:Int) (t:List Int × TCur):Prop:=t.1.length=n.toNat∧Q8 t.1=true∧Qf t.2
def p_op (c:TCur) (n:Int):Prop:=Qf c∧1≤n∧n≤3
def q_op (_:TCur) (n:Int) (t:TOp' × TCur):Prop:=QF t.1=true∧t.1.2.1=n∧1≤t.1.2.2.1∧t.1.2.2.1≤3∧t.1.2.2.2.length≤36∧Qf t.2
def Qba (_:TCur) (t:TOp' × TCur):Prop:=t.1.2.2.2.length≤40∧Qf t.2
def Yr (_:TCur) (t:Qp × TCur):Prop:=Qs t.1=true∧t.1.length≤6∧Qf t.2
def Yx (_:TCur) (t:Qp × TCur):Prop:=t.1.length≤9∧Qf t.2
def ZI (c:TCur) (m:Qp):Prop:=Qf c∧m.length≤9
def YI (_:TCur) (m:Qp) (t:List Int × TCur):Prop:=(Qs m=true→Qh m t.1=true)∧t.1.length≤3∧Qf t.2
def Qds (_:TCur) (m:Qp) (t:List Int × TCur):Prop:=t.1.length≤4∧Qf t.2
end Go.Proofs.Ytephkbajoofeoaa.Am
namespace Go.Proofs.Ytephkbajoofeoaa.Am
open Go Sz
end Go.Proofs.Ytephkbajoofeoaa.Am
namespace Go.Proofs.Ytephkbajoofeoaa.Am
open Go Sz
theorem Qx {α:Type} {q:α→Prop} {R:α→TRes} {x:α} (h:q x):∃ t,q t∧R x=R t:=⟨x,h,rfl⟩
theorem Qbd (a:Int):0≤w64 (((BitVec.ofInt (IntKind.i64.bits) a &&& BitVec.ofInt (IntKind.i64.bits) 255).toNat:Nat):Int)∧w64 (((BitVec.ofInt (IntKind.i64.bits) a &&& BitVec.ofInt (IntKind.i64.bits) 255).toNat:Nat):Int)≤255:=by
 have h:(BitVec.ofInt (IntKind.i64.bits) a &&& BitVec.ofInt (IntKind.i64.bits) 255).toNat≤255:=by
  rw [BitVec.toNat_and]
  have:(BitVec.ofInt (IntKind.i64.bits) 255).toNat=255:=by decide
  rw [this]
  exact Nat.and_le_right
 rw [Qk (by omega) (by omega)]
 omega
theorem Qnb {a b B:Int} (hb:0<b) (h1:-B≤a) (h2:a≤B):-B≤Int.tdiv a b∧Int.tdiv a b≤B:=by
 by_cases h:0≤a
 ·have h3:0≤Int.tdiv a b:=Int.tdiv_nonneg h (by omega)
  have h4:Int.tdiv a b≤a:=by
   rw [Int.tdiv_eq_ediv_of_nonneg h]
   exact Int.ediv_le_self b h
  omega
 ·have h5:Int.tdiv a b = - Int.tdiv (-a) b:=by rw [Int.neg_tdiv];omega
  have h3:0≤Int.tdiv (-a) b:=Int.tdiv_nonneg (by omega) (by omega)
  have h4:Int.tdiv (-a) b≤-a:=by
   rw [Int.tdiv_eq_ediv_of_nonneg (by omega)]
   exact Int.ediv_le_self b (by omega)
  omega
theorem QiP {code:List Int} (h:JB code=false):Zo code:=by
 unfold JB at h;unfold Zo
 have:=of_decide_eq_false h
 omega
theorem QfF (k:Int) {a b:Int} (p:List Int) (h1:1≤a) (h2:a≤3) (h3:1≤b) (h4:b≤3):0≤QG (k,a,b,p)∧QG (k,a,b,p)≤9:=by
 have ha:a=1∨a=2∨a=3:=by omega
 have hb:b=1∨b=2∨b=3:=by omega
 simp only [QG,m_in]
 rcases ha with rfl | rfl | rfl <;> rcases hb with rfl | rfl | rfl <;> simp <;> split <;> (try split) <;> (try split) <;> omega
theorem Qka {k a b:Int} {p:List Int} (h0:1≤k) (h0':k≤5) (h1:1≤a) (h2:a≤3) (h3:1≤b) (h4:b≤3) (h5:k=1∨a=b) (h6:p.length=(QG (k,a,b,[])).toNat) (h7:Q8 p=true):QF (k,a,b,p)=true:=by
 have h:=(QfF k [] h1 h2 h3 h4).1
 have e:QG (k,a,b,p)=QG (k,a,b,[]):=rfl
 simp only [QF,m_in,Bool.and_eq_true,decide_eq_true_eq,Bool.or_eq_true,beq_iff_eq,e]
 refine ⟨⟨⟨⟨⟨⟨h0,h0'⟩,?_⟩,?_⟩,h5⟩,?_⟩,h7⟩ <;> omega
theorem Qnr {l:List Int} {x:Int} (h:Q8 l=true) (hx:QU x=true):Q8 (l++[x])=true:=by
 simp only [Q8,List.all_append,List.all_cons,List.all_nil,Bool.and_true,Bool.and_eq_true] at h ⊢
 exact ⟨h,hx⟩
def Qco:Option Int→List TOp'→Option Int
 | p,[]=>p
 | _,x::r=>Qco (some x.2.2.1) r
def QaA (p:Option Int) (l:List TOp') (n:Int):Bool:=match Qco p l with | none=>true | some q=>q==n
theorem QeR:∀ (l:List TOp') (p:Option Int) (o:TOp'),QZ p l=true→QF o=true→QaA p l o.2.1=true→QZ p (l++[o])=true
 | [],p,o,h,ho,hl=>by
  simp only [List.nil_append,QZ,ho,Bool.true_and,Bool.and_true]
  exact hl
 | x::l,p,o,h,ho,hl=>by
  simp only [QZ,Bool.and_eq_true,List.cons_append] at h ⊢
  exact ⟨h.1,QeR l (some x.2.2.1) o h.2 ho hl⟩
theorem QgO:∀ (l:List TOp') (p:Option Int) (o:TOp'),QaA p (l++[o]) o.2.2.1=true
 | [],p,o=>by simp [QaA,Qco]
 | x::l,p,o=>QgO l (some x.2.2.1) o
theorem QfB {i:Int} (hi:1≤i):∀ (l:List Int) (p:Option Int),QC (i-1) p l=true→(match p with | none=>true | some q=>decide (q<i))=true→QC i p (l++[i])=true
 | [],p,h,hp=>by
  simp only [List.nil_append,QC,Bool.and_true,Bool.and_eq_true]
  exact ⟨QK.2 ⟨hi,Int.le_refl _⟩,hp⟩
 | c::r,p,h,hp=>by
  simp only [List.cons_append,QC,Bool.and_eq_true] at h ⊢
  have h1:=QK.1 h.1.1
  exact ⟨⟨QK.2 ⟨h1.1,by omega⟩,h.1.2⟩,QfB hi r (some c) h.2 (by simp;omega)⟩
theorem Qdp {n n':Int} (hn:n≤n'):∀ (l:List Int) (p:Option Int),QC n p l=true→QC n' p l=true
 | [],p,h=>rfl
 | c::r,p,h=>by
  simp only [QC,Bool.and_eq_true] at h ⊢
  have h1:=QK.1 h.1.1
  exact ⟨⟨QK.2 ⟨h1.1,by omega⟩,h.1.2⟩,Qdp hn r (some c) h.2⟩
end Go.Proofs.Ytephkbajoofeoaa.Am
namespace Go.Proofs.Ytephkbajoofeoaa.Am
open Go Sz
@[reducible] def Qah (_:List Int) (t:Qp × List Int):Prop:=t.1.length≤9
end Go.Proofs.Ytephkbajoofeoaa.Am

