/- -/
import Derived.Test.YtephkbajoofeoaaYDG8
set_option linter.all false
namespace Go.Proofs.Ytephkbajoofeoaa.Am
open Go Sz
abbrev TCur:=List Int × Int × Int
def Zy (l:List Int):Prop:=l.length≤1048576
def Qe (c:TCur):Prop:=0≤c.2.1∧c.1.length≤1048576
@[reducible] def Qx {α:Type} (c:TCur) (_:α):Prop:=Qe c
@[reducible] def Yp (_:List Int) (t:TCur):Prop:=Qe t
def JS (code:List Int):Bool:=decide ((code.length:Int)>1048576)
def m_at (code:List Int) (i:Int):Int:=if i<code.length then w64 (gtd 0 code i.toNat) else Int.tmod (w64 (w64 (i*37)+w64 (code.length*11))) 256
def p_at (_:List Int) (i:Int):Prop:=0≤i
def Qb8 (_:TCur) (t:Int × TCur):Prop:=0≤t.1∧t.1≤255∧Qe t.2
def Qa6 (_:TCur) (n:Int) (t:Int × TCur):Prop:=0≤t.1∧(0<n→t.1<n)∧(n≤0→t.1=0)∧Qe t.2
@[reducible] def Qbe (_:TCur) (_:Int) (t:Bool × TCur):Prop:=Qe t.2
def Q9 (c:TCur) (l:List Int):Prop:=Qe c∧1≤l.length∧l.length≤100
def QbC (_:TCur) (l:List Int) (t:Int × TCur):Prop:=t.1∈l∧Qe t.2
def Qbp (_:TCur) (t:Int × TCur):Prop:=Q6 t.1=true∧Qe t.2
@[reducible] def Qbv (_:TCur) (t:Int × TCur):Prop:=Qe t.2
def Zi (c:TCur) (n:Int):Prop:=Qe c∧n≤1000
def YC (_:TCur) (n:Int) (t:List Int × TCur):Prop:=t.1.length=n.toNat∧Za t.1=true∧Qe t.2
def Qay (_:TCur) (t:List Int × TCur):Prop:=t.1.length≤7∧Qe t.2
def p_op (c:TCur) (n:Int):Prop:=Qe c∧1≤n∧n≤3
def q_op (_:TCur) (n:Int) (t:TOp' × TCur):Prop:=QQ t.1=true∧t.1.2.1=n∧1≤t.1.2.2.1∧t.1.2.2.1≤3∧t.1.2.2.2.length≤36∧Qe t.2
def QaX (_:TCur) (t:TOp' × TCur):Prop:=t.1.2.2.2.length≤40∧Qe t.2
def YA (_:TCur) (t:QF × TCur):Prop:=Qu t.1=true∧t.1.length≤6∧Qe t.2
def Js (_:TCur) (t:QF × TCur):Prop:=t.1.length≤9∧Qe t.2
def Jo (c:TCur) (m:QF):Prop:=Qe c∧m.length≤9
def YR (_:TCur) (m:QF) (t:List Int × TCur):Prop:=(Qu m=true→Qw m t.1=true)∧t.1.length≤3∧Qe t.2
end Go.Proofs.Ytephkbajoofeoaa.Am
namespace Go.Proofs.Ytephkbajoofeoaa.Am
open Go Sz
end Go.Proofs.Ytephkbajoofeoaa.Am
namespace Go.Proofs.Ytephkbajoofeoaa.Am
open Go Sz
theorem Qo {α:Type} {q:α→Prop} {R:α→TRes} {x:α} (h:q x):∃ t,q t∧R x=R t:=⟨x,h,rfl⟩
theorem Qb2 (a:Int):0≤w64 (((BitVec.ofInt (IntKind.i64.bits) a &&& BitVec.ofInt (IntKind.i64.bits) 255).toNat:Nat):Int)∧w64 (((BitVec.ofInt (IntKind.i64.bits) a &&& BitVec.ofInt (IntKind.i64.bits) 255).toNat:Nat):Int)≤255:=by
 have h:(BitVec.ofInt (IntKind.i64.bits) a &&& BitVec.ofInt (IntKind.i64.bits) 255).toNat≤255:=by
  rw [BitVec.toNat_and]
  have:(BitVec.ofInt (IntKind.i64.bits) 255).toNat=255:=by decide
  rw [this]
  exact Nat.and_le_right
 rw [Qi (by omega) (by omega)]
 omega
theorem QnR {a b B:Int} (hb:0<b) (h1:-B≤a) (h2:a≤B):-B≤Int.tdiv a b∧Int.tdiv a b≤B:=by
 by_cases h:0≤a
 ·have h3:0≤Int.tdiv a b:=Int.tdiv_nonneg h (by omega)
  have h4:Int.tdiv a b≤a:=by
   rw [Int.tdiv_eq_ediv_of_nonneg h]
   exact Int.ediv_le_self b h
  omega
 ·have h5:Int.tdiv a b = - Int.tdiv (-a) b:=by rw [Int.neg_tdiv];omega
  have h3:0≤Int.tdiv (-a) b:=Int.tdiv_nonneg (by omega) (by omega)
  have h4:Int.tdiv (-a) b≤-a:=by
   rw [Int.tdiv_eq_ediv_of_nonneg (by omega)]
   exact Int.ediv_le_self b (by omega)
  omega
theorem Qks {code:List Int} (h:JS code=false):Zy code:=by
 unfold JS at h;unfold Zy
 have:=of_decide_eq_false h
 omega
theorem Qqr {α:Type} (d:α) (a:List α) (x:α) (r:List α):gtd d (a++x::r) a.length=x:=QeE (by simp) d
theorem Qg1 (k:Int) {a b:Int} (p:List Int) (h1:1≤a) (h2:a≤3) (h3:1≤b) (h4:b≤3):0≤QT (k,a,b,p)∧QT (k,a,b,p)≤9:=by
 have ha:a=1∨a=2∨a=3:=by omega
 have hb:b=1∨b=2∨b=3:=by omega
 simp only [QT,m_in]
 rcases ha with rfl | rfl | rfl <;> rcases hb with rfl | rfl | rfl <;> simp <;> split <;> (try split) <;> (try split) <;> omega
theorem Ql0 {k a b:Int} {p:List Int} (h0:1≤k) (h0':k≤5) (h1:1≤a) (h2:a≤3) (h3:1≤b) (h4:b≤3) (h5:k=1∨a=b) (h6:p.length=(QT (k,a,b,[])).toNat) (h7:Za p=true):QQ (k,a,b,p)=true:=by
 have h:=(Qg1 k [] h1 h2 h3 h4).1
 have e:QT (k,a,b,p)=QT (k,a,b,[]):=rfl
 simp only [QQ,m_in,Bool.and_eq_true,decide_eq_true_eq,Bool.or_eq_true,beq_iff_eq,e]
 refine ⟨⟨⟨⟨⟨⟨h0,h0'⟩,?_⟩,?_⟩,h5⟩,?_⟩,h7⟩ <;> omega
theorem Qj0 {l:List Int} {x:Int} (h:Za l=true) (hx:Q6 x=true):Za (l++[x])=true:=by
 simp only [Za,List.all_append,List.all_cons,List.all_nil,Bool.and_true,Bool.and_eq_true] at h ⊢
 exact ⟨h,hx⟩
def Qdl:Option Int→List TOp'→Option Int
 | p,[]=>p
 | _,x::r=>Qdl (some x.2.2.1) r
def QaV (p:Option Int) (l:List TOp') (n:Int):Bool:=match Qdl p l with | none=>true | some q=>q==n
theorem Qjt:∀ (l:List TOp') (p:Option Int) (o:TOp'),Q4 p l=true→QQ o=true→QaV p l o.2.1=true→Q4 p (l++[o])=true
 | [],p,o,h,ho,hl=>by
  simp only [List.nil_append,Q4,ho,Bool.true_and,Bool.and_true]
  exact hl
 | x::l,p,o,h,ho,hl=>by
  simp only [Q4,Bool.and_eq_true,List.cons_append] at h ⊢
  exact ⟨h.1,Qjt l (some x.2.2.1) o h.2 ho hl⟩
theorem Qfw:∀ (l:List TOp') (p:Option Int) (o:TOp'),QaV p (l++[o]) o.2.2.1=true
 | [],p,o=>by simp [QaV,Qdl]
 | x::l,p,o=>Qfw l (some x.2.2.1) o
theorem Qe7 {i:Int} (hi:1≤i):∀ (l:List Int) (p:Option Int),QW (i-1) p l=true→(match p with | none=>true | some q=>decide (q<i))=true→QW i p (l++[i])=true
 | [],p,h,hp=>by
  simp only [List.nil_append,QW,Bool.and_true,Bool.and_eq_true]
  exact ⟨QE.2 ⟨hi,Int.le_refl _⟩,hp⟩
 | c::r,p,h,hp=>by
  simp only [List.cons_append,QW,Bool.and_eq_true] at h ⊢
  have h1:=QE.1 h.1.1
  exact ⟨⟨QE.2 ⟨h1.1,by omega⟩,h.1.2⟩,Qe7 hi r (some c) h.2 (by simp;omega)⟩
theorem Qd6 {n n':Int} (hn:n≤n'):∀ (l:List Int) (p:Option Int),QW n p l=true→QW n' p l=true
 | [],p,h=>rfl
 | c::r,p,h=>by
  simp only [QW,Bool.and_eq_true] at h ⊢
  have h1:=QE.1 h.1.1
  exact ⟨⟨QE.2 ⟨h1.1,by omega⟩,h.1.2⟩,Qd6 hn r (some c) h.2⟩
end Go.Proofs.Ytephkbajoofeoaa.Am
namespace Go.Proofs.Ytephkbajoofeoaa.Am
open Go Sz
def Qm7 (_:TCur) (_:QF) (t:List Qk × TCur):Prop:=1≤t.1.length∧t.1.length≤4∧Qe t.2
def Jz (_:TCur) (_:QF) (t:List Qk × TCur):Prop:=t.1.length≤6∧Qe t.2
@[reducible] def QaN (_:List Int) (t:Qf × List Qk):Prop:=t.1.2.2.2.1.length≤4
def Ql4 (_:TCur) (t:Qf × List Qk × TCur):Prop:=t.1.2.1.length≤3∧1≤t.1.2.2.2.1.length∧t.1.2.2.2.1.length≤4∧t.1.2.2.2.2.1.length≤4∧1≤t.1.2.2.2.2.2.length∧t.1.2.2.2.2.2.length≤4∧Qe t.2.2
@[reducible] def QaH (_:TCur) (t:Qf × List Qk × TCur):Prop:=t.1.2.2.2.1.length≤4
end Go.Proofs.Ytephkbajoofeoaa.Am

