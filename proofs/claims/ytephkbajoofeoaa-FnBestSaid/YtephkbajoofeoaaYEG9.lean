/- -/
import Derived.Test.YtephkbajoofeoaaYEG8
set_option linter.all false
namespace Go.Proofs.Ytephkbajoofeoaa.Am
open Go Sz
abbrev TCur:=List Int × Int × Int
def Zn (l:List Int):Prop:=l.length≤1048576
def Qh (c:TCur):Prop:=0≤c.2.1∧c.1.length≤1048576
@[reducible] def QI {α:Type} (c:TCur) (_:α):Prop:=Qh c
@[reducible] def Yj (_:List Int) (t:TCur):Prop:=Qh t
def JH (code:List Int):Bool:=decide ((code.length:Int)>1048576)
def QaK (_:TCur) (t:Int × TCur):Prop:=0≤t.1∧t.1≤255∧Qh t.2
def QaO (_:TCur) (n:Int) (t:Int × TCur):Prop:=0≤t.1∧(0<n→t.1<n)∧(n≤0→t.1=0)∧Qh t.2
@[reducible] def QbB (_:TCur) (_:Int) (t:Bool × TCur):Prop:=Qh t.2
def Zw (c:TCur) (l:List Int):Prop:=Qh c∧1≤l.length∧l.length≤100
def Qa4 (_:TCur) (l:List Int) (t:Int × TCur):Prop:=t.1∈l∧Qh t.2
def Qaa (_:TCur) (t:Int × TCur):Prop:=QS t.1=true∧Qh t.2
@[reducible] def QbF (_:TCur) (t:Int × TCur):Prop:=Qh t.2
def Y7 (c:TCur) (n:Int):Prop:=Qh c∧n≤1000
def Yy (_:TCur) (n:Int) (t:List Int × TCur):Prop:=t.1.length=n.toNat∧Q4 t.1=true∧Qh t.2
def p_op (c:TCur) (n:Int):Prop:=Qh c∧1≤n∧n≤3
def q_op (_:TCur) (n:Int) (t:TOp' × TCur):Prop:=QE t.1=true∧t.1.2.1=n∧1≤t.1.2.2.1∧t.1.2.2.1≤3∧t.1.2.2.2.length≤36∧Qh t.2
def Qa9 (_:TCur) (t:TOp' × TCur):Prop:=t.1.2.2.2.length≤40∧Qh t.2
def YS (_:TCur) (t:Qw × TCur):Prop:=Qn t.1=true∧t.1.length≤6∧Qh t.2
def YA (_:TCur) (t:Qw × TCur):Prop:=t.1.length≤9∧Qh t.2
end Go.Proofs.Ytephkbajoofeoaa.Am
namespace Go.Proofs.Ytephkbajoofeoaa.Am
open Go Sz
end Go.Proofs.Ytephkbajoofeoaa.Am
namespace Go.Proofs.Ytephkbajoofeoaa.Am
open Go Sz
theorem QB {α:Type} {q:α→Prop} {R:α→TRes} {x:α} (h:q x):∃ t,q t∧R x=R t:=⟨x,h,rfl⟩
theorem Qbw (a:Int):0≤w64 (((BitVec.ofInt (IntKind.i64.bits) a &&& BitVec.ofInt (IntKind.i64.bits) 255).toNat:Nat):Int)∧w64 (((BitVec.ofInt (IntKind.i64.bits) a &&& BitVec.ofInt (IntKind.i64.bits) 255).toNat:Nat):Int)≤255:=by
 have h:(BitVec.ofInt (IntKind.i64.bits) a &&& BitVec.ofInt (IntKind.i64.bits) 255).toNat≤255:=by
  rw [BitVec.toNat_and]
  have:(BitVec.ofInt (IntKind.i64.bits) 255).toNat=255:=by decide
  rw [this]
  exact Nat.and_le_right
 rw [Qi (by omega) (by omega)]
 omega
theorem QlI {a b B:Int} (hb:0<b) (h1:-B≤a) (h2:a≤B):-B≤Int.tdiv a b∧Int.tdiv a b≤B:=by
 by_cases h:0≤a
 ·have h3:0≤Int.tdiv a b:=Int.tdiv_nonneg h (by omega)
  have h4:Int.tdiv a b≤a:=by
   rw [Int.tdiv_eq_ediv_of_nonneg h]
   exact Int.ediv_le_self b h
  omega
 ·have h5:Int.tdiv a b = - Int.tdiv (-a) b:=by rw [Int.neg_tdiv];omega
  have h3:0≤Int.tdiv (-a) b:=Int.tdiv_nonneg (by omega) (by omega)
  have h4:Int.tdiv (-a) b≤-a:=by
   rw [Int.tdiv_eq_ediv_of_nonneg (by omega)]
   exact Int.ediv_le_self b (by omega)
  omega
theorem Qjt {code:List Int} (h:JH code=false):Zn code:=by
 unfold JH at h;unfold Zn
 have:=of_decide_eq_false h
 omega
theorem QlT {α:Type} (d:α) (a:List α) (x:α) (r:List α):gtd d (a++x::r) a.length=x:=Qoe (by simp) d
theorem Qim (k:Int) {a b:Int} (p:List Int) (h1:1≤a) (h2:a≤3) (h3:1≤b) (h4:b≤3):0≤QH (k,a,b,p)∧QH (k,a,b,p)≤9:=by
 have ha:a=1∨a=2∨a=3:=by omega
 have hb:b=1∨b=2∨b=3:=by omega
 simp only [QH,m_in]
 rcases ha with rfl | rfl | rfl <;> rcases hb with rfl | rfl | rfl <;> simp <;> split <;> (try split) <;> (try split) <;> omega
theorem Qk8 {k a b:Int} {p:List Int} (h0:1≤k) (h0':k≤5) (h1:1≤a) (h2:a≤3) (h3:1≤b) (h4:b≤3) (h5:k=1∨a=b) (h6:p.length=(QH (k,a,b,[])).toNat) (h7:Q4 p=true):QE (k,a,b,p)=true:=by
 have h:=(Qim k [] h1 h2 h3 h4).1
 have e:QH (k,a,b,p)=QH (k,a,b,[]):=rfl
 simp only [QE,m_in,Bool.and_eq_true,decide_eq_true_eq,Bool.or_eq_true,beq_iff_eq,e]
 refine ⟨⟨⟨⟨⟨⟨h0,h0'⟩,?_⟩,?_⟩,h5⟩,?_⟩,h7⟩ <;> omega
theorem Qoq {l:List Int} {x:Int} (h:Q4 l=true) (hx:QS x=true):Q4 (l++[x])=true:=by
 simp only [Q4,List.all_append,List.all_cons,List.all_nil,Bool.and_true,Bool.and_eq_true] at h ⊢
 exact ⟨h,hx⟩
def QcI:Option Int→List TOp'→Option Int
 | p,[]=>p
 | _,x::r=>QcI (some x.2.2.1) r
def Qbz (p:Option Int) (l:List TOp') (n:Int):Bool:=match QcI p l with | none=>true | some q=>q==n
theorem Qgn:∀ (l:List TOp') (p:Option Int) (o:TOp'),Q0 p l=true→QE o=true→Qbz p l o.2.1=true→Q0 p (l++[o])=true
 | [],p,o,h,ho,hl=>by
  simp only [List.nil_append,Q0,ho,Bool.true_and,Bool.and_true]
  exact hl
 | x::l,p,o,h,ho,hl=>by
  simp only [Q0,Bool.and_eq_true,List.cons_append] at h ⊢
  exact ⟨h.1,Qgn l (some x.2.2.1) o h.2 ho hl⟩
theorem Qi1:∀ (l:List TOp') (p:Option Int) (o:TOp'),Qbz p (l++[o]) o.2.2.1=true
 | [],p,o=>by simp [Qbz,QcI]
 | x::l,p,o=>Qi1 l (some x.2.2.1) o
end Go.Proofs.Ytephkbajoofeoaa.Am
namespace Go.Proofs.Ytephkbajoofeoaa.Am
open Go Sz
@[reducible] def QaH (_:List Int) (t:Qw × Int):Prop:=t.1.length≤9
end Go.Proofs.Ytephkbajoofeoaa.Am

