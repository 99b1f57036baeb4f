/- -/
import Derived.Test.YtjbdljkhbglnhaaGreatZJG8
set_option linter.all false
namespace Go.Proofs.YtjbdljkhbglnhaaGreat.Am
open Go Sz
abbrev TCur:=List Int × Int × Int
def YQ (l:List Int):Prop:=l.length≤1048576
def QF (c:TCur):Prop:=0≤c.2.1∧c.1.length≤1048576
@[reducible] def Zq {α:Type} (c:TCur) (_:α):Prop:=QF c
@[reducible] def Qaf (_:List Int) (t:TCur):Prop:=QF t
def Qdo (code:List Int):Bool:=decide ((code.length:Int)>1048576)
def Qe3 (_:TCur) (t:Int × TCur):Prop:=0≤t.1∧t.1≤255∧QF t.2
def QdC (_:TCur) (n:Int) (t:Int × TCur):Prop:=0≤t.1∧(0<n→t.1<n)∧(n≤0→t.1=0)∧QF t.2
@[reducible] def Qf9 (_:TCur) (_:Int) (t:Bool × TCur):Prop:=QF t.2
def YA (c:TCur) (l:List Int):Prop:=QF c∧1≤l.length∧l.length≤100
def Qfo (_:TCur) (l:List Int) (t:Int × TCur):Prop:=t.1∈l∧QF t.2
def QdY (_:TCur) (t:Int × TCur):Prop:=QU t.1=true∧QF t.2
@[reducible] def Qe0 (_:TCur) (t:Int × TCur):Prop:=QF t.2
def Yb (c:TCur) (n:Int):Prop:=QF c∧n≤1000
def QaM (_:TCur) (n:Int) (t:List Int × TCur):Prop:=t.1.length=n.toNat∧Q8 t.1=true∧QF t.2
def QeP (_:TCur) (t:List Int × TCur):Prop:=t.1.length≤7∧QF t.2
def p_op (c:TCur) (n:Int):Prop:=QF c∧1≤n∧n≤3
def q_op (_:TCur) (n:Int) (t:TOp' × TCur):Prop:=QS t.1=true∧t.1.2.1=n∧1≤t.1.2.2.1∧t.1.2.2.1≤3∧t.1.2.2.2.length≤36∧QF t.2
def Qay (_:TCur) (t:Q6 × TCur):Prop:=QC t.1=true∧t.1.length≤6∧QF t.2
theorem QcN (st s m:Int):(Je st s m).length≤3:=by unfold Je;split <;> split <;> simp
theorem Qq0 (st s m:Int) (redo:Bool):(Qcg st s m redo).length≤4:=by unfold Qcg;split <;> split <;> split <;> simp
theorem Qoo {α:Type} {f:Nat→List α} {R:Nat} (n:Nat) (h:∀ k,k<n→(f k).length≤R):((List.range n).flatMap f).length≤n*R:=by
 induction n with
 | zero=>simp
 | succ n ih =>
  have h1:=ih (fun k hk=>h k (by omega))
  have h2:=h n (by omega)
  rw [Qb8,List.length_append,Nat.add_mul];omega
theorem Qul {st s mi:Int}:Yn st s mi=true↔1≤st∧st≤4∧0≤s∧s<st∧1≤mi∧mi≤5:=by
 simp only [Yn,Bool.and_eq_true,Zh];omega
theorem QnA {ds st s mi:Int} (h:Yn st s mi=true):0≤Z5 ds st s mi∧Z5 ds st s mi≤mi:=by
 have:=Qul.1 h
 unfold Z5;rw [if_pos h]
 split
 ·unfold iMin;split <;> omega
 ·omega
def J6 (st s:Int) (w:Nat):List TIns:=(List.range w).flatMap fun m:Nat=>Je st s (m:Int)
def QeN (st s mi:Int) (redo:Bool) (w m:Nat):List TIns:=(if (m:Int)+w<mi then Je st s ((m:Int)+w) else [])++Qcg st s (m:Int) redo
def Qai (st s mi:Int) (redo:Bool) (w k:Nat):List TIns:=(List.range k).flatMap fun m:Nat=>QeN st s mi redo w m
theorem Qz9 {ds st s mi:Int} {redo:Bool} (h:(m_in ds 1 2&&Yn st s mi)=true) :
  ZR ds st s mi redo=J6 st s (Z5 ds st s mi).toNat++Qai st s mi redo (Z5 ds st s mi).toNat mi.toNat++[(8,0)]:=by
 unfold ZR;rw [if_pos h];rfl
theorem QwP {ds st s mi:Int} {redo:Bool} (h:¬ (m_in ds 1 2&&Yn st s mi)=true):ZR ds st s mi redo=[]:=by
 unfold ZR;rw [if_neg h]
theorem Qg0 (st s:Int) (w:Nat):(J6 st s w).length≤w*3:=Qoo w (fun k _=>QcN st s k)
theorem QmX (st s mi:Int) (redo:Bool) (w k:Nat):(Qai st s mi redo w k).length≤k*7:=by
 refine Qoo k (fun m _=>?_)
 have h1:=QcN st s ((m:Int)+w)
 have h2:=Qq0 st s m redo
 unfold QeN
 rw [List.length_append]
 split
 ·omega
 ·simp only [List.length_nil];omega
theorem Qz8 (st s:Int) (w:Nat):J6 st s (w+1)=J6 st s w++Je st s w:=Qb8
theorem QHj (st s mi:Int) (redo:Bool) (w k:Nat):Qai st s mi redo w (k+1)=Qai st s mi redo w k++QeN st s mi redo w k:=Qb8
theorem QxJ {ds st s mi:Int}:((((!(m_in ds 1 2))||(!(m_in st 1 4)))||(!(m_in s 0 (w64 (st-1)))))||(!(m_in mi 1 5))) = !(m_in ds 1 2&&Yn st s mi):=by
 by_cases hst:m_in st 1 4=true
 ·have:=Zh.1 hst
  rw [Qs (by omega) (by omega)]
  unfold Yn
  cases m_in ds 1 2 <;> cases m_in st 1 4 <;> cases m_in s 0 (st-1) <;> cases m_in mi 1 5 <;> rfl
 ·simp only [Bool.not_eq_true] at hst
  unfold Yn
  rw [hst];cases m_in ds 1 2 <;> rfl
end Go.Proofs.YtjbdljkhbglnhaaGreat.Am
namespace Go.Proofs.YtjbdljkhbglnhaaGreat.Am
open Go Sz
theorem QvT {α:Type} {d:α} {l:List α} {n j:Nat} (h:j<n):gtd d (l.take n) j=gtd d l j:=by
 simp [gtd,List.getD_eq_getElem?_getD,List.getElem?_take,h]
end Go.Proofs.YtjbdljkhbglnhaaGreat.Am
namespace Go.Proofs.YtjbdljkhbglnhaaGreat.Am
open Go Sz
theorem ZD {α:Type} {q:α→Prop} {R:α→TRes} {x:α} (h:q x):∃ t,q t∧R x=R t:=⟨x,h,rfl⟩
theorem QeZ (a:Int):0≤w64 (((BitVec.ofInt (IntKind.i64.bits) a &&& BitVec.ofInt (IntKind.i64.bits) 255).toNat:Nat):Int)∧w64 (((BitVec.ofInt (IntKind.i64.bits) a &&& BitVec.ofInt (IntKind.i64.bits) 255).toNat:Nat):Int)≤255:=by
 have h:(BitVec.ofInt (IntKind.i64.bits) a &&& BitVec.ofInt (IntKind.i64.bits) 255).toNat≤255:=by
  rw [BitVec.toNat_and]
  have:(BitVec.ofInt (IntKind.i64.bits) 255).toNat=255:=by decide
  rw [this]
  exact Nat.and_le_right
 rw [Qs (by omega) (by omega)]
 omega
theorem QFa {a b B:Int} (hb:0<b) (h1:-B≤a) (h2:a≤B):-B≤Int.tdiv a b∧Int.tdiv a b≤B:=by
 by_cases h:0≤a
 ·have h3:0≤Int.tdiv a b:=Int.tdiv_nonneg h (by omega)
  have h4:Int.tdiv a b≤a:=by
   rw [Int.tdiv_eq_ediv_of_nonneg h]
   exact Int.ediv_le_self b h
  omega
 ·have h5:Int.tdiv a b = - Int.tdiv (-a) b:=by rw [Int.neg_tdiv];omega
  have h3:0≤Int.tdiv (-a) b:=Int.tdiv_nonneg (by omega) (by omega)
  have h4:Int.tdiv (-a) b≤-a:=by
   rw [Int.tdiv_eq_ediv_of_nonneg (by omega)]
   exact Int.ediv_le_self b (by omega)
  omega
theorem QI0 {code:List Int} (h:Qdo code=false):YQ code:=by
 unfold Qdo at h;unfold YQ
 have:=of_decide_eq_false h
 omega
theorem Qsh (k:Int) {a b:Int} (p:List Int) (h1:1≤a) (h2:a≤3) (h3:1≤b) (h4:b≤3):0≤ZE (k,a,b,p)∧ZE (k,a,b,p)≤9:=by
 have ha:a=1∨a=2∨a=3:=by omega
 have hb:b=1∨b=2∨b=3:=by omega
 simp only [ZE,m_in]
 rcases ha with rfl | rfl | rfl <;> rcases hb with rfl | rfl | rfl <;> simp <;> split <;> (try split) <;> (try split) <;> omega
theorem Qxm {k a b:Int} {p:List Int} (h0:1≤k) (h0':k≤5) (h1:1≤a) (h2:a≤3) (h3:1≤b) (h4:b≤3) (h5:k=1∨a=b) (h6:p.length=(ZE (k,a,b,[])).toNat) (h7:Q8 p=true):QS (k,a,b,p)=true:=by
 have h:=(Qsh k [] h1 h2 h3 h4).1
 have e:ZE (k,a,b,p)=ZE (k,a,b,[]):=rfl
 simp only [QS,m_in,Bool.and_eq_true,decide_eq_true_eq,Bool.or_eq_true,beq_iff_eq,e]
 refine ⟨⟨⟨⟨⟨⟨h0,h0'⟩,?_⟩,?_⟩,h5⟩,?_⟩,h7⟩ <;> omega
theorem QvU {l:List Int} {x:Int} (h:Q8 l=true) (hx:QU x=true):Q8 (l++[x])=true:=by
 simp only [Q8,List.all_append,List.all_cons,List.all_nil,Bool.and_true,Bool.and_eq_true] at h ⊢
 exact ⟨h,hx⟩
def Qgt:Option Int→List TOp'→Option Int
 | p,[]=>p
 | _,x::r=>Qgt (some x.2.2.1) r
def Qdr (p:Option Int) (l:List TOp') (n:Int):Bool:=match Qgt p l with | none=>true | some q=>q==n
theorem QnF:∀ (l:List TOp') (p:Option Int) (o:TOp'),ZO p l=true→QS o=true→Qdr p l o.2.1=true→ZO p (l++[o])=true
 | [],p,o,h,ho,hl=>by
  simp only [List.nil_append,ZO,ho,Bool.true_and,Bool.and_true]
  exact hl
 | x::l,p,o,h,ho,hl=>by
  simp only [ZO,Bool.and_eq_true,List.cons_append] at h ⊢
  exact ⟨h.1,QnF l (some x.2.2.1) o h.2 ho hl⟩
theorem QrB:∀ (l:List TOp') (p:Option Int) (o:TOp'),Qdr p (l++[o]) o.2.2.1=true
 | [],p,o=>by simp [Qdr,Qgt]
 | x::l,p,o=>QrB l (some x.2.2.1) o
end Go.Proofs.YtjbdljkhbglnhaaGreat.Am
namespace Go.Proofs.YtjbdljkhbglnhaaGreat.Am
open Go Sz
end Go.Proofs.YtjbdljkhbglnhaaGreat.Am

