/- -/
import Derived.Test.YtjbdljkhbglnhaaGreatZGG8
set_option linter.all false
namespace Go.Proofs.YtjbdljkhbglnhaaGreat.Am
open Go Sz
abbrev TCur:=List Int × Int × Int
def JF (l:List Int):Prop:=l.length≤1048576
def Qz (c:TCur):Prop:=0≤c.2.1∧c.1.length≤1048576
@[reducible] def Zh {α:Type} (c:TCur) (_:α):Prop:=Qz c
@[reducible] def QbT (_:List Int) (t:TCur):Prop:=Qz t
def Qd1 (code:List Int):Bool:=decide ((code.length:Int)>1048576)
def m_at (code:List Int) (i:Int):Int:=if i<code.length then w64 (gtd 0 code i.toNat) else Int.tmod (w64 (w64 (i*37)+w64 (code.length*11))) 256
def p_at (_:List Int) (i:Int):Prop:=0≤i
def QiD (_:TCur) (t:Int × TCur):Prop:=0≤t.1∧t.1≤255∧Qz t.2
def Qhr (_:TCur) (n:Int) (t:Int × TCur):Prop:=0≤t.1∧(0<n→t.1<n)∧(n≤0→t.1=0)∧Qz t.2
@[reducible] def QgB (_:TCur) (_:Int) (t:Bool × TCur):Prop:=Qz t.2
def YZ (c:TCur) (l:List Int):Prop:=Qz c∧1≤l.length∧l.length≤100
def Qhy (_:TCur) (l:List Int) (t:Int × TCur):Prop:=t.1∈l∧Qz t.2
def Qiu (_:TCur) (t:Int × TCur):Prop:=Zc t.1=true∧Qz t.2
@[reducible] def Qic (_:TCur) (t:Int × TCur):Prop:=Qz t.2
def Jv (c:TCur) (n:Int):Prop:=Qz c∧n≤1000
def Qcy (_:TCur) (n:Int) (t:List Int × TCur):Prop:=t.1.length=n.toNat∧Zs t.1=true∧Qz t.2
def QiK (_:TCur) (t:List Int × TCur):Prop:=t.1.length≤7∧Qz t.2
def p_op (c:TCur) (n:Int):Prop:=Qz c∧1≤n∧n≤3
def q_op (_:TCur) (n:Int) (t:TOp' × TCur):Prop:=Ze t.1=true∧t.1.2.1=n∧1≤t.1.2.2.1∧t.1.2.2.1≤3∧t.1.2.2.2.length≤36∧Qz t.2
def Qhz (_:TCur) (t:TOp' × TCur):Prop:=t.1.2.2.2.length≤40∧Qz t.2
def Qcg (_:TCur) (t:Q3 × TCur):Prop:=QE t.1=true∧t.1.length≤6∧Qz t.2
def QdJ (_:TCur) (t:Q3 × TCur):Prop:=t.1.length≤9∧Qz t.2
def QdY (c:TCur) (m:Q3):Prop:=Qz c∧m.length≤9
def QcX (_:TCur) (m:Q3) (t:List Int × TCur):Prop:=(QE m=true→Q5 m t.1=true)∧t.1.length≤3∧Qz t.2
theorem Qe4 (st s m:Int):(Z9 st s m).length≤3:=by unfold Z9;split <;> split <;> simp
theorem Qy6 (st s m:Int) (redo:Bool):(Ys st s m redo).length≤4:=by unfold Ys;split <;> split <;> split <;> simp
theorem QqV {α:Type} {f:Nat→List α} {R:Nat} (n:Nat) (h:∀ k,k<n→(f k).length≤R):((List.range n).flatMap f).length≤n*R:=by
 induction n with
 | zero=>simp
 | succ n ih =>
  have h1:=ih (fun k hk=>h k (by omega))
  have h2:=h n (by omega)
  rw [Qdy,List.length_append,Nat.add_mul];omega
theorem Qlo {st s mi:Int}:Yw st s mi=true↔1≤st∧st≤4∧0≤s∧s<st∧1≤mi∧mi≤5:=by
 simp only [Yw,Bool.and_eq_true,QL];omega
theorem Qmn {ds st s mi:Int} (h:Yw st s mi=true):0≤Y0 ds st s mi∧Y0 ds st s mi≤mi:=by
 have:=Qlo.1 h
 unfold Y0;rw [if_pos h]
 split
 ·unfold iMin;split <;> omega
 ·omega
def Qb1 (st s:Int) (w:Nat):List TIns:=(List.range w).flatMap fun m:Nat=>Z9 st s (m:Int)
def QhJ (st s mi:Int) (redo:Bool) (w m:Nat):List TIns:=(if (m:Int)+w<mi then Z9 st s ((m:Int)+w) else [])++Ys st s (m:Int) redo
def Qb3 (st s mi:Int) (redo:Bool) (w k:Nat):List TIns:=(List.range k).flatMap fun m:Nat=>QhJ st s mi redo w m
theorem QoF {ds st s mi:Int} {redo:Bool} (h:(m_in ds 1 2&&Yw st s mi)=true) :
  Ye ds st s mi redo=Qb1 st s (Y0 ds st s mi).toNat++Qb3 st s mi redo (Y0 ds st s mi).toNat mi.toNat++[(8,0)]:=by
 unfold Ye;rw [if_pos h];rfl
theorem Qvu {ds st s mi:Int} {redo:Bool} (h:¬ (m_in ds 1 2&&Yw st s mi)=true):Ye ds st s mi redo=[]:=by
 unfold Ye;rw [if_neg h]
theorem QfG (st s:Int) (w:Nat):(Qb1 st s w).length≤w*3:=QqV w (fun k _=>Qe4 st s k)
theorem QjB (st s mi:Int) (redo:Bool) (w k:Nat):(Qb3 st s mi redo w k).length≤k*7:=by
 refine QqV k (fun m _=>?_)
 have h1:=Qe4 st s ((m:Int)+w)
 have h2:=Qy6 st s m redo
 unfold QhJ
 rw [List.length_append]
 split
 ·omega
 ·simp only [List.length_nil];omega
theorem QMb (st s:Int) (w:Nat):Qb1 st s (w+1)=Qb1 st s w++Z9 st s w:=Qdy
theorem QPf (st s mi:Int) (redo:Bool) (w k:Nat):Qb3 st s mi redo w (k+1)=Qb3 st s mi redo w k++QhJ st s mi redo w k:=Qdy
theorem QEK {ds st s mi:Int}:(((ds != 1)&&(ds != 2))||(!(Yw st s mi))) = !(m_in ds 1 2&&Yw st s mi):=by
 have:((ds != 1)&&(ds != 2)) = !(m_in ds 1 2):=by
  rw [Bool.eq_iff_iff];simp [m_in];omega
 rw [this];cases m_in ds 1 2 <;> cases Yw st s mi <;> rfl
theorem Qi1 {α:Type} {l x:List α} (h:l.length+x.length≤1000000):(l.length=l.length∨l.length+(List.take x.length (List.drop 0 x)).length≤l.length)∧l.length+(List.take x.length (List.drop 0 x)).length≤big:=by
 rw [List.drop_zero,List.take_length];exact ⟨.inl rfl,by rw [Zw];omega⟩
theorem Qlb {α:Type} (l x:List α):List.take (l.length+(List.take x.length (List.drop 0 x)).length) (List.take l.length l++List.take x.length (List.drop 0 x))=l++x:=by
 rw [List.drop_zero,List.take_length,QwH]
end Go.Proofs.YtjbdljkhbglnhaaGreat.Am
namespace Go.Proofs.YtjbdljkhbglnhaaGreat.Am
open Go Sz
theorem QrA (ds st s mi:Int) (redo:Bool):(Ye ds st s mi redo).length≤51:=by
 by_cases h:(m_in ds 1 2&&Yw st s mi)=true
 ·rw [QoF h]
  have hq:Yw st s mi=true:=by simp only [Bool.and_eq_true] at h;exact h.2
  have hr:=Qlo.1 hq
  have hw:=Qmn (ds:=ds) hq
  have h1:=QfG st s (Y0 ds st s mi).toNat
  have h2:=QjB st s mi redo (Y0 ds st s mi).toNat mi.toNat
  rw [List.length_append,List.length_append]
  simp only [List.length_cons,List.length_nil]
  omega
 ·rw [Qvu h];simp
end Go.Proofs.YtjbdljkhbglnhaaGreat.Am
namespace Go.Proofs.YtjbdljkhbglnhaaGreat.Am
open Go Sz
theorem Q9 {α:Type} {q:α→Prop} {R:α→TRes} {x:α} (h:q x):∃ t,q t∧R x=R t:=⟨x,h,rfl⟩
theorem Qg5 (a:Int):0≤w64 (((BitVec.ofInt (IntKind.i64.bits) a &&& BitVec.ofInt (IntKind.i64.bits) 255).toNat:Nat):Int)∧w64 (((BitVec.ofInt (IntKind.i64.bits) a &&& BitVec.ofInt (IntKind.i64.bits) 255).toNat:Nat):Int)≤255:=by
 have h:(BitVec.ofInt (IntKind.i64.bits) a &&& BitVec.ofInt (IntKind.i64.bits) 255).toNat≤255:=by
  rw [BitVec.toNat_and]
  have:(BitVec.ofInt (IntKind.i64.bits) 255).toNat=255:=by decide
  rw [this]
  exact Nat.and_le_right
 rw [Qp (by omega) (by omega)]
 omega
theorem QEj {a b B:Int} (hb:0<b) (h1:-B≤a) (h2:a≤B):-B≤Int.tdiv a b∧Int.tdiv a b≤B:=by
 by_cases h:0≤a
 ·have h3:0≤Int.tdiv a b:=Int.tdiv_nonneg h (by omega)
  have h4:Int.tdiv a b≤a:=by
   rw [Int.tdiv_eq_ediv_of_nonneg h]
   exact Int.ediv_le_self b h
  omega
 ·have h5:Int.tdiv a b = - Int.tdiv (-a) b:=by rw [Int.neg_tdiv];omega
  have h3:0≤Int.tdiv (-a) b:=Int.tdiv_nonneg (by omega) (by omega)
  have h4:Int.tdiv (-a) b≤-a:=by
   rw [Int.tdiv_eq_ediv_of_nonneg (by omega)]
   exact Int.ediv_le_self b (by omega)
  omega
theorem QK3 {code:List Int} (h:Qd1 code=false):JF code:=by
 unfold Qd1 at h;unfold JF
 have:=of_decide_eq_false h
 omega
theorem QNG {α:Type} {d:α} {l:List α} {i:Nat} {x:α} (h:i<l.length):gtd d (l.set i x) i=x:=Qa5 (by simp [h]) d
theorem Qzo {α:Type} (d:α) (a:List α) (x:α) (r:List α):gtd d (a++x::r) a.length=x:=Qa5 (by simp) d
theorem Qo1 (k:Int) {a b:Int} (p:List Int) (h1:1≤a) (h2:a≤3) (h3:1≤b) (h4:b≤3):0≤Z3 (k,a,b,p)∧Z3 (k,a,b,p)≤9:=by
 have ha:a=1∨a=2∨a=3:=by omega
 have hb:b=1∨b=2∨b=3:=by omega
 simp only [Z3,m_in]
 rcases ha with rfl | rfl | rfl <;> rcases hb with rfl | rfl | rfl <;> simp <;> split <;> (try split) <;> (try split) <;> omega
theorem QIe {k a b:Int} {p:List Int} (h0:1≤k) (h0':k≤5) (h1:1≤a) (h2:a≤3) (h3:1≤b) (h4:b≤3) (h5:k=1∨a=b) (h6:p.length=(Z3 (k,a,b,[])).toNat) (h7:Zs p=true):Ze (k,a,b,p)=true:=by
 have h:=(Qo1 k [] h1 h2 h3 h4).1
 have e:Z3 (k,a,b,p)=Z3 (k,a,b,[]):=rfl
 simp only [Ze,m_in,Bool.and_eq_true,decide_eq_true_eq,Bool.or_eq_true,beq_iff_eq,e]
 refine ⟨⟨⟨⟨⟨⟨h0,h0'⟩,?_⟩,?_⟩,h5⟩,?_⟩,h7⟩ <;> omega
theorem QGJ {l:List Int} {x:Int} (h:Zs l=true) (hx:Zc x=true):Zs (l++[x])=true:=by
 simp only [Zs,List.all_append,List.all_cons,List.all_nil,Bool.and_true,Bool.and_eq_true] at h ⊢
 exact ⟨h,hx⟩
def Qmv:Option Int→List TOp'→Option Int
 | p,[]=>p
 | _,x::r=>Qmv (some x.2.2.1) r
def QiC (p:Option Int) (l:List TOp') (n:Int):Bool:=match Qmv p l with | none=>true | some q=>q==n
theorem Qn5:∀ (l:List TOp') (p:Option Int) (o:TOp'),Ym p l=true→Ze o=true→QiC p l o.2.1=true→Ym p (l++[o])=true
 | [],p,o,h,ho,hl=>by
  simp only [List.nil_append,Ym,ho,Bool.true_and,Bool.and_true]
  exact hl
 | x::l,p,o,h,ho,hl=>by
  simp only [Ym,Bool.and_eq_true,List.cons_append] at h ⊢
  exact ⟨h.1,Qn5 l (some x.2.2.1) o h.2 ho hl⟩
theorem QxB:∀ (l:List TOp') (p:Option Int) (o:TOp'),QiC p (l++[o]) o.2.2.1=true
 | [],p,o=>by simp [QiC,Qmv]
 | x::l,p,o=>QxB l (some x.2.2.1) o
theorem Qq6 {i:Int} (hi:1≤i):∀ (l:List Int) (p:Option Int),ZY (i-1) p l=true→(match p with | none=>true | some q=>decide (q<i))=true→ZY i p (l++[i])=true
 | [],p,h,hp=>by
  simp only [List.nil_append,ZY,Bool.and_true,Bool.and_eq_true]
  exact ⟨QL.2 ⟨hi,Int.le_refl _⟩,hp⟩
 | c::r,p,h,hp=>by
  simp only [List.cons_append,ZY,Bool.and_eq_true] at h ⊢
  have h1:=QL.1 h.1.1
  exact ⟨⟨QL.2 ⟨h1.1,by omega⟩,h.1.2⟩,Qq6 hi r (some c) h.2 (by simp;omega)⟩
theorem QkI {n n':Int} (hn:n≤n'):∀ (l:List Int) (p:Option Int),ZY n p l=true→ZY n' p l=true
 | [],p,h=>rfl
 | c::r,p,h=>by
  simp only [ZY,Bool.and_eq_true] at h ⊢
  have h1:=QL.1 h.1.1
  exact ⟨⟨QL.2 ⟨h1.1,by omega⟩,h.1.2⟩,QkI hn r (some c) h.2⟩
end Go.Proofs.YtjbdljkhbglnhaaGreat.Am
namespace Go.Proofs.YtjbdljkhbglnhaaGreat.Am
open Go Sz
def QOo (_:TCur) (_:Q3) (t:List Qd × TCur):Prop:=1≤t.1.length∧t.1.length≤4∧Qz t.2
def QdB (_:TCur) (_:Q3) (t:List Qd × TCur):Prop:=t.1.length≤6∧Qz t.2
def QGC (_:TCur) (t:Qh × List Qd × TCur):Prop:=t.1.2.1.length≤3∧1≤t.1.2.2.2.1.length∧t.1.2.2.2.1.length≤4∧t.1.2.2.2.2.1.length≤4∧1≤t.1.2.2.2.2.2.length∧t.1.2.2.2.2.2.length≤4∧Qz t.2.2
@[reducible] def Qlw (_:TCur) (t:Qh × List Qd × TCur):Prop:=t.1.2.2.2.1.length≤4
end Go.Proofs.YtjbdljkhbglnhaaGreat.Am

