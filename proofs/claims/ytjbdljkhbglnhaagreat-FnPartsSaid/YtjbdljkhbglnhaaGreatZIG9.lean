/- -/
import Derived.Test.YtjbdljkhbglnhaaGreatZIG8
set_option linter.all false
namespace Go.Proofs.YtjbdljkhbglnhaaGreat.Am
open Go Sz
abbrev TCur:=List Int × Int × Int
def JO (l:List Int):Prop:=l.length≤1048576
def QQ (c:TCur):Prop:=0≤c.2.1∧c.1.length≤1048576
@[reducible] def Zr {α:Type} (c:TCur) (_:α):Prop:=QQ c
@[reducible] def QbE (_:List Int) (t:TCur):Prop:=QQ t
def QfR (code:List Int):Bool:=decide ((code.length:Int)>1048576)
def m_at (code:List Int) (i:Int):Int:=if i<code.length then w64 (gtd 0 code i.toNat) else Int.tmod (w64 (w64 (i*37)+w64 (code.length*11))) 256
def p_at (_:List Int) (i:Int):Prop:=0≤i
def QiS (_:TCur) (t:Int × TCur):Prop:=0≤t.1∧t.1≤255∧QQ t.2
def Qid (_:TCur) (n:Int) (t:Int × TCur):Prop:=0≤t.1∧(0<n→t.1<n)∧(n≤0→t.1=0)∧QQ t.2
@[reducible] def Qix (_:TCur) (_:Int) (t:Bool × TCur):Prop:=QQ t.2
def Y9 (c:TCur) (l:List Int):Prop:=QQ c∧1≤l.length∧l.length≤100
def Qj8 (_:TCur) (l:List Int) (t:Int × TCur):Prop:=t.1∈l∧QQ t.2
def Qjc (_:TCur) (t:Int × TCur):Prop:=Zb t.1=true∧QQ t.2
@[reducible] def QjQ (_:TCur) (t:Int × TCur):Prop:=QQ t.2
def JM (c:TCur) (n:Int):Prop:=QQ c∧n≤1000
def Qcp (_:TCur) (n:Int) (t:List Int × TCur):Prop:=t.1.length=n.toNat∧Zz t.1=true∧QQ t.2
def Qks (_:TCur) (t:List Int × TCur):Prop:=t.1.length≤7∧QQ t.2
def p_op (c:TCur) (n:Int):Prop:=QQ c∧1≤n∧n≤3
def q_op (_:TCur) (n:Int) (t:TOp' × TCur):Prop:=Zd t.1=true∧t.1.2.1=n∧1≤t.1.2.2.1∧t.1.2.2.1≤3∧t.1.2.2.2.length≤36∧QQ t.2
def Qcv (_:TCur) (t:Zf × TCur):Prop:=QT t.1=true∧t.1.length≤6∧QQ t.2
def Qd6 (c:TCur) (m:Zf):Prop:=QQ c∧m.length≤9
def QcV (_:TCur) (m:Zf) (t:List Int × TCur):Prop:=(QT m=true→Zy m t.1=true)∧t.1.length≤3∧QQ t.2
theorem Qfr (st s m:Int):(QaM st s m).length≤3:=by unfold QaM;split <;> split <;> simp
theorem QAo (st s m:Int) (redo:Bool):(QdA st s m redo).length≤4:=by unfold QdA;split <;> split <;> split <;> simp
theorem QwK {α:Type} {f:Nat→List α} {R:Nat} (n:Nat) (h:∀ k,k<n→(f k).length≤R):((List.range n).flatMap f).length≤n*R:=by
 induction n with
 | zero=>simp
 | succ n ih =>
  have h1:=ih (fun k hk=>h k (by omega))
  have h2:=h n (by omega)
  rw [Qd5,List.length_append,Nat.add_mul];omega
theorem Qpu {st s mi:Int}:Y7 st s mi=true↔1≤st∧st≤4∧0≤s∧s<st∧1≤mi∧mi≤5:=by
 simp only [Y7,Bool.and_eq_true,QP];omega
theorem QkR {ds st s mi:Int} (h:Y7 st s mi=true):0≤YJ ds st s mi∧YJ ds st s mi≤mi:=by
 have:=Qpu.1 h
 unfold YJ;rw [if_pos h]
 split
 ·unfold iMin;split <;> omega
 ·omega
def Qbz (st s:Int) (w:Nat):List TIns:=(List.range w).flatMap fun m:Nat=>QaM st s (m:Int)
def QiE (st s mi:Int) (redo:Bool) (w m:Nat):List TIns:=(if (m:Int)+w<mi then QaM st s ((m:Int)+w) else [])++QdA st s (m:Int) redo
def Qcl (st s mi:Int) (redo:Bool) (w k:Nat):List TIns:=(List.range k).flatMap fun m:Nat=>QiE st s mi redo w m
theorem QwQ {ds st s mi:Int} {redo:Bool} (h:(m_in ds 1 2&&Y7 st s mi)=true) :
  YA ds st s mi redo=Qbz st s (YJ ds st s mi).toNat++Qcl st s mi redo (YJ ds st s mi).toNat mi.toNat++[(8,0)]:=by
 unfold YA;rw [if_pos h];rfl
theorem Qwm {ds st s mi:Int} {redo:Bool} (h:¬ (m_in ds 1 2&&Y7 st s mi)=true):YA ds st s mi redo=[]:=by
 unfold YA;rw [if_neg h]
theorem Qj7 (st s:Int) (w:Nat):(Qbz st s w).length≤w*3:=QwK w (fun k _=>Qfr st s k)
theorem Qov (st s mi:Int) (redo:Bool) (w k:Nat):(Qcl st s mi redo w k).length≤k*7:=by
 refine QwK k (fun m _=>?_)
 have h1:=Qfr st s ((m:Int)+w)
 have h2:=QAo st s m redo
 unfold QiE
 rw [List.length_append]
 split
 ·omega
 ·simp only [List.length_nil];omega
theorem QTI (st s:Int) (w:Nat):Qbz st s (w+1)=Qbz st s w++QaM st s w:=Qd5
theorem QOn (st s mi:Int) (redo:Bool) (w k:Nat):Qcl st s mi redo w (k+1)=Qcl st s mi redo w k++QiE st s mi redo w k:=Qd5
theorem QSU {ds st s mi:Int}:((((!(m_in ds 1 2))||(!(m_in st 1 4)))||(!(m_in s 0 (w64 (st-1)))))||(!(m_in mi 1 5))) = !(m_in ds 1 2&&Y7 st s mi):=by
 by_cases hst:m_in st 1 4=true
 ·have:=QP.1 hst
  rw [Qp (by omega) (by omega)]
  unfold Y7
  cases m_in ds 1 2 <;> cases m_in st 1 4 <;> cases m_in s 0 (st-1) <;> cases m_in mi 1 5 <;> rfl
 ·simp only [Bool.not_eq_true] at hst
  unfold Y7
  rw [hst];cases m_in ds 1 2 <;> rfl
end Go.Proofs.YtjbdljkhbglnhaaGreat.Am
namespace Go.Proofs.YtjbdljkhbglnhaaGreat.Am
open Go Sz
theorem QNt {α:Type} {d:α} {l:List α} {n j:Nat} (h:j<n):gtd d (l.take n) j=gtd d l j:=by
 simp [gtd,List.getD_eq_getElem?_getD,List.getElem?_take,h]
theorem QXZ (x y:TIns):decide (([x.1,x.2]:List Int)=[y.1,y.2])=decide (x=y):=by
 rw [decide_eq_decide];simp [Prod.ext_iff]
theorem Qv7 (ds st s mi:Int) (redo:Bool):(YA ds st s mi redo).length≤51:=by
 by_cases h:(m_in ds 1 2&&Y7 st s mi)=true
 ·rw [QwQ h]
  have hq:Y7 st s mi=true:=by simp only [Bool.and_eq_true] at h;exact h.2
  have hr:=Qpu.1 hq
  have hw:=QkR (ds:=ds) hq
  have h1:=Qj7 st s (YJ ds st s mi).toNat
  have h2:=Qov st s mi redo (YJ ds st s mi).toNat mi.toNat
  rw [List.length_append,List.length_append]
  simp only [List.length_cons,List.length_nil]
  omega
 ·rw [Qwm h];simp
end Go.Proofs.YtjbdljkhbglnhaaGreat.Am
namespace Go.Proofs.YtjbdljkhbglnhaaGreat.Am
open Go Sz
theorem ZM {α:Type} {q:α→Prop} {R:α→TRes} {x:α} (h:q x):∃ t,q t∧R x=R t:=⟨x,h,rfl⟩
theorem Qgo (a:Int):0≤w64 (((BitVec.ofInt (IntKind.i64.bits) a &&& BitVec.ofInt (IntKind.i64.bits) 255).toNat:Nat):Int)∧w64 (((BitVec.ofInt (IntKind.i64.bits) a &&& BitVec.ofInt (IntKind.i64.bits) 255).toNat:Nat):Int)≤255:=by
 have h:(BitVec.ofInt (IntKind.i64.bits) a &&& BitVec.ofInt (IntKind.i64.bits) 255).toNat≤255:=by
  rw [BitVec.toNat_and]
  have:(BitVec.ofInt (IntKind.i64.bits) 255).toNat=255:=by decide
  rw [this]
  exact Nat.and_le_right
 rw [Qp (by omega) (by omega)]
 omega
theorem QHs {a b B:Int} (hb:0<b) (h1:-B≤a) (h2:a≤B):-B≤Int.tdiv a b∧Int.tdiv a b≤B:=by
 by_cases h:0≤a
 ·have h3:0≤Int.tdiv a b:=Int.tdiv_nonneg h (by omega)
  have h4:Int.tdiv a b≤a:=by
   rw [Int.tdiv_eq_ediv_of_nonneg h]
   exact Int.ediv_le_self b h
  omega
 ·have h5:Int.tdiv a b = - Int.tdiv (-a) b:=by rw [Int.neg_tdiv];omega
  have h3:0≤Int.tdiv (-a) b:=Int.tdiv_nonneg (by omega) (by omega)
  have h4:Int.tdiv (-a) b≤-a:=by
   rw [Int.tdiv_eq_ediv_of_nonneg (by omega)]
   exact Int.ediv_le_self b (by omega)
  omega
theorem QU9 {code:List Int} (h:QfR code=false):JO code:=by
 unfold QfR at h;unfold JO
 have:=of_decide_eq_false h
 omega
theorem QHn {α:Type} (d:α) (a:List α) (x:α) (r:List α):gtd d (a++x::r) a.length=x:=QbL (by simp) d
theorem QuI (k:Int) {a b:Int} (p:List Int) (h1:1≤a) (h2:a≤3) (h3:1≤b) (h4:b≤3):0≤Yc (k,a,b,p)∧Yc (k,a,b,p)≤9:=by
 have ha:a=1∨a=2∨a=3:=by omega
 have hb:b=1∨b=2∨b=3:=by omega
 simp only [Yc,m_in]
 rcases ha with rfl | rfl | rfl <;> rcases hb with rfl | rfl | rfl <;> simp <;> split <;> (try split) <;> (try split) <;> omega
theorem QF0 {k a b:Int} {p:List Int} (h0:1≤k) (h0':k≤5) (h1:1≤a) (h2:a≤3) (h3:1≤b) (h4:b≤3) (h5:k=1∨a=b) (h6:p.length=(Yc (k,a,b,[])).toNat) (h7:Zz p=true):Zd (k,a,b,p)=true:=by
 have h:=(QuI k [] h1 h2 h3 h4).1
 have e:Yc (k,a,b,p)=Yc (k,a,b,[]):=rfl
 simp only [Zd,m_in,Bool.and_eq_true,decide_eq_true_eq,Bool.or_eq_true,beq_iff_eq,e]
 refine ⟨⟨⟨⟨⟨⟨h0,h0'⟩,?_⟩,?_⟩,h5⟩,?_⟩,h7⟩ <;> omega
theorem QEW {l:List Int} {x:Int} (h:Zz l=true) (hx:Zb x=true):Zz (l++[x])=true:=by
 simp only [Zz,List.all_append,List.all_cons,List.all_nil,Bool.and_true,Bool.and_eq_true] at h ⊢
 exact ⟨h,hx⟩
def Qog:Option Int→List TOp'→Option Int
 | p,[]=>p
 | _,x::r=>Qog (some x.2.2.1) r
def Qje (p:Option Int) (l:List TOp') (n:Int):Bool:=match Qog p l with | none=>true | some q=>q==n
theorem QCw:∀ (l:List TOp') (p:Option Int) (o:TOp'),Yt p l=true→Zd o=true→Qje p l o.2.1=true→Yt p (l++[o])=true
 | [],p,o,h,ho,hl=>by
  simp only [List.nil_append,Yt,ho,Bool.true_and,Bool.and_true]
  exact hl
 | x::l,p,o,h,ho,hl=>by
  simp only [Yt,Bool.and_eq_true,List.cons_append] at h ⊢
  exact ⟨h.1,QCw l (some x.2.2.1) o h.2 ho hl⟩
theorem Qx0:∀ (l:List TOp') (p:Option Int) (o:TOp'),Qje p (l++[o]) o.2.2.1=true
 | [],p,o=>by simp [Qje,Qog]
 | x::l,p,o=>Qx0 l (some x.2.2.1) o
theorem QuP {i:Int} (hi:1≤i):∀ (l:List Int) (p:Option Int),YC (i-1) p l=true→(match p with | none=>true | some q=>decide (q<i))=true→YC i p (l++[i])=true
 | [],p,h,hp=>by
  simp only [List.nil_append,YC,Bool.and_true,Bool.and_eq_true]
  exact ⟨QP.2 ⟨hi,Int.le_refl _⟩,hp⟩
 | c::r,p,h,hp=>by
  simp only [List.cons_append,YC,Bool.and_eq_true] at h ⊢
  have h1:=QP.1 h.1.1
  exact ⟨⟨QP.2 ⟨h1.1,by omega⟩,h.1.2⟩,QuP hi r (some c) h.2 (by simp;omega)⟩
theorem QmH {n n':Int} (hn:n≤n'):∀ (l:List Int) (p:Option Int),YC n p l=true→YC n' p l=true
 | [],p,h=>rfl
 | c::r,p,h=>by
  simp only [YC,Bool.and_eq_true] at h ⊢
  have h1:=QP.1 h.1.1
  exact ⟨⟨QP.2 ⟨h1.1,by omega⟩,h.1.2⟩,QmH hn r (some c) h.2⟩
end Go.Proofs.YtjbdljkhbglnhaaGreat.Am
namespace Go.Proofs.YtjbdljkhbglnhaaGreat.Am
open Go Sz
def QQA (_:TCur) (_:Zf) (t:List Qy × TCur):Prop:=1≤t.1.length∧t.1.length≤4∧QQ t.2
def QEQ (_:TCur) (t:QM × List Qy × TCur):Prop:=t.1.2.1.length≤3∧1≤t.1.2.2.2.1.length∧t.1.2.2.2.1.length≤4∧t.1.2.2.2.2.1.length≤4∧1≤t.1.2.2.2.2.2.length∧t.1.2.2.2.2.2.length≤4∧QQ t.2.2
end Go.Proofs.YtjbdljkhbglnhaaGreat.Am

