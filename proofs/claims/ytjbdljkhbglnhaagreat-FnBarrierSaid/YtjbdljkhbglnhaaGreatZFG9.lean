/- -/
import Derived.Test.YtjbdljkhbglnhaaGreatZFG8
set_option linter.all false
namespace Go.Proofs.YtjbdljkhbglnhaaGreat.Am
open Go Sz
abbrev TCur:=List Int × Int × Int
def QaK (l:List Int):Prop:=l.length≤1048576
def QP (c:TCur):Prop:=0≤c.2.1∧c.1.length≤1048576
@[reducible] def Zr {α:Type} (c:TCur) (_:α):Prop:=QP c
@[reducible] def Qb5 (_:List Int) (t:TCur):Prop:=QP t
def Qfx (code:List Int):Bool:=decide ((code.length:Int)>1048576)
def m_at (code:List Int) (i:Int):Int:=if i<code.length then w64 (gtd 0 code i.toNat) else Int.tmod (w64 (w64 (i*37)+w64 (code.length*11))) 256
def p_at (_:List Int) (i:Int):Prop:=0≤i
def QiH (_:TCur) (t:Int × TCur):Prop:=0≤t.1∧t.1≤255∧QP t.2
def Qhn (_:TCur) (n:Int) (t:Int × TCur):Prop:=0≤t.1∧(0<n→t.1<n)∧(n≤0→t.1=0)∧QP t.2
@[reducible] def Qk5 (_:TCur) (_:Int) (t:Bool × TCur):Prop:=QP t.2
def Jg (c:TCur) (l:List Int):Prop:=QP c∧1≤l.length∧l.length≤100
def Qkx (_:TCur) (l:List Int) (t:Int × TCur):Prop:=t.1∈l∧QP t.2
def QiJ (_:TCur) (t:Int × TCur):Prop:=Zc t.1=true∧QP t.2
@[reducible] def Qhv (_:TCur) (t:Int × TCur):Prop:=QP t.2
def JL (c:TCur) (n:Int):Prop:=QP c∧n≤1000
def QcJ (_:TCur) (n:Int) (t:List Int × TCur):Prop:=t.1.length=n.toNat∧ZE t.1=true∧QP t.2
def Qj1 (_:TCur) (t:List Int × TCur):Prop:=t.1.length≤7∧QP t.2
def p_op (c:TCur) (n:Int):Prop:=QP c∧1≤n∧n≤3
def q_op (_:TCur) (n:Int) (t:TOp' × TCur):Prop:=Zf t.1=true∧t.1.2.1=n∧1≤t.1.2.2.1∧t.1.2.2.1≤3∧t.1.2.2.2.length≤36∧QP t.2
def Qkc (_:TCur) (t:TOp' × TCur):Prop:=t.1.2.2.2.length≤40∧QP t.2
def QdS (_:TCur) (t:Zh × TCur):Prop:=QT t.1=true∧t.1.length≤6∧QP t.2
def QeG (_:TCur) (t:Zh × TCur):Prop:=t.1.length≤9∧QP t.2
def QeY (c:TCur) (m:Zh):Prop:=QP c∧m.length≤9
def Qdo (_:TCur) (m:Zh) (t:List Int × TCur):Prop:=(QT m=true→Zj m t.1=true)∧t.1.length≤3∧QP t.2
theorem QbW (st s m:Int):(Ye st s m).length≤3:=by unfold Ye;split <;> split <;> simp
theorem Qn9 (st s m:Int) (redo:Bool):(YD st s m redo).length≤4:=by unfold YD;split <;> split <;> split <;> simp
theorem QFA {α:Type} {f:Nat→List α} {R:Nat} (n:Nat) (h:∀ k,k<n→(f k).length≤R):((List.range n).flatMap f).length≤n*R:=by
 induction n with
 | zero=>simp
 | succ n ih =>
  have h1:=ih (fun k hk=>h k (by omega))
  have h2:=h n (by omega)
  rw [Qen,List.length_append,Nat.add_mul];omega
theorem QhR {st s mi:Int}:Z1 st s mi=true↔1≤st∧st≤4∧0≤s∧s<st∧1≤mi∧mi≤5:=by
 simp only [Z1,Bool.and_eq_true,QV];omega
theorem Qgz {ds st s mi:Int} (h:Z1 st s mi=true):0≤ZY ds st s mi∧ZY ds st s mi≤mi:=by
 have:=QhR.1 h
 unfold ZY;rw [if_pos h]
 split
 ·unfold iMin;split <;> omega
 ·omega
def Qag (st s:Int) (w:Nat):List TIns:=(List.range w).flatMap fun m:Nat=>Ye st s (m:Int)
def Qfl (st s mi:Int) (redo:Bool) (w m:Nat):List TIns:=(if (m:Int)+w<mi then Ye st s ((m:Int)+w) else [])++YD st s (m:Int) redo
def Qan (st s mi:Int) (redo:Bool) (w k:Nat):List TIns:=(List.range k).flatMap fun m:Nat=>Qfl st s mi redo w m
theorem QpV {ds st s mi:Int} {redo:Bool} (h:(m_in ds 1 2&&Z1 st s mi)=true) :
  ZL ds st s mi redo=Qag st s (ZY ds st s mi).toNat++Qan st s mi redo (ZY ds st s mi).toNat mi.toNat++[(8,0)]:=by
 unfold ZL;rw [if_pos h];rfl
theorem QnL {ds st s mi:Int} {redo:Bool} (h:¬ (m_in ds 1 2&&Z1 st s mi)=true):ZL ds st s mi redo=[]:=by
 unfold ZL;rw [if_neg h]
theorem Qc7 (st s:Int) (w:Nat):(Qag st s w).length≤w*3:=QFA w (fun k _=>QbW st s k)
theorem Qgp (st s mi:Int) (redo:Bool) (w k:Nat):(Qan st s mi redo w k).length≤k*7:=by
 refine QFA k (fun m _=>?_)
 have h1:=QbW st s ((m:Int)+w)
 have h2:=Qn9 st s m redo
 unfold Qfl
 rw [List.length_append]
 split
 ·omega
 ·simp only [List.length_nil];omega
theorem QD5 (st s:Int) (w:Nat):Qag st s (w+1)=Qag st s w++Ye st s w:=Qen
theorem Qu2 (st s mi:Int) (redo:Bool) (w k:Nat):Qan st s mi redo w (k+1)=Qan st s mi redo w k++Qfl st s mi redo w k:=Qen
theorem QPu {ds st s mi:Int}:((((!(m_in ds 1 2))||(!(m_in st 1 4)))||(!(m_in s 0 (w64 (st-1)))))||(!(m_in mi 1 5))) = !(m_in ds 1 2&&Z1 st s mi):=by
 by_cases hst:m_in st 1 4=true
 ·have:=QV.1 hst
  rw [Qq (by omega) (by omega)]
  unfold Z1
  cases m_in ds 1 2 <;> cases m_in st 1 4 <;> cases m_in s 0 (st-1) <;> cases m_in mi 1 5 <;> rfl
 ·simp only [Bool.not_eq_true] at hst
  unfold Z1
  rw [hst];cases m_in ds 1 2 <;> rfl
theorem QUw {ds st s mi:Int}:(((ds != 1)&&(ds != 2))||(!(Z1 st s mi))) = !(m_in ds 1 2&&Z1 st s mi):=by
 have:((ds != 1)&&(ds != 2)) = !(m_in ds 1 2):=by
  rw [Bool.eq_iff_iff];simp [m_in];omega
 rw [this];cases m_in ds 1 2 <;> cases Z1 st s mi <;> rfl
theorem Qor {α:Type} {l x:List α} (h:l.length+x.length≤1000000):(l.length=l.length∨l.length+(List.take x.length (List.drop 0 x)).length≤l.length)∧l.length+(List.take x.length (List.drop 0 x)).length≤big:=by
 rw [List.drop_zero,List.take_length];exact ⟨.inl rfl,by rw [Q1];omega⟩
theorem Qo7 {α:Type} (l x:List α):List.take (l.length+(List.take x.length (List.drop 0 x)).length) (List.take l.length l++List.take x.length (List.drop 0 x))=l++x:=by
 rw [List.drop_zero,List.take_length,QX4]
end Go.Proofs.YtjbdljkhbglnhaaGreat.Am
namespace Go.Proofs.YtjbdljkhbglnhaaGreat.Am
open Go Sz
theorem QV0 (x y:TIns):decide (([x.1,x.2]:List Int)=[y.1,y.2])=decide (x=y):=by
 rw [decide_eq_decide];simp [Prod.ext_iff]
theorem Qpf (ds st s mi:Int) (redo:Bool):(ZL ds st s mi redo).length≤51:=by
 by_cases h:(m_in ds 1 2&&Z1 st s mi)=true
 ·rw [QpV h]
  have hq:Z1 st s mi=true:=by simp only [Bool.and_eq_true] at h;exact h.2
  have hr:=QhR.1 hq
  have hw:=Qgz (ds:=ds) hq
  have h1:=Qc7 st s (ZY ds st s mi).toNat
  have h2:=Qgp st s mi redo (ZY ds st s mi).toNat mi.toNat
  rw [List.length_append,List.length_append]
  simp only [List.length_cons,List.length_nil]
  omega
 ·rw [QnL h];simp
end Go.Proofs.YtjbdljkhbglnhaaGreat.Am
namespace Go.Proofs.YtjbdljkhbglnhaaGreat.Am
open Go Sz
theorem Zg {α:Type} {q:α→Prop} {R:α→TRes} {x:α} (h:q x):∃ t,q t∧R x=R t:=⟨x,h,rfl⟩
theorem Qlg (a:Int):0≤w64 (((BitVec.ofInt (IntKind.i64.bits) a &&& BitVec.ofInt (IntKind.i64.bits) 255).toNat:Nat):Int)∧w64 (((BitVec.ofInt (IntKind.i64.bits) a &&& BitVec.ofInt (IntKind.i64.bits) 255).toNat:Nat):Int)≤255:=by
 have h:(BitVec.ofInt (IntKind.i64.bits) a &&& BitVec.ofInt (IntKind.i64.bits) 255).toNat≤255:=by
  rw [BitVec.toNat_and]
  have:(BitVec.ofInt (IntKind.i64.bits) 255).toNat=255:=by decide
  rw [this]
  exact Nat.and_le_right
 rw [Qq (by omega) (by omega)]
 omega
theorem QQF {a b B:Int} (hb:0<b) (h1:-B≤a) (h2:a≤B):-B≤Int.tdiv a b∧Int.tdiv a b≤B:=by
 by_cases h:0≤a
 ·have h3:0≤Int.tdiv a b:=Int.tdiv_nonneg h (by omega)
  have h4:Int.tdiv a b≤a:=by
   rw [Int.tdiv_eq_ediv_of_nonneg h]
   exact Int.ediv_le_self b h
  omega
 ·have h5:Int.tdiv a b = - Int.tdiv (-a) b:=by rw [Int.neg_tdiv];omega
  have h3:0≤Int.tdiv (-a) b:=Int.tdiv_nonneg (by omega) (by omega)
  have h4:Int.tdiv (-a) b≤-a:=by
   rw [Int.tdiv_eq_ediv_of_nonneg (by omega)]
   exact Int.ediv_le_self b (by omega)
  omega
theorem QJv {code:List Int} (h:Qfx code=false):QaK code:=by
 unfold Qfx at h;unfold QaK
 have:=of_decide_eq_false h
 omega
theorem QFb (k:Int) {a b:Int} (p:List Int) (h1:1≤a) (h2:a≤3) (h3:1≤b) (h4:b≤3):0≤Yp (k,a,b,p)∧Yp (k,a,b,p)≤9:=by
 have ha:a=1∨a=2∨a=3:=by omega
 have hb:b=1∨b=2∨b=3:=by omega
 simp only [Yp,m_in]
 rcases ha with rfl | rfl | rfl <;> rcases hb with rfl | rfl | rfl <;> simp <;> split <;> (try split) <;> (try split) <;> omega
theorem QYG {k a b:Int} {p:List Int} (h0:1≤k) (h0':k≤5) (h1:1≤a) (h2:a≤3) (h3:1≤b) (h4:b≤3) (h5:k=1∨a=b) (h6:p.length=(Yp (k,a,b,[])).toNat) (h7:ZE p=true):Zf (k,a,b,p)=true:=by
 have h:=(QFb k [] h1 h2 h3 h4).1
 have e:Yp (k,a,b,p)=Yp (k,a,b,[]):=rfl
 simp only [Zf,m_in,Bool.and_eq_true,decide_eq_true_eq,Bool.or_eq_true,beq_iff_eq,e]
 refine ⟨⟨⟨⟨⟨⟨h0,h0'⟩,?_⟩,?_⟩,h5⟩,?_⟩,h7⟩ <;> omega
theorem QQx {l:List Int} {x:Int} (h:ZE l=true) (hx:Zc x=true):ZE (l++[x])=true:=by
 simp only [ZE,List.all_append,List.all_cons,List.all_nil,Bool.and_true,Bool.and_eq_true] at h ⊢
 exact ⟨h,hx⟩
def Qpp:Option Int→List TOp'→Option Int
 | p,[]=>p
 | _,x::r=>Qpp (some x.2.2.1) r
def QiF (p:Option Int) (l:List TOp') (n:Int):Bool:=match Qpp p l with | none=>true | some q=>q==n
theorem Qxe:∀ (l:List TOp') (p:Option Int) (o:TOp'),YG p l=true→Zf o=true→QiF p l o.2.1=true→YG p (l++[o])=true
 | [],p,o,h,ho,hl=>by
  simp only [List.nil_append,YG,ho,Bool.true_and,Bool.and_true]
  exact hl
 | x::l,p,o,h,ho,hl=>by
  simp only [YG,Bool.and_eq_true,List.cons_append] at h ⊢
  exact ⟨h.1,Qxe l (some x.2.2.1) o h.2 ho hl⟩
theorem QBA:∀ (l:List TOp') (p:Option Int) (o:TOp'),QiF p (l++[o]) o.2.2.1=true
 | [],p,o=>by simp [QiF,Qpp]
 | x::l,p,o=>QBA l (some x.2.2.1) o
theorem QC1 {i:Int} (hi:1≤i):∀ (l:List Int) (p:Option Int),Yf (i-1) p l=true→(match p with | none=>true | some q=>decide (q<i))=true→Yf i p (l++[i])=true
 | [],p,h,hp=>by
  simp only [List.nil_append,Yf,Bool.and_true,Bool.and_eq_true]
  exact ⟨QV.2 ⟨hi,Int.le_refl _⟩,hp⟩
 | c::r,p,h,hp=>by
  simp only [List.cons_append,Yf,Bool.and_eq_true] at h ⊢
  have h1:=QV.1 h.1.1
  exact ⟨⟨QV.2 ⟨h1.1,by omega⟩,h.1.2⟩,QC1 hi r (some c) h.2 (by simp;omega)⟩
theorem QqR {n n':Int} (hn:n≤n'):∀ (l:List Int) (p:Option Int),Yf n p l=true→Yf n' p l=true
 | [],p,h=>rfl
 | c::r,p,h=>by
  simp only [Yf,Bool.and_eq_true] at h ⊢
  have h1:=QV.1 h.1.1
  exact ⟨⟨QV.2 ⟨h1.1,by omega⟩,h.1.2⟩,QqR hn r (some c) h.2⟩
end Go.Proofs.YtjbdljkhbglnhaaGreat.Am
namespace Go.Proofs.YtjbdljkhbglnhaaGreat.Am
open Go Sz
def Qc5 (_:TCur) (_:Zh) (t:List Qp × TCur):Prop:=1≤t.1.length∧t.1.length≤4∧QP t.2
def Qed (_:TCur) (_:Zh) (t:List Qp × TCur):Prop:=t.1.length≤6∧QP t.2
@[reducible] def Qoi (_:List Int) (t:QC × List Qp):Prop:=t.1.2.2.2.1.length≤4
def QaS (_:TCur) (t:QC × List Qp × TCur):Prop:=t.1.2.1.length≤3∧1≤t.1.2.2.2.1.length∧t.1.2.2.2.1.length≤4∧t.1.2.2.2.2.1.length≤4∧1≤t.1.2.2.2.2.2.length∧t.1.2.2.2.2.2.length≤4∧QP t.2.2
@[reducible] def QjV (_:TCur) (t:QC × List Qp × TCur):Prop:=t.1.2.2.2.1.length≤4
end Go.Proofs.YtjbdljkhbglnhaaGreat.Am

