/- -/
import Derived.Test.YtjbdljkhbglnhaaGreatZEG8
set_option linter.all false
namespace Go.Proofs.YtjbdljkhbglnhaaGreat.Am
open Go Sz
abbrev TCur:=List Int × Int × Int
def J9 (l:List Int):Prop:=l.length≤1048576
def QM (c:TCur):Prop:=0≤c.2.1∧c.1.length≤1048576
@[reducible] def Zq {α:Type} (c:TCur) (_:α):Prop:=QM c
@[reducible] def QbU (_:List Int) (t:TCur):Prop:=QM t
def Qgm (code:List Int):Bool:=decide ((code.length:Int)>1048576)
def m_at (code:List Int) (i:Int):Int:=if i<code.length then w64 (gtd 0 code i.toNat) else Int.tmod (w64 (w64 (i*37)+w64 (code.length*11))) 256
def p_at (_:List Int) (i:Int):Prop:=0≤i
def QjF (_:TCur) (t:Int × TCur):Prop:=0≤t.1∧t.1≤255∧QM t.2
def QgN (_:TCur) (n:Int) (t:Int × TCur):Prop:=0≤t.1∧(0<n→t.1<n)∧(n≤0→t.1=0)∧QM t.2
@[reducible] def Qg1 (_:TCur) (_:Int) (t:Bool × TCur):Prop:=QM t.2
def Ja (c:TCur) (l:List Int):Prop:=QM c∧1≤l.length∧l.length≤100
def Qg4 (_:TCur) (l:List Int) (t:Int × TCur):Prop:=t.1∈l∧QM t.2
def QiX (_:TCur) (t:Int × TCur):Prop:=Zc t.1=true∧QM t.2
@[reducible] def QiV (_:TCur) (t:Int × TCur):Prop:=QM t.2
def JF (c:TCur) (n:Int):Prop:=QM c∧n≤1000
def QcW (_:TCur) (n:Int) (t:List Int × TCur):Prop:=t.1.length=n.toNat∧ZB t.1=true∧QM t.2
def Qif (_:TCur) (t:List Int × TCur):Prop:=t.1.length≤7∧QM t.2
def p_op (c:TCur) (n:Int):Prop:=QM c∧1≤n∧n≤3
def q_op (_:TCur) (n:Int) (t:TOp' × TCur):Prop:=Zf t.1=true∧t.1.2.1=n∧1≤t.1.2.2.1∧t.1.2.2.1≤3∧t.1.2.2.2.length≤36∧QM t.2
def QhE (_:TCur) (t:TOp' × TCur):Prop:=t.1.2.2.2.length≤40∧QM t.2
def QcC (_:TCur) (t:Zh × TCur):Prop:=QU t.1=true∧t.1.length≤6∧QM t.2
def QdM (_:TCur) (t:Zh × TCur):Prop:=t.1.length≤9∧QM t.2
def QdL (c:TCur) (m:Zh):Prop:=QM c∧m.length≤9
def Qc7 (_:TCur) (m:Zh) (t:List Int × TCur):Prop:=(QU m=true→ZJ m t.1=true)∧t.1.length≤3∧QM t.2
theorem QfK (st s m:Int):(QaE st s m).length≤3:=by unfold QaE;split <;> split <;> simp
theorem QBQ (st s m:Int) (redo:Bool):(QdY st s m redo).length≤4:=by unfold QdY;split <;> split <;> split <;> simp
theorem QtL {α:Type} {f:Nat→List α} {R:Nat} (n:Nat) (h:∀ k,k<n→(f k).length≤R):((List.range n).flatMap f).length≤n*R:=by
 induction n with
 | zero=>simp
 | succ n ih =>
  have h1:=ih (fun k hk=>h k (by omega))
  have h2:=h n (by omega)
  rw [Qeb,List.length_append,Nat.add_mul];omega
theorem Qpy {st s mi:Int}:Y6 st s mi=true↔1≤st∧st≤4∧0≤s∧s<st∧1≤mi∧mi≤5:=by
 simp only [Y6,Bool.and_eq_true,QT];omega
theorem Qo3 {ds st s mi:Int} (h:Y6 st s mi=true):0≤YH ds st s mi∧YH ds st s mi≤mi:=by
 have:=Qpy.1 h
 unfold YH;rw [if_pos h]
 split
 ·unfold iMin;split <;> omega
 ·omega
def Qb6 (st s:Int) (w:Nat):List TIns:=(List.range w).flatMap fun m:Nat=>QaE st s (m:Int)
def QhA (st s mi:Int) (redo:Bool) (w m:Nat):List TIns:=(if (m:Int)+w<mi then QaE st s ((m:Int)+w) else [])++QdY st s (m:Int) redo
def QbM (st s mi:Int) (redo:Bool) (w k:Nat):List TIns:=(List.range k).flatMap fun m:Nat=>QhA st s mi redo w m
theorem QAg {ds st s mi:Int} {redo:Bool} (h:(m_in ds 1 2&&Y6 st s mi)=true) :
  YC ds st s mi redo=Qb6 st s (YH ds st s mi).toNat++QbM st s mi redo (YH ds st s mi).toNat mi.toNat++[(8,0)]:=by
 unfold YC;rw [if_pos h];rfl
theorem Qtn {ds st s mi:Int} {redo:Bool} (h:¬ (m_in ds 1 2&&Y6 st s mi)=true):YC ds st s mi redo=[]:=by
 unfold YC;rw [if_neg h]
theorem Qjd (st s:Int) (w:Nat):(Qb6 st s w).length≤w*3:=QtL w (fun k _=>QfK st s k)
theorem QoZ (st s mi:Int) (redo:Bool) (w k:Nat):(QbM st s mi redo w k).length≤k*7:=by
 refine QtL k (fun m _=>?_)
 have h1:=QfK st s ((m:Int)+w)
 have h2:=QBQ st s m redo
 unfold QhA
 rw [List.length_append]
 split
 ·omega
 ·simp only [List.length_nil];omega
theorem QJU (st s:Int) (w:Nat):Qb6 st s (w+1)=Qb6 st s w++QaE st s w:=Qeb
theorem QXm (st s mi:Int) (redo:Bool) (w k:Nat):QbM st s mi redo w (k+1)=QbM st s mi redo w k++QhA st s mi redo w k:=Qeb
theorem QQX {ds st s mi:Int}:((((!(m_in ds 1 2))||(!(m_in st 1 4)))||(!(m_in s 0 (w64 (st-1)))))||(!(m_in mi 1 5))) = !(m_in ds 1 2&&Y6 st s mi):=by
 by_cases hst:m_in st 1 4=true
 ·have:=QT.1 hst
  rw [Qr (by omega) (by omega)]
  unfold Y6
  cases m_in ds 1 2 <;> cases m_in st 1 4 <;> cases m_in s 0 (st-1) <;> cases m_in mi 1 5 <;> rfl
 ·simp only [Bool.not_eq_true] at hst
  unfold Y6
  rw [hst];cases m_in ds 1 2 <;> rfl
end Go.Proofs.YtjbdljkhbglnhaaGreat.Am
namespace Go.Proofs.YtjbdljkhbglnhaaGreat.Am
open Go Sz
theorem QTJ {α:Type} {d:α} {l:List α} {n j:Nat} (h:j<n):gtd d (l.take n) j=gtd d l j:=by
 simp [gtd,List.getD_eq_getElem?_getD,List.getElem?_take,h]
theorem QT9 (x y:TIns):decide (([x.1,x.2]:List Int)=[y.1,y.2])=decide (x=y):=by
 rw [decide_eq_decide];simp [Prod.ext_iff]
theorem QCZ (ds st s mi:Int) (redo:Bool):(YC ds st s mi redo).length≤51:=by
 by_cases h:(m_in ds 1 2&&Y6 st s mi)=true
 ·rw [QAg h]
  have hq:Y6 st s mi=true:=by simp only [Bool.and_eq_true] at h;exact h.2
  have hr:=Qpy.1 hq
  have hw:=Qo3 (ds:=ds) hq
  have h1:=Qjd st s (YH ds st s mi).toNat
  have h2:=QoZ st s mi redo (YH ds st s mi).toNat mi.toNat
  rw [List.length_append,List.length_append]
  simp only [List.length_cons,List.length_nil]
  omega
 ·rw [Qtn h];simp
end Go.Proofs.YtjbdljkhbglnhaaGreat.Am
namespace Go.Proofs.YtjbdljkhbglnhaaGreat.Am
open Go Sz
theorem Zg {α:Type} {q:α→Prop} {R:α→TRes} {x:α} (h:q x):∃ t,q t∧R x=R t:=⟨x,h,rfl⟩
theorem Qiv (a:Int):0≤w64 (((BitVec.ofInt (IntKind.i64.bits) a &&& BitVec.ofInt (IntKind.i64.bits) 255).toNat:Nat):Int)∧w64 (((BitVec.ofInt (IntKind.i64.bits) a &&& BitVec.ofInt (IntKind.i64.bits) 255).toNat:Nat):Int)≤255:=by
 have h:(BitVec.ofInt (IntKind.i64.bits) a &&& BitVec.ofInt (IntKind.i64.bits) 255).toNat≤255:=by
  rw [BitVec.toNat_and]
  have:(BitVec.ofInt (IntKind.i64.bits) 255).toNat=255:=by decide
  rw [this]
  exact Nat.and_le_right
 rw [Qr (by omega) (by omega)]
 omega
theorem QQF {a b B:Int} (hb:0<b) (h1:-B≤a) (h2:a≤B):-B≤Int.tdiv a b∧Int.tdiv a b≤B:=by
 by_cases h:0≤a
 ·have h3:0≤Int.tdiv a b:=Int.tdiv_nonneg h (by omega)
  have h4:Int.tdiv a b≤a:=by
   rw [Int.tdiv_eq_ediv_of_nonneg h]
   exact Int.ediv_le_self b h
  omega
 ·have h5:Int.tdiv a b = - Int.tdiv (-a) b:=by rw [Int.neg_tdiv];omega
  have h3:0≤Int.tdiv (-a) b:=Int.tdiv_nonneg (by omega) (by omega)
  have h4:Int.tdiv (-a) b≤-a:=by
   rw [Int.tdiv_eq_ediv_of_nonneg (by omega)]
   exact Int.ediv_le_self b (by omega)
  omega
theorem QTx {code:List Int} (h:Qgm code=false):J9 code:=by
 unfold Qgm at h;unfold J9
 have:=of_decide_eq_false h
 omega
theorem QDm (k:Int) {a b:Int} (p:List Int) (h1:1≤a) (h2:a≤3) (h3:1≤b) (h4:b≤3):0≤Yg (k,a,b,p)∧Yg (k,a,b,p)≤9:=by
 have ha:a=1∨a=2∨a=3:=by omega
 have hb:b=1∨b=2∨b=3:=by omega
 simp only [Yg,m_in]
 rcases ha with rfl | rfl | rfl <;> rcases hb with rfl | rfl | rfl <;> simp <;> split <;> (try split) <;> (try split) <;> omega
theorem QRj {k a b:Int} {p:List Int} (h0:1≤k) (h0':k≤5) (h1:1≤a) (h2:a≤3) (h3:1≤b) (h4:b≤3) (h5:k=1∨a=b) (h6:p.length=(Yg (k,a,b,[])).toNat) (h7:ZB p=true):Zf (k,a,b,p)=true:=by
 have h:=(QDm k [] h1 h2 h3 h4).1
 have e:Yg (k,a,b,p)=Yg (k,a,b,[]):=rfl
 simp only [Zf,m_in,Bool.and_eq_true,decide_eq_true_eq,Bool.or_eq_true,beq_iff_eq,e]
 refine ⟨⟨⟨⟨⟨⟨h0,h0'⟩,?_⟩,?_⟩,h5⟩,?_⟩,h7⟩ <;> omega
theorem QPa {l:List Int} {x:Int} (h:ZB l=true) (hx:Zc x=true):ZB (l++[x])=true:=by
 simp only [ZB,List.all_append,List.all_cons,List.all_nil,Bool.and_true,Bool.and_eq_true] at h ⊢
 exact ⟨h,hx⟩
def Qo0:Option Int→List TOp'→Option Int
 | p,[]=>p
 | _,x::r=>Qo0 (some x.2.2.1) r
def QgI (p:Option Int) (l:List TOp') (n:Int):Bool:=match Qo0 p l with | none=>true | some q=>q==n
theorem QDH:∀ (l:List TOp') (p:Option Int) (o:TOp'),YA p l=true→Zf o=true→QgI p l o.2.1=true→YA p (l++[o])=true
 | [],p,o,h,ho,hl=>by
  simp only [List.nil_append,YA,ho,Bool.true_and,Bool.and_true]
  exact hl
 | x::l,p,o,h,ho,hl=>by
  simp only [YA,Bool.and_eq_true,List.cons_append] at h ⊢
  exact ⟨h.1,QDH l (some x.2.2.1) o h.2 ho hl⟩
theorem QzJ:∀ (l:List TOp') (p:Option Int) (o:TOp'),QgI p (l++[o]) o.2.2.1=true
 | [],p,o=>by simp [QgI,Qo0]
 | x::l,p,o=>QzJ l (some x.2.2.1) o
theorem Qu2 {i:Int} (hi:1≤i):∀ (l:List Int) (p:Option Int),YD (i-1) p l=true→(match p with | none=>true | some q=>decide (q<i))=true→YD i p (l++[i])=true
 | [],p,h,hp=>by
  simp only [List.nil_append,YD,Bool.and_true,Bool.and_eq_true]
  exact ⟨QT.2 ⟨hi,Int.le_refl _⟩,hp⟩
 | c::r,p,h,hp=>by
  simp only [List.cons_append,YD,Bool.and_eq_true] at h ⊢
  have h1:=QT.1 h.1.1
  exact ⟨⟨QT.2 ⟨h1.1,by omega⟩,h.1.2⟩,Qu2 hi r (some c) h.2 (by simp;omega)⟩
theorem Qlr {n n':Int} (hn:n≤n'):∀ (l:List Int) (p:Option Int),YD n p l=true→YD n' p l=true
 | [],p,h=>rfl
 | c::r,p,h=>by
  simp only [YD,Bool.and_eq_true] at h ⊢
  have h1:=QT.1 h.1.1
  exact ⟨⟨QT.2 ⟨h1.1,by omega⟩,h.1.2⟩,Qlr hn r (some c) h.2⟩
end Go.Proofs.YtjbdljkhbglnhaaGreat.Am
namespace Go.Proofs.YtjbdljkhbglnhaaGreat.Am
open Go Sz
def Qcr (_:TCur) (_:Zh) (t:List Qt × TCur):Prop:=1≤t.1.length∧t.1.length≤4∧QM t.2
def QdG (_:TCur) (_:Zh) (t:List Qt × TCur):Prop:=t.1.length≤6∧QM t.2
@[reducible] def QkR (_:List Int) (t:QN × List Qt):Prop:=t.1.2.2.2.1.length≤4
def Qa0 (_:TCur) (t:QN × List Qt × TCur):Prop:=t.1.2.1.length≤3∧1≤t.1.2.2.2.1.length∧t.1.2.2.2.1.length≤4∧t.1.2.2.2.2.1.length≤4∧1≤t.1.2.2.2.2.2.length∧t.1.2.2.2.2.2.length≤4∧QM t.2.2
@[reducible] def Qkr (_:TCur) (t:QN × List Qt × TCur):Prop:=t.1.2.2.2.1.length≤4
end Go.Proofs.YtjbdljkhbglnhaaGreat.Am

