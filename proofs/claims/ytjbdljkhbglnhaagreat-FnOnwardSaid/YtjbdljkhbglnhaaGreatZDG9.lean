/- -/
import Derived.Test.YtjbdljkhbglnhaaGreatZDG8
set_option linter.all false
namespace Go.Proofs.YtjbdljkhbglnhaaGreat.Am
open Go Sz
abbrev TCur:=List Int × Int × Int
def Qaq (l:List Int):Prop:=l.length≤1048576
def QN (c:TCur):Prop:=0≤c.2.1∧c.1.length≤1048576
@[reducible] def Zo {α:Type} (c:TCur) (_:α):Prop:=QN c
@[reducible] def QbZ (_:List Int) (t:TCur):Prop:=QN t
def Qf1 (code:List Int):Bool:=decide ((code.length:Int)>1048576)
def m_at (code:List Int) (i:Int):Int:=if i<code.length then w64 (gtd 0 code i.toNat) else Int.tmod (w64 (w64 (i*37)+w64 (code.length*11))) 256
def p_at (_:List Int) (i:Int):Prop:=0≤i
def Qka (_:TCur) (t:Int × TCur):Prop:=0≤t.1∧t.1≤255∧QN t.2
def QjU (_:TCur) (n:Int) (t:Int × TCur):Prop:=0≤t.1∧(0<n→t.1<n)∧(n≤0→t.1=0)∧QN t.2
@[reducible] def Qj4 (_:TCur) (_:Int) (t:Bool × TCur):Prop:=QN t.2
def Y8 (c:TCur) (l:List Int):Prop:=QN c∧1≤l.length∧l.length≤100
def QiT (_:TCur) (l:List Int) (t:Int × TCur):Prop:=t.1∈l∧QN t.2
def QhW (_:TCur) (t:Int × TCur):Prop:=Zb t.1=true∧QN t.2
@[reducible] def Qko (_:TCur) (t:Int × TCur):Prop:=QN t.2
def JB (c:TCur) (n:Int):Prop:=QN c∧n≤1000
def QcE (_:TCur) (n:Int) (t:List Int × TCur):Prop:=t.1.length=n.toNat∧ZD t.1=true∧QN t.2
def Qjc (_:TCur) (t:List Int × TCur):Prop:=t.1.length≤7∧QN t.2
def p_op (c:TCur) (n:Int):Prop:=QN c∧1≤n∧n≤3
def q_op (_:TCur) (n:Int) (t:TOp' × TCur):Prop:=Zd t.1=true∧t.1.2.1=n∧1≤t.1.2.2.1∧t.1.2.2.1≤3∧t.1.2.2.2.length≤36∧QN t.2
def Qjm (_:TCur) (t:TOp' × TCur):Prop:=t.1.2.2.2.length≤40∧QN t.2
def Qdo (_:TCur) (t:Zf × TCur):Prop:=QU t.1=true∧t.1.length≤6∧QN t.2
def QdX (_:TCur) (t:Zf × TCur):Prop:=t.1.length≤9∧QN t.2
def Qeu (c:TCur) (m:Zf):Prop:=QN c∧m.length≤9
def QcH (_:TCur) (m:Zf) (t:List Int × TCur):Prop:=(QU m=true→ZJ m t.1=true)∧t.1.length≤3∧QN t.2
theorem Qfl (st s m:Int):(QaG st s m).length≤3:=by unfold QaG;split <;> split <;> simp
theorem Qsn (st s m:Int) (redo:Bool):(QeA st s m redo).length≤4:=by unfold QeA;split <;> split <;> split <;> simp
theorem QBq {α:Type} {f:Nat→List α} {R:Nat} (n:Nat) (h:∀ k,k<n→(f k).length≤R):((List.range n).flatMap f).length≤n*R:=by
 induction n with
 | zero=>simp
 | succ n ih =>
  have h1:=ih (fun k hk=>h k (by omega))
  have h2:=h n (by omega)
  rw [Qem,List.length_append,Nat.add_mul];omega
theorem QnP {st s mi:Int}:Y5 st s mi=true↔1≤st∧st≤4∧0≤s∧s<st∧1≤mi∧mi≤5:=by
 simp only [Y5,Bool.and_eq_true,QS];omega
theorem Qqt {ds st s mi:Int} (h:Y5 st s mi=true):0≤YH ds st s mi∧YH ds st s mi≤mi:=by
 have:=QnP.1 h
 unfold YH;rw [if_pos h]
 split
 ·unfold iMin;split <;> omega
 ·omega
def QbD (st s:Int) (w:Nat):List TIns:=(List.range w).flatMap fun m:Nat=>QaG st s (m:Int)
def Qiq (st s mi:Int) (redo:Bool) (w m:Nat):List TIns:=(if (m:Int)+w<mi then QaG st s ((m:Int)+w) else [])++QeA st s (m:Int) redo
def Qb1 (st s mi:Int) (redo:Bool) (w k:Nat):List TIns:=(List.range k).flatMap fun m:Nat=>Qiq st s mi redo w m
theorem QBS {ds st s mi:Int} {redo:Bool} (h:(m_in ds 1 2&&Y5 st s mi)=true) :
  Yr ds st s mi redo=QbD st s (YH ds st s mi).toNat++Qb1 st s mi redo (YH ds st s mi).toNat mi.toNat++[(8,0)]:=by
 unfold Yr;rw [if_pos h];rfl
theorem QtD {ds st s mi:Int} {redo:Bool} (h:¬ (m_in ds 1 2&&Y5 st s mi)=true):Yr ds st s mi redo=[]:=by
 unfold Yr;rw [if_neg h]
theorem Qjn (st s:Int) (w:Nat):(QbD st s w).length≤w*3:=QBq w (fun k _=>Qfl st s k)
theorem QkS (st s mi:Int) (redo:Bool) (w k:Nat):(Qb1 st s mi redo w k).length≤k*7:=by
 refine QBq k (fun m _=>?_)
 have h1:=Qfl st s ((m:Int)+w)
 have h2:=Qsn st s m redo
 unfold Qiq
 rw [List.length_append]
 split
 ·omega
 ·simp only [List.length_nil];omega
theorem QUH (st s:Int) (w:Nat):QbD st s (w+1)=QbD st s w++QaG st s w:=Qem
theorem QWo (st s mi:Int) (redo:Bool) (w k:Nat):Qb1 st s mi redo w (k+1)=Qb1 st s mi redo w k++Qiq st s mi redo w k:=Qem
theorem QJY {ds st s mi:Int}:((((!(m_in ds 1 2))||(!(m_in st 1 4)))||(!(m_in s 0 (w64 (st-1)))))||(!(m_in mi 1 5))) = !(m_in ds 1 2&&Y5 st s mi):=by
 by_cases hst:m_in st 1 4=true
 ·have:=QS.1 hst
  rw [Qt (by omega) (by omega)]
  unfold Y5
  cases m_in ds 1 2 <;> cases m_in st 1 4 <;> cases m_in s 0 (st-1) <;> cases m_in mi 1 5 <;> rfl
 ·simp only [Bool.not_eq_true] at hst
  unfold Y5
  rw [hst];cases m_in ds 1 2 <;> rfl
end Go.Proofs.YtjbdljkhbglnhaaGreat.Am
namespace Go.Proofs.YtjbdljkhbglnhaaGreat.Am
open Go Sz
theorem QHk {α:Type} {d:α} {l:List α} {n j:Nat} (h:j<n):gtd d (l.take n) j=gtd d l j:=by
 simp [gtd,List.getD_eq_getElem?_getD,List.getElem?_take,h]
theorem QKI (x y:TIns):decide (([x.1,x.2]:List Int)=[y.1,y.2])=decide (x=y):=by
 rw [decide_eq_decide];simp [Prod.ext_iff]
theorem QDL (ds st s mi:Int) (redo:Bool):(Yr ds st s mi redo).length≤51:=by
 by_cases h:(m_in ds 1 2&&Y5 st s mi)=true
 ·rw [QBS h]
  have hq:Y5 st s mi=true:=by simp only [Bool.and_eq_true] at h;exact h.2
  have hr:=QnP.1 hq
  have hw:=Qqt (ds:=ds) hq
  have h1:=Qjn st s (YH ds st s mi).toNat
  have h2:=QkS st s mi redo (YH ds st s mi).toNat mi.toNat
  rw [List.length_append,List.length_append]
  simp only [List.length_cons,List.length_nil]
  omega
 ·rw [QtD h];simp
end Go.Proofs.YtjbdljkhbglnhaaGreat.Am
namespace Go.Proofs.YtjbdljkhbglnhaaGreat.Am
open Go Sz
theorem Ze {α:Type} {q:α→Prop} {R:α→TRes} {x:α} (h:q x):∃ t,q t∧R x=R t:=⟨x,h,rfl⟩
theorem QiO (a:Int):0≤w64 (((BitVec.ofInt (IntKind.i64.bits) a &&& BitVec.ofInt (IntKind.i64.bits) 255).toNat:Nat):Int)∧w64 (((BitVec.ofInt (IntKind.i64.bits) a &&& BitVec.ofInt (IntKind.i64.bits) 255).toNat:Nat):Int)≤255:=by
 have h:(BitVec.ofInt (IntKind.i64.bits) a &&& BitVec.ofInt (IntKind.i64.bits) 255).toNat≤255:=by
  rw [BitVec.toNat_and]
  have:(BitVec.ofInt (IntKind.i64.bits) 255).toNat=255:=by decide
  rw [this]
  exact Nat.and_le_right
 rw [Qt (by omega) (by omega)]
 omega
theorem QXw {a b B:Int} (hb:0<b) (h1:-B≤a) (h2:a≤B):-B≤Int.tdiv a b∧Int.tdiv a b≤B:=by
 by_cases h:0≤a
 ·have h3:0≤Int.tdiv a b:=Int.tdiv_nonneg h (by omega)
  have h4:Int.tdiv a b≤a:=by
   rw [Int.tdiv_eq_ediv_of_nonneg h]
   exact Int.ediv_le_self b h
  omega
 ·have h5:Int.tdiv a b = - Int.tdiv (-a) b:=by rw [Int.neg_tdiv];omega
  have h3:0≤Int.tdiv (-a) b:=Int.tdiv_nonneg (by omega) (by omega)
  have h4:Int.tdiv (-a) b≤-a:=by
   rw [Int.tdiv_eq_ediv_of_nonneg (by omega)]
   exact Int.ediv_le_self b (by omega)
  omega
theorem QRj {code:List Int} (h:Qf1 code=false):Qaq code:=by
 unfold Qf1 at h;unfold Qaq
 have:=of_decide_eq_false h
 omega
theorem Qsl (k:Int) {a b:Int} (p:List Int) (h1:1≤a) (h2:a≤3) (h3:1≤b) (h4:b≤3):0≤Ya (k,a,b,p)∧Ya (k,a,b,p)≤9:=by
 have ha:a=1∨a=2∨a=3:=by omega
 have hb:b=1∨b=2∨b=3:=by omega
 simp only [Ya,m_in]
 rcases ha with rfl | rfl | rfl <;> rcases hb with rfl | rfl | rfl <;> simp <;> split <;> (try split) <;> (try split) <;> omega
theorem QKG {k a b:Int} {p:List Int} (h0:1≤k) (h0':k≤5) (h1:1≤a) (h2:a≤3) (h3:1≤b) (h4:b≤3) (h5:k=1∨a=b) (h6:p.length=(Ya (k,a,b,[])).toNat) (h7:ZD p=true):Zd (k,a,b,p)=true:=by
 have h:=(Qsl k [] h1 h2 h3 h4).1
 have e:Ya (k,a,b,p)=Ya (k,a,b,[]):=rfl
 simp only [Zd,m_in,Bool.and_eq_true,decide_eq_true_eq,Bool.or_eq_true,beq_iff_eq,e]
 refine ⟨⟨⟨⟨⟨⟨h0,h0'⟩,?_⟩,?_⟩,h5⟩,?_⟩,h7⟩ <;> omega
theorem QYG {l:List Int} {x:Int} (h:ZD l=true) (hx:Zb x=true):ZD (l++[x])=true:=by
 simp only [ZD,List.all_append,List.all_cons,List.all_nil,Bool.and_true,Bool.and_eq_true] at h ⊢
 exact ⟨h,hx⟩
def Qnz:Option Int→List TOp'→Option Int
 | p,[]=>p
 | _,x::r=>Qnz (some x.2.2.1) r
def Qia (p:Option Int) (l:List TOp') (n:Int):Bool:=match Qnz p l with | none=>true | some q=>q==n
theorem Qvh:∀ (l:List TOp') (p:Option Int) (o:TOp'),Yx p l=true→Zd o=true→Qia p l o.2.1=true→Yx p (l++[o])=true
 | [],p,o,h,ho,hl=>by
  simp only [List.nil_append,Yx,ho,Bool.true_and,Bool.and_true]
  exact hl
 | x::l,p,o,h,ho,hl=>by
  simp only [Yx,Bool.and_eq_true,List.cons_append] at h ⊢
  exact ⟨h.1,Qvh l (some x.2.2.1) o h.2 ho hl⟩
theorem QBY:∀ (l:List TOp') (p:Option Int) (o:TOp'),Qia p (l++[o]) o.2.2.1=true
 | [],p,o=>by simp [Qia,Qnz]
 | x::l,p,o=>QBY l (some x.2.2.1) o
theorem Qzh {i:Int} (hi:1≤i):∀ (l:List Int) (p:Option Int),YB (i-1) p l=true→(match p with | none=>true | some q=>decide (q<i))=true→YB i p (l++[i])=true
 | [],p,h,hp=>by
  simp only [List.nil_append,YB,Bool.and_true,Bool.and_eq_true]
  exact ⟨QS.2 ⟨hi,Int.le_refl _⟩,hp⟩
 | c::r,p,h,hp=>by
  simp only [List.cons_append,YB,Bool.and_eq_true] at h ⊢
  have h1:=QS.1 h.1.1
  exact ⟨⟨QS.2 ⟨h1.1,by omega⟩,h.1.2⟩,Qzh hi r (some c) h.2 (by simp;omega)⟩
theorem Qn4 {n n':Int} (hn:n≤n'):∀ (l:List Int) (p:Option Int),YB n p l=true→YB n' p l=true
 | [],p,h=>rfl
 | c::r,p,h=>by
  simp only [YB,Bool.and_eq_true] at h ⊢
  have h1:=QS.1 h.1.1
  exact ⟨⟨QS.2 ⟨h1.1,by omega⟩,h.1.2⟩,Qn4 hn r (some c) h.2⟩
end Go.Proofs.YtjbdljkhbglnhaaGreat.Am
namespace Go.Proofs.YtjbdljkhbglnhaaGreat.Am
open Go Sz
def Qdp (_:TCur) (_:Zf) (t:List Qr × TCur):Prop:=1≤t.1.length∧t.1.length≤4∧QN t.2
def QdJ (_:TCur) (_:Zf) (t:List Qr × TCur):Prop:=t.1.length≤6∧QN t.2
@[reducible] def QlV (_:List Int) (t:QM × List Qr):Prop:=t.1.2.2.2.1.length≤4
def QaF (_:TCur) (t:QM × List Qr × TCur):Prop:=t.1.2.1.length≤3∧1≤t.1.2.2.2.1.length∧t.1.2.2.2.1.length≤4∧t.1.2.2.2.2.1.length≤4∧1≤t.1.2.2.2.2.2.length∧t.1.2.2.2.2.2.length≤4∧QN t.2.2
@[reducible] def Qg2 (_:TCur) (t:QM × List Qr × TCur):Prop:=t.1.2.2.2.1.length≤4
end Go.Proofs.YtjbdljkhbglnhaaGreat.Am

