/- -/
import Derived.Test.YtjbdljkhbglnhaaGreatZCG8
set_option linter.all false
namespace Go.Proofs.YtjbdljkhbglnhaaGreat.Am
open Go Sz
abbrev TCur:=List Int × Int × Int
def Qas (l:List Int):Prop:=l.length≤1048576
def QF (c:TCur):Prop:=0≤c.2.1∧c.1.length≤1048576
@[reducible] def Zr {α:Type} (c:TCur) (_:α):Prop:=QF c
@[reducible] def Qck (_:List Int) (t:TCur):Prop:=QF t
def Qgn (code:List Int):Bool:=decide ((code.length:Int)>1048576)
def m_at (code:List Int) (i:Int):Int:=if i<code.length then w64 (gtd 0 code i.toNat) else Int.tmod (w64 (w64 (i*37)+w64 (code.length*11))) 256
def p_at (_:List Int) (i:Int):Prop:=0≤i
def QjJ (_:TCur) (t:Int × TCur):Prop:=0≤t.1∧t.1≤255∧QF t.2
def QkE (_:TCur) (n:Int) (t:Int × TCur):Prop:=0≤t.1∧(0<n→t.1<n)∧(n≤0→t.1=0)∧QF t.2
@[reducible] def Qkx (_:TCur) (_:Int) (t:Bool × TCur):Prop:=QF t.2
def Y9 (c:TCur) (l:List Int):Prop:=QF c∧1≤l.length∧l.length≤100
def Qhl (_:TCur) (l:List Int) (t:Int × TCur):Prop:=t.1∈l∧QF t.2
def Qjy (_:TCur) (t:Int × TCur):Prop:=Q8 t.1=true∧QF t.2
@[reducible] def Qix (_:TCur) (t:Int × TCur):Prop:=QF t.2
def JD (c:TCur) (n:Int):Prop:=QF c∧n≤1000
def QcN (_:TCur) (n:Int) (t:List Int × TCur):Prop:=t.1.length=n.toNat∧ZD t.1=true∧QF t.2
def QiB (_:TCur) (t:List Int × TCur):Prop:=t.1.length≤7∧QF t.2
def p_op (c:TCur) (n:Int):Prop:=QF c∧1≤n∧n≤3
def q_op (_:TCur) (n:Int) (t:TOp' × TCur):Prop:=Zb t.1=true∧t.1.2.1=n∧1≤t.1.2.2.1∧t.1.2.2.1≤3∧t.1.2.2.2.length≤36∧QF t.2
def QhM (_:TCur) (t:TOp' × TCur):Prop:=t.1.2.2.2.length≤40∧QF t.2
def QcG (_:TCur) (t:Q9 × TCur):Prop:=QN t.1=true∧t.1.length≤6∧QF t.2
def Qel (_:TCur) (t:Q9 × TCur):Prop:=t.1.length≤9∧QF t.2
def QdO (c:TCur) (m:Q9):Prop:=QF c∧m.length≤9
def QcI (_:TCur) (m:Q9) (t:List Int × TCur):Prop:=(QN m=true→Zg m t.1=true)∧t.1.length≤3∧QF t.2
theorem Qb1 (st s m:Int):(Z4 st s m).length≤3:=by unfold Z4;split <;> split <;> simp
theorem QnX (st s m:Int) (redo:Bool):(Yt st s m redo).length≤4:=by unfold Yt;split <;> split <;> split <;> simp
theorem QBD {α:Type} {f:Nat→List α} {R:Nat} (n:Nat) (h:∀ k,k<n→(f k).length≤R):((List.range n).flatMap f).length≤n*R:=by
 induction n with
 | zero=>simp
 | succ n ih =>
  have h1:=ih (fun k hk=>h k (by omega))
  have h2:=h n (by omega)
  rw [Qew,List.length_append,Nat.add_mul];omega
theorem Qjd {st s mi:Int}:ZU st s mi=true↔1≤st∧st≤4∧0≤s∧s<st∧1≤mi∧mi≤5:=by
 simp only [ZU,Bool.and_eq_true,QR];omega
theorem Qf5 {ds st s mi:Int} (h:ZU st s mi=true):0≤ZP ds st s mi∧ZP ds st s mi≤mi:=by
 have:=Qjd.1 h
 unfold ZP;rw [if_pos h]
 split
 ·unfold iMin;split <;> omega
 ·omega
def J7 (st s:Int) (w:Nat):List TIns:=(List.range w).flatMap fun m:Nat=>Z4 st s (m:Int)
def Qgl (st s mi:Int) (redo:Bool) (w m:Nat):List TIns:=(if (m:Int)+w<mi then Z4 st s ((m:Int)+w) else [])++Yt st s (m:Int) redo
def Qak (st s mi:Int) (redo:Bool) (w k:Nat):List TIns:=(List.range k).flatMap fun m:Nat=>Qgl st s mi redo w m
theorem Qm6 {ds st s mi:Int} {redo:Bool} (h:(m_in ds 1 2&&ZU st s mi)=true) :
  ZE ds st s mi redo=J7 st s (ZP ds st s mi).toNat++Qak st s mi redo (ZP ds st s mi).toNat mi.toNat++[(8,0)]:=by
 unfold ZE;rw [if_pos h];rfl
theorem Qot {ds st s mi:Int} {redo:Bool} (h:¬ (m_in ds 1 2&&ZU st s mi)=true):ZE ds st s mi redo=[]:=by
 unfold ZE;rw [if_neg h]
theorem Qdb (st s:Int) (w:Nat):(J7 st s w).length≤w*3:=QBD w (fun k _=>Qb1 st s k)
theorem Qgp (st s mi:Int) (redo:Bool) (w k:Nat):(Qak st s mi redo w k).length≤k*7:=by
 refine QBD k (fun m _=>?_)
 have h1:=Qb1 st s ((m:Int)+w)
 have h2:=QnX st s m redo
 unfold Qgl
 rw [List.length_append]
 split
 ·omega
 ·simp only [List.length_nil];omega
theorem QBV (st s:Int) (w:Nat):J7 st s (w+1)=J7 st s w++Z4 st s w:=Qew
theorem QCt (st s mi:Int) (redo:Bool) (w k:Nat):Qak st s mi redo w (k+1)=Qak st s mi redo w k++Qgl st s mi redo w k:=Qew
theorem QW0 {ds st s mi:Int}:((((!(m_in ds 1 2))||(!(m_in st 1 4)))||(!(m_in s 0 (w64 (st-1)))))||(!(m_in mi 1 5))) = !(m_in ds 1 2&&ZU st s mi):=by
 by_cases hst:m_in st 1 4=true
 ·have:=QR.1 hst
  rw [Qq (by omega) (by omega)]
  unfold ZU
  cases m_in ds 1 2 <;> cases m_in st 1 4 <;> cases m_in s 0 (st-1) <;> cases m_in mi 1 5 <;> rfl
 ·simp only [Bool.not_eq_true] at hst
  unfold ZU
  rw [hst];cases m_in ds 1 2 <;> rfl
theorem QO6 {ds st s mi:Int}:(((ds != 1)&&(ds != 2))||(!(ZU st s mi))) = !(m_in ds 1 2&&ZU st s mi):=by
 have:((ds != 1)&&(ds != 2)) = !(m_in ds 1 2):=by
  rw [Bool.eq_iff_iff];simp [m_in];omega
 rw [this];cases m_in ds 1 2 <;> cases ZU st s mi <;> rfl
theorem QpI {α:Type} {l x:List α} (h:l.length+x.length≤1000000):(l.length=l.length∨l.length+(List.take x.length (List.drop 0 x)).length≤l.length)∧l.length+(List.take x.length (List.drop 0 x)).length≤big:=by
 rw [List.drop_zero,List.take_length];exact ⟨.inl rfl,by rw [Zu];omega⟩
theorem Qoo {α:Type} (l x:List α):List.take (l.length+(List.take x.length (List.drop 0 x)).length) (List.take l.length l++List.take x.length (List.drop 0 x))=l++x:=by
 rw [List.drop_zero,List.take_length,QvO]
end Go.Proofs.YtjbdljkhbglnhaaGreat.Am
namespace Go.Proofs.YtjbdljkhbglnhaaGreat.Am
open Go Sz
theorem QhC (ds st s mi:Int) (redo:Bool):(ZE ds st s mi redo).length≤51:=by
 by_cases h:(m_in ds 1 2&&ZU st s mi)=true
 ·rw [Qm6 h]
  have hq:ZU st s mi=true:=by simp only [Bool.and_eq_true] at h;exact h.2
  have hr:=Qjd.1 hq
  have hw:=Qf5 (ds:=ds) hq
  have h1:=Qdb st s (ZP ds st s mi).toNat
  have h2:=Qgp st s mi redo (ZP ds st s mi).toNat mi.toNat
  rw [List.length_append,List.length_append]
  simp only [List.length_cons,List.length_nil]
  omega
 ·rw [Qot h];simp
theorem Qx1 (c:Qo) (mi:Int):∀ k,0≤Qbh c mi k∧Qbh c mi k≤51*k
 | 0=>by simp [Qbh]
 | k+1=>by
  have h1:=Qx1 c mi k
  have h2:=QhC c.2.2.1 (QO c) k mi (gtd false c.2.2.2.1 k)
  unfold Qbh
  omega
end Go.Proofs.YtjbdljkhbglnhaaGreat.Am
namespace Go.Proofs.YtjbdljkhbglnhaaGreat.Am
open Go Sz
theorem Ze {α:Type} {q:α→Prop} {R:α→TRes} {x:α} (h:q x):∃ t,q t∧R x=R t:=⟨x,h,rfl⟩
theorem Qjw (a:Int):0≤w64 (((BitVec.ofInt (IntKind.i64.bits) a &&& BitVec.ofInt (IntKind.i64.bits) 255).toNat:Nat):Int)∧w64 (((BitVec.ofInt (IntKind.i64.bits) a &&& BitVec.ofInt (IntKind.i64.bits) 255).toNat:Nat):Int)≤255:=by
 have h:(BitVec.ofInt (IntKind.i64.bits) a &&& BitVec.ofInt (IntKind.i64.bits) 255).toNat≤255:=by
  rw [BitVec.toNat_and]
  have:(BitVec.ofInt (IntKind.i64.bits) 255).toNat=255:=by decide
  rw [this]
  exact Nat.and_le_right
 rw [Qq (by omega) (by omega)]
 omega
theorem QGQ {a b B:Int} (hb:0<b) (h1:-B≤a) (h2:a≤B):-B≤Int.tdiv a b∧Int.tdiv a b≤B:=by
 by_cases h:0≤a
 ·have h3:0≤Int.tdiv a b:=Int.tdiv_nonneg h (by omega)
  have h4:Int.tdiv a b≤a:=by
   rw [Int.tdiv_eq_ediv_of_nonneg h]
   exact Int.ediv_le_self b h
  omega
 ·have h5:Int.tdiv a b = - Int.tdiv (-a) b:=by rw [Int.neg_tdiv];omega
  have h3:0≤Int.tdiv (-a) b:=Int.tdiv_nonneg (by omega) (by omega)
  have h4:Int.tdiv (-a) b≤-a:=by
   rw [Int.tdiv_eq_ediv_of_nonneg (by omega)]
   exact Int.ediv_le_self b (by omega)
  omega
theorem QM2 {code:List Int} (h:Qgn code=false):Qas code:=by
 unfold Qgn at h;unfold Qas
 have:=of_decide_eq_false h
 omega
theorem Qyk (k:Int) {a b:Int} (p:List Int) (h1:1≤a) (h2:a≤3) (h3:1≤b) (h4:b≤3):0≤Ya (k,a,b,p)∧Ya (k,a,b,p)≤9:=by
 have ha:a=1∨a=2∨a=3:=by omega
 have hb:b=1∨b=2∨b=3:=by omega
 simp only [Ya,m_in]
 rcases ha with rfl | rfl | rfl <;> rcases hb with rfl | rfl | rfl <;> simp <;> split <;> (try split) <;> (try split) <;> omega
theorem QUi {k a b:Int} {p:List Int} (h0:1≤k) (h0':k≤5) (h1:1≤a) (h2:a≤3) (h3:1≤b) (h4:b≤3) (h5:k=1∨a=b) (h6:p.length=(Ya (k,a,b,[])).toNat) (h7:ZD p=true):Zb (k,a,b,p)=true:=by
 have h:=(Qyk k [] h1 h2 h3 h4).1
 have e:Ya (k,a,b,p)=Ya (k,a,b,[]):=rfl
 simp only [Zb,m_in,Bool.and_eq_true,decide_eq_true_eq,Bool.or_eq_true,beq_iff_eq,e]
 refine ⟨⟨⟨⟨⟨⟨h0,h0'⟩,?_⟩,?_⟩,h5⟩,?_⟩,h7⟩ <;> omega
theorem QNU {l:List Int} {x:Int} (h:ZD l=true) (hx:Q8 x=true):ZD (l++[x])=true:=by
 simp only [ZD,List.all_append,List.all_cons,List.all_nil,Bool.and_true,Bool.and_eq_true] at h ⊢
 exact ⟨h,hx⟩
def QmA:Option Int→List TOp'→Option Int
 | p,[]=>p
 | _,x::r=>QmA (some x.2.2.1) r
def QjS (p:Option Int) (l:List TOp') (n:Int):Bool:=match QmA p l with | none=>true | some q=>q==n
theorem QrJ:∀ (l:List TOp') (p:Option Int) (o:TOp'),Yv p l=true→Zb o=true→QjS p l o.2.1=true→Yv p (l++[o])=true
 | [],p,o,h,ho,hl=>by
  simp only [List.nil_append,Yv,ho,Bool.true_and,Bool.and_true]
  exact hl
 | x::l,p,o,h,ho,hl=>by
  simp only [Yv,Bool.and_eq_true,List.cons_append] at h ⊢
  exact ⟨h.1,QrJ l (some x.2.2.1) o h.2 ho hl⟩
theorem QBL:∀ (l:List TOp') (p:Option Int) (o:TOp'),QjS p (l++[o]) o.2.2.1=true
 | [],p,o=>by simp [QjS,QmA]
 | x::l,p,o=>QBL l (some x.2.2.1) o
theorem QtF {i:Int} (hi:1≤i):∀ (l:List Int) (p:Option Int),Z2 (i-1) p l=true→(match p with | none=>true | some q=>decide (q<i))=true→Z2 i p (l++[i])=true
 | [],p,h,hp=>by
  simp only [List.nil_append,Z2,Bool.and_true,Bool.and_eq_true]
  exact ⟨QR.2 ⟨hi,Int.le_refl _⟩,hp⟩
 | c::r,p,h,hp=>by
  simp only [List.cons_append,Z2,Bool.and_eq_true] at h ⊢
  have h1:=QR.1 h.1.1
  exact ⟨⟨QR.2 ⟨h1.1,by omega⟩,h.1.2⟩,QtF hi r (some c) h.2 (by simp;omega)⟩
theorem Qm2 {n n':Int} (hn:n≤n'):∀ (l:List Int) (p:Option Int),Z2 n p l=true→Z2 n' p l=true
 | [],p,h=>rfl
 | c::r,p,h=>by
  simp only [Z2,Bool.and_eq_true] at h ⊢
  have h1:=QR.1 h.1.1
  exact ⟨⟨QR.2 ⟨h1.1,by omega⟩,h.1.2⟩,Qm2 hn r (some c) h.2⟩
end Go.Proofs.YtjbdljkhbglnhaaGreat.Am
namespace Go.Proofs.YtjbdljkhbglnhaaGreat.Am
open Go Sz
def Qc2 (_:TCur) (_:Q9) (t:List Qi × TCur):Prop:=1≤t.1.length∧t.1.length≤4∧QF t.2
def QeJ (_:TCur) (_:Q9) (t:List Qi × TCur):Prop:=t.1.length≤6∧QF t.2
@[reducible] def Qnl (_:List Int) (t:Qo × List Qi):Prop:=t.1.2.2.2.1.length≤4
def QaQ (_:TCur) (t:Qo × List Qi × TCur):Prop:=t.1.2.1.length≤3∧1≤t.1.2.2.2.1.length∧t.1.2.2.2.1.length≤4∧t.1.2.2.2.2.1.length≤4∧1≤t.1.2.2.2.2.2.length∧t.1.2.2.2.2.2.length≤4∧QF t.2.2
@[reducible] def Qg8 (_:TCur) (t:Qo × List Qi × TCur):Prop:=t.1.2.2.2.1.length≤4
end Go.Proofs.YtjbdljkhbglnhaaGreat.Am

