/- -/
import Derived.Test.YtjbdljkhbglnhaaGreatZAG8
set_option linter.all false
namespace Go.Proofs.YtjbdljkhbglnhaaGreat.Am
open Go Sz
abbrev TCur:=List Int × Int × Int
def Qam (l:List Int):Prop:=l.length≤1048576
def Qx (c:TCur):Prop:=0≤c.2.1∧c.1.length≤1048576
@[reducible] def Zc {α:Type} (c:TCur) (_:α):Prop:=Qx c
@[reducible] def Qb2 (_:List Int) (t:TCur):Prop:=Qx t
def QeI (code:List Int):Bool:=decide ((code.length:Int)>1048576)
def Qif (_:TCur) (t:Int × TCur):Prop:=0≤t.1∧t.1≤255∧Qx t.2
def QiE (_:TCur) (n:Int) (t:Int × TCur):Prop:=0≤t.1∧(0<n→t.1<n)∧(n≤0→t.1=0)∧Qx t.2
@[reducible] def Qi5 (_:TCur) (_:Int) (t:Bool × TCur):Prop:=Qx t.2
def YX (c:TCur) (l:List Int):Prop:=Qx c∧1≤l.length∧l.length≤100
def QhR (_:TCur) (l:List Int) (t:Int × TCur):Prop:=t.1∈l∧Qx t.2
def Qgo (_:TCur) (t:Int × TCur):Prop:=Q6 t.1=true∧Qx t.2
@[reducible] def QhF (_:TCur) (t:Int × TCur):Prop:=Qx t.2
def Js (c:TCur) (n:Int):Prop:=Qx c∧n≤1000
def Qcx (_:TCur) (n:Int) (t:List Int × TCur):Prop:=t.1.length=n.toNat∧Zr t.1=true∧Qx t.2
def Qg3 (_:TCur) (t:List Int × TCur):Prop:=t.1.length≤7∧Qx t.2
def p_op (c:TCur) (n:Int):Prop:=Qx c∧1≤n∧n≤3
def q_op (_:TCur) (n:Int) (t:TOp' × TCur):Prop:=Za t.1=true∧t.1.2.1=n∧1≤t.1.2.2.1∧t.1.2.2.1≤3∧t.1.2.2.2.length≤36∧Qx t.2
def Qg0 (_:TCur) (t:TOp' × TCur):Prop:=t.1.2.2.2.length≤40∧Qx t.2
def Qcv (_:TCur) (t:Q5 × TCur):Prop:=QM t.1=true∧t.1.length≤6∧Qx t.2
def Qdi (_:TCur) (t:Q5 × TCur):Prop:=t.1.length≤9∧Qx t.2
def Qdx (c:TCur) (m:Q5):Prop:=Qx c∧m.length≤9
def Qcy (_:TCur) (m:Q5) (t:List Int × TCur):Prop:=(QM m=true→Q7 m t.1=true)∧t.1.length≤3∧Qx t.2
theorem Qeq (st s m:Int):(Z9 st s m).length≤3:=by unfold Z9;split <;> split <;> simp
theorem QAk (st s m:Int) (redo:Bool):(Yr st s m redo).length≤4:=by unfold Yr;split <;> split <;> split <;> simp
theorem QrQ {α:Type} {f:Nat→List α} {R:Nat} (n:Nat) (h:∀ k,k<n→(f k).length≤R):((List.range n).flatMap f).length≤n*R:=by
 induction n with
 | zero=>simp
 | succ n ih =>
  have h1:=ih (fun k hk=>h k (by omega))
  have h2:=h n (by omega)
  rw [Qd2,List.length_append,Nat.add_mul];omega
theorem QmO {st s mi:Int}:Yt st s mi=true↔1≤st∧st≤4∧0≤s∧s<st∧1≤mi∧mi≤5:=by
 simp only [Yt,Bool.and_eq_true,QR];omega
theorem QnZ {ds st s mi:Int} (h:Yt st s mi=true):0≤YW ds st s mi∧YW ds st s mi≤mi:=by
 have:=QmO.1 h
 unfold YW;rw [if_pos h]
 split
 ·unfold iMin;split <;> omega
 ·omega
def QbT (st s:Int) (w:Nat):List TIns:=(List.range w).flatMap fun m:Nat=>Z9 st s (m:Int)
def Qg4 (st s mi:Int) (redo:Bool) (w m:Nat):List TIns:=(if (m:Int)+w<mi then Z9 st s ((m:Int)+w) else [])++Yr st s (m:Int) redo
def QbR (st s mi:Int) (redo:Bool) (w k:Nat):List TIns:=(List.range k).flatMap fun m:Nat=>Qg4 st s mi redo w m
theorem Qqt {ds st s mi:Int} {redo:Bool} (h:(m_in ds 1 2&&Yt st s mi)=true) :
  ZW ds st s mi redo=QbT st s (YW ds st s mi).toNat++QbR st s mi redo (YW ds st s mi).toNat mi.toNat++[(8,0)]:=by
 unfold ZW;rw [if_pos h];rfl
theorem Qp0 {ds st s mi:Int} {redo:Bool} (h:¬ (m_in ds 1 2&&Yt st s mi)=true):ZW ds st s mi redo=[]:=by
 unfold ZW;rw [if_neg h]
theorem QgB (st s:Int) (w:Nat):(QbT st s w).length≤w*3:=QrQ w (fun k _=>Qeq st s k)
theorem Qkv (st s mi:Int) (redo:Bool) (w k:Nat):(QbR st s mi redo w k).length≤k*7:=by
 refine QrQ k (fun m _=>?_)
 have h1:=Qeq st s ((m:Int)+w)
 have h2:=QAk st s m redo
 unfold Qg4
 rw [List.length_append]
 split
 ·omega
 ·simp only [List.length_nil];omega
theorem QG3 (st s:Int) (w:Nat):QbT st s (w+1)=QbT st s w++Z9 st s w:=Qd2
theorem QQ1 (st s mi:Int) (redo:Bool) (w k:Nat):QbR st s mi redo w (k+1)=QbR st s mi redo w k++Qg4 st s mi redo w k:=Qd2
theorem QFw {ds st s mi:Int}:(((ds != 1)&&(ds != 2))||(!(Yt st s mi))) = !(m_in ds 1 2&&Yt st s mi):=by
 have:((ds != 1)&&(ds != 2)) = !(m_in ds 1 2):=by
  rw [Bool.eq_iff_iff];simp [m_in];omega
 rw [this];cases m_in ds 1 2 <;> cases Yt st s mi <;> rfl
theorem Qlo {α:Type} {l x:List α} (h:l.length+x.length≤1000000):(l.length=l.length∨l.length+(List.take x.length (List.drop 0 x)).length≤l.length)∧l.length+(List.take x.length (List.drop 0 x)).length≤big:=by
 rw [List.drop_zero,List.take_length];exact ⟨.inl rfl,by rw [Zy];omega⟩
theorem Qnm {α:Type} (l x:List α):List.take (l.length+(List.take x.length (List.drop 0 x)).length) (List.take l.length l++List.take x.length (List.drop 0 x))=l++x:=by
 rw [List.drop_zero,List.take_length,QLl]
end Go.Proofs.YtjbdljkhbglnhaaGreat.Am
namespace Go.Proofs.YtjbdljkhbglnhaaGreat.Am
open Go Sz
theorem QiP (ds st s mi:Int) (redo:Bool):(ZW ds st s mi redo).length≤51:=by
 by_cases h:(m_in ds 1 2&&Yt st s mi)=true
 ·rw [Qqt h]
  have hq:Yt st s mi=true:=by simp only [Bool.and_eq_true] at h;exact h.2
  have hr:=QmO.1 hq
  have hw:=QnZ (ds:=ds) hq
  have h1:=QgB st s (YW ds st s mi).toNat
  have h2:=Qkv st s mi redo (YW ds st s mi).toNat mi.toNat
  rw [List.length_append,List.length_append]
  simp only [List.length_cons,List.length_nil]
  omega
 ·rw [Qp0 h];simp
theorem Qti (c:Qo) (mi:Int):∀ k,0≤Qbj c mi k∧Qbj c mi k≤51*k
 | 0=>by simp [Qbj]
 | k+1=>by
  have h1:=Qti c mi k
  have h2:=QiP c.2.2.1 (QK c) k mi (gtd false c.2.2.2.1 k)
  unfold Qbj
  omega
end Go.Proofs.YtjbdljkhbglnhaaGreat.Am
namespace Go.Proofs.YtjbdljkhbglnhaaGreat.Am
open Go Sz
theorem Q4 {α:Type} {q:α→Prop} {R:α→TRes} {x:α} (h:q x):∃ t,q t∧R x=R t:=⟨x,h,rfl⟩
theorem QgW (a:Int):0≤w64 (((BitVec.ofInt (IntKind.i64.bits) a &&& BitVec.ofInt (IntKind.i64.bits) 255).toNat:Nat):Int)∧w64 (((BitVec.ofInt (IntKind.i64.bits) a &&& BitVec.ofInt (IntKind.i64.bits) 255).toNat:Nat):Int)≤255:=by
 have h:(BitVec.ofInt (IntKind.i64.bits) a &&& BitVec.ofInt (IntKind.i64.bits) 255).toNat≤255:=by
  rw [BitVec.toNat_and]
  have:(BitVec.ofInt (IntKind.i64.bits) 255).toNat=255:=by decide
  rw [this]
  exact Nat.and_le_right
 rw [Qp (by omega) (by omega)]
 omega
theorem QDY {a b B:Int} (hb:0<b) (h1:-B≤a) (h2:a≤B):-B≤Int.tdiv a b∧Int.tdiv a b≤B:=by
 by_cases h:0≤a
 ·have h3:0≤Int.tdiv a b:=Int.tdiv_nonneg h (by omega)
  have h4:Int.tdiv a b≤a:=by
   rw [Int.tdiv_eq_ediv_of_nonneg h]
   exact Int.ediv_le_self b h
  omega
 ·have h5:Int.tdiv a b = - Int.tdiv (-a) b:=by rw [Int.neg_tdiv];omega
  have h3:0≤Int.tdiv (-a) b:=Int.tdiv_nonneg (by omega) (by omega)
  have h4:Int.tdiv (-a) b≤-a:=by
   rw [Int.tdiv_eq_ediv_of_nonneg (by omega)]
   exact Int.ediv_le_self b (by omega)
  omega
theorem QAT {code:List Int} (h:QeI code=false):Qam code:=by
 unfold QeI at h;unfold Qam
 have:=of_decide_eq_false h
 omega
theorem Qye (k:Int) {a b:Int} (p:List Int) (h1:1≤a) (h2:a≤3) (h3:1≤b) (h4:b≤3):0≤ZV (k,a,b,p)∧ZV (k,a,b,p)≤9:=by
 have ha:a=1∨a=2∨a=3:=by omega
 have hb:b=1∨b=2∨b=3:=by omega
 simp only [ZV,m_in]
 rcases ha with rfl | rfl | rfl <;> rcases hb with rfl | rfl | rfl <;> simp <;> split <;> (try split) <;> (try split) <;> omega
theorem QQh {k a b:Int} {p:List Int} (h0:1≤k) (h0':k≤5) (h1:1≤a) (h2:a≤3) (h3:1≤b) (h4:b≤3) (h5:k=1∨a=b) (h6:p.length=(ZV (k,a,b,[])).toNat) (h7:Zr p=true):Za (k,a,b,p)=true:=by
 have h:=(Qye k [] h1 h2 h3 h4).1
 have e:ZV (k,a,b,p)=ZV (k,a,b,[]):=rfl
 simp only [Za,m_in,Bool.and_eq_true,decide_eq_true_eq,Bool.or_eq_true,beq_iff_eq,e]
 refine ⟨⟨⟨⟨⟨⟨h0,h0'⟩,?_⟩,?_⟩,h5⟩,?_⟩,h7⟩ <;> omega
theorem QRj {l:List Int} {x:Int} (h:Zr l=true) (hx:Q6 x=true):Zr (l++[x])=true:=by
 simp only [Zr,List.all_append,List.all_cons,List.all_nil,Bool.and_true,Bool.and_eq_true] at h ⊢
 exact ⟨h,hx⟩
def Qkx:Option Int→List TOp'→Option Int
 | p,[]=>p
 | _,x::r=>Qkx (some x.2.2.1) r
def Qh3 (p:Option Int) (l:List TOp') (n:Int):Bool:=match Qkx p l with | none=>true | some q=>q==n
theorem QoB:∀ (l:List TOp') (p:Option Int) (o:TOp'),Ye p l=true→Za o=true→Qh3 p l o.2.1=true→Ye p (l++[o])=true
 | [],p,o,h,ho,hl=>by
  simp only [List.nil_append,Ye,ho,Bool.true_and,Bool.and_true]
  exact hl
 | x::l,p,o,h,ho,hl=>by
  simp only [Ye,Bool.and_eq_true,List.cons_append] at h ⊢
  exact ⟨h.1,QoB l (some x.2.2.1) o h.2 ho hl⟩
theorem QyO:∀ (l:List TOp') (p:Option Int) (o:TOp'),Qh3 p (l++[o]) o.2.2.1=true
 | [],p,o=>by simp [Qh3,Qkx]
 | x::l,p,o=>QyO l (some x.2.2.1) o
theorem Qz8 {i:Int} (hi:1≤i):∀ (l:List Int) (p:Option Int),ZT (i-1) p l=true→(match p with | none=>true | some q=>decide (q<i))=true→ZT i p (l++[i])=true
 | [],p,h,hp=>by
  simp only [List.nil_append,ZT,Bool.and_true,Bool.and_eq_true]
  exact ⟨QR.2 ⟨hi,Int.le_refl _⟩,hp⟩
 | c::r,p,h,hp=>by
  simp only [List.cons_append,ZT,Bool.and_eq_true] at h ⊢
  have h1:=QR.1 h.1.1
  exact ⟨⟨QR.2 ⟨h1.1,by omega⟩,h.1.2⟩,Qz8 hi r (some c) h.2 (by simp;omega)⟩
theorem Qmg {n n':Int} (hn:n≤n'):∀ (l:List Int) (p:Option Int),ZT n p l=true→ZT n' p l=true
 | [],p,h=>rfl
 | c::r,p,h=>by
  simp only [ZT,Bool.and_eq_true] at h ⊢
  have h1:=QR.1 h.1.1
  exact ⟨⟨QR.2 ⟨h1.1,by omega⟩,h.1.2⟩,Qmg hn r (some c) h.2⟩
end Go.Proofs.YtjbdljkhbglnhaaGreat.Am
namespace Go.Proofs.YtjbdljkhbglnhaaGreat.Am
open Go Sz
def Qco (_:TCur) (_:Q5) (t:List Qh × TCur):Prop:=1≤t.1.length∧t.1.length≤4∧Qx t.2
def Qdw (_:TCur) (_:Q5) (t:List Qh × TCur):Prop:=t.1.length≤6∧Qx t.2
@[reducible] def QnW (_:List Int) (t:Qo × List Qh):Prop:=t.1.2.2.2.1.length≤4
def QaS (_:TCur) (t:Qo × List Qh × TCur):Prop:=t.1.2.1.length≤3∧1≤t.1.2.2.2.1.length∧t.1.2.2.2.1.length≤4∧t.1.2.2.2.2.1.length≤4∧1≤t.1.2.2.2.2.2.length∧t.1.2.2.2.2.2.length≤4∧Qx t.2.2
@[reducible] def Qhx (_:TCur) (t:Qo × List Qh × TCur):Prop:=t.1.2.2.2.1.length≤4
end Go.Proofs.YtjbdljkhbglnhaaGreat.Am

