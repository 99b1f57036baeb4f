/- -/
import Derived.Test.YtjbdljkhbglnhaaGreatZAG8
set_option linter.all false
namespace Go.Proofs.YtjbdljkhbglnhaaGreat.Am
open Go Sz
abbrev TCur:=List Int × Int × Int
def Qah (l:List Int):Prop:=l.length≤1048576
def Qy (c:TCur):Prop:=0≤c.2.1∧c.1.length≤1048576
@[reducible] def Zb {α:Type} (c:TCur) (_:α):Prop:=Qy c
@[reducible] def Qbz (_:List Int) (t:TCur):Prop:=Qy t
def Qfn (code:List Int):Bool:=decide ((code.length:Int)>1048576)
def QfM (_:TCur) (t:Int × TCur):Prop:=0≤t.1∧t.1≤255∧Qy t.2
def Qgh (_:TCur) (n:Int) (t:Int × TCur):Prop:=0≤t.1∧(0<n→t.1<n)∧(n≤0→t.1=0)∧Qy t.2
@[reducible] def Qhf (_:TCur) (_:Int) (t:Bool × TCur):Prop:=Qy t.2
def YZ (c:TCur) (l:List Int):Prop:=Qy c∧1≤l.length∧l.length≤100
def QhE (_:TCur) (l:List Int) (t:Int × TCur):Prop:=t.1∈l∧Qy t.2
def Qg8 (_:TCur) (t:Int × TCur):Prop:=Q6 t.1=true∧Qy t.2
@[reducible] def Qf7 (_:TCur) (t:Int × TCur):Prop:=Qy t.2
def JA (c:TCur) (n:Int):Prop:=Qy c∧n≤1000
def Qcz (_:TCur) (n:Int) (t:List Int × TCur):Prop:=t.1.length=n.toNat∧Zs t.1=true∧Qy t.2
def Qge (_:TCur) (t:List Int × TCur):Prop:=t.1.length≤7∧Qy t.2
def p_op (c:TCur) (n:Int):Prop:=Qy c∧1≤n∧n≤3
def q_op (_:TCur) (n:Int) (t:TOp' × TCur):Prop:=Za t.1=true∧t.1.2.1=n∧1≤t.1.2.2.1∧t.1.2.2.1≤3∧t.1.2.2.2.length≤36∧Qy t.2
def Qjb (_:TCur) (t:TOp' × TCur):Prop:=t.1.2.2.2.length≤40∧Qy t.2
def Qb9 (_:TCur) (t:Q5 × TCur):Prop:=QN t.1=true∧t.1.length≤6∧Qy t.2
def QdQ (_:TCur) (t:Q5 × TCur):Prop:=t.1.length≤9∧Qy t.2
def Qdt (c:TCur) (m:Q5):Prop:=Qy c∧m.length≤9
def Qcl (_:TCur) (m:Q5) (t:List Int × TCur):Prop:=(QN m=true→Q7 m t.1=true)∧t.1.length≤3∧Qy t.2
theorem Qep (st s m:Int):(Z7 st s m).length≤3:=by unfold Z7;split <;> split <;> simp
theorem Qvk (st s m:Int) (redo:Bool):(Ym st s m redo).length≤4:=by unfold Ym;split <;> split <;> split <;> simp
theorem QAb {α:Type} {f:Nat→List α} {R:Nat} (n:Nat) (h:∀ k,k<n→(f k).length≤R):((List.range n).flatMap f).length≤n*R:=by
 induction n with
 | zero=>simp
 | succ n ih =>
  have h1:=ih (fun k hk=>h k (by omega))
  have h2:=h n (by omega)
  rw [Qdl,List.length_append,Nat.add_mul];omega
theorem Qn8 {st s mi:Int}:Yp st s mi=true↔1≤st∧st≤4∧0≤s∧s<st∧1≤mi∧mi≤5:=by
 simp only [Yp,Bool.and_eq_true,QR];omega
theorem Qnr {ds st s mi:Int} (h:Yp st s mi=true):0≤YW ds st s mi∧YW ds st s mi≤mi:=by
 have:=Qn8.1 h
 unfold YW;rw [if_pos h]
 split
 ·unfold iMin;split <;> omega
 ·omega
def QbX (st s:Int) (w:Nat):List TIns:=(List.range w).flatMap fun m:Nat=>Z7 st s (m:Int)
def Qi9 (st s mi:Int) (redo:Bool) (w m:Nat):List TIns:=(if (m:Int)+w<mi then Z7 st s ((m:Int)+w) else [])++Ym st s (m:Int) redo
def Qbw (st s mi:Int) (redo:Bool) (w k:Nat):List TIns:=(List.range k).flatMap fun m:Nat=>Qi9 st s mi redo w m
theorem QwH {ds st s mi:Int} {redo:Bool} (h:(m_in ds 1 2&&Yp st s mi)=true) :
  ZZ ds st s mi redo=QbX st s (YW ds st s mi).toNat++Qbw st s mi redo (YW ds st s mi).toNat mi.toNat++[(8,0)]:=by
 unfold ZZ;rw [if_pos h];rfl
theorem Qs6 {ds st s mi:Int} {redo:Bool} (h:¬ (m_in ds 1 2&&Yp st s mi)=true):ZZ ds st s mi redo=[]:=by
 unfold ZZ;rw [if_neg h]
theorem Qi2 (st s:Int) (w:Nat):(QbX st s w).length≤w*3:=QAb w (fun k _=>Qep st s k)
theorem Ql2 (st s mi:Int) (redo:Bool) (w k:Nat):(Qbw st s mi redo w k).length≤k*7:=by
 refine QAb k (fun m _=>?_)
 have h1:=Qep st s ((m:Int)+w)
 have h2:=Qvk st s m redo
 unfold Qi9
 rw [List.length_append]
 split
 ·omega
 ·simp only [List.length_nil];omega
theorem QI4 (st s:Int) (w:Nat):QbX st s (w+1)=QbX st s w++Z7 st s w:=Qdl
theorem QFX (st s mi:Int) (redo:Bool) (w k:Nat):Qbw st s mi redo w (k+1)=Qbw st s mi redo w k++Qi9 st s mi redo w k:=Qdl
theorem QFb {ds st s mi:Int}:(((ds != 1)&&(ds != 2))||(!(Yp st s mi))) = !(m_in ds 1 2&&Yp st s mi):=by
 have:((ds != 1)&&(ds != 2)) = !(m_in ds 1 2):=by
  rw [Bool.eq_iff_iff];simp [m_in];omega
 rw [this];cases m_in ds 1 2 <;> cases Yp st s mi <;> rfl
theorem QmH {α:Type} {l x:List α} (h:l.length+x.length≤1000000):(l.length=l.length∨l.length+(List.take x.length (List.drop 0 x)).length≤l.length)∧l.length+(List.take x.length (List.drop 0 x)).length≤big:=by
 rw [List.drop_zero,List.take_length];exact ⟨.inl rfl,by rw [Zx];omega⟩
theorem Qnq {α:Type} (l x:List α):List.take (l.length+(List.take x.length (List.drop 0 x)).length) (List.take l.length l++List.take x.length (List.drop 0 x))=l++x:=by
 rw [List.drop_zero,List.take_length,QPK]
end Go.Proofs.YtjbdljkhbglnhaaGreat.Am
namespace Go.Proofs.YtjbdljkhbglnhaaGreat.Am
open Go Sz
theorem Qib (ds st s mi:Int) (redo:Bool):(ZZ ds st s mi redo).length≤51:=by
 by_cases h:(m_in ds 1 2&&Yp st s mi)=true
 ·rw [QwH h]
  have hq:Yp st s mi=true:=by simp only [Bool.and_eq_true] at h;exact h.2
  have hr:=Qn8.1 hq
  have hw:=Qnr (ds:=ds) hq
  have h1:=Qi2 st s (YW ds st s mi).toNat
  have h2:=Ql2 st s mi redo (YW ds st s mi).toNat mi.toNat
  rw [List.length_append,List.length_append]
  simp only [List.length_cons,List.length_nil]
  omega
 ·rw [Qs6 h];simp
theorem QwO (c:Qo) (mi:Int):∀ k,0≤Qbb c mi k∧Qbb c mi k≤51*k
 | 0=>by simp [Qbb]
 | k+1=>by
  have h1:=QwO c mi k
  have h2:=Qib c.2.2.1 (QK c) k mi (gtd false c.2.2.2.1 k)
  unfold Qbb
  omega
end Go.Proofs.YtjbdljkhbglnhaaGreat.Am
namespace Go.Proofs.YtjbdljkhbglnhaaGreat.Am
open Go Sz
theorem Q4 {α:Type} {q:α→Prop} {R:α→TRes} {x:α} (h:q x):∃ t,q t∧R x=R t:=⟨x,h,rfl⟩
theorem QfI (a:Int):0≤w64 (((BitVec.ofInt (IntKind.i64.bits) a &&& BitVec.ofInt (IntKind.i64.bits) 255).toNat:Nat):Int)∧w64 (((BitVec.ofInt (IntKind.i64.bits) a &&& BitVec.ofInt (IntKind.i64.bits) 255).toNat:Nat):Int)≤255:=by
 have h:(BitVec.ofInt (IntKind.i64.bits) a &&& BitVec.ofInt (IntKind.i64.bits) 255).toNat≤255:=by
  rw [BitVec.toNat_and]
  have:(BitVec.ofInt (IntKind.i64.bits) 255).toNat=255:=by decide
  rw [this]
  exact Nat.and_le_right
 rw [Qp (by omega) (by omega)]
 omega
theorem QCl {a b B:Int} (hb:0<b) (h1:-B≤a) (h2:a≤B):-B≤Int.tdiv a b∧Int.tdiv a b≤B:=by
 by_cases h:0≤a
 ·have h3:0≤Int.tdiv a b:=Int.tdiv_nonneg h (by omega)
  have h4:Int.tdiv a b≤a:=by
   rw [Int.tdiv_eq_ediv_of_nonneg h]
   exact Int.ediv_le_self b h
  omega
 ·have h5:Int.tdiv a b = - Int.tdiv (-a) b:=by rw [Int.neg_tdiv];omega
  have h3:0≤Int.tdiv (-a) b:=Int.tdiv_nonneg (by omega) (by omega)
  have h4:Int.tdiv (-a) b≤-a:=by
   rw [Int.tdiv_eq_ediv_of_nonneg (by omega)]
   exact Int.ediv_le_self b (by omega)
  omega
theorem QC6 {code:List Int} (h:Qfn code=false):Qah code:=by
 unfold Qfn at h;unfold Qah
 have:=of_decide_eq_false h
 omega
theorem Qwi (k:Int) {a b:Int} (p:List Int) (h1:1≤a) (h2:a≤3) (h3:1≤b) (h4:b≤3):0≤ZY (k,a,b,p)∧ZY (k,a,b,p)≤9:=by
 have ha:a=1∨a=2∨a=3:=by omega
 have hb:b=1∨b=2∨b=3:=by omega
 simp only [ZY,m_in]
 rcases ha with rfl | rfl | rfl <;> rcases hb with rfl | rfl | rfl <;> simp <;> split <;> (try split) <;> (try split) <;> omega
theorem QQ7 {k a b:Int} {p:List Int} (h0:1≤k) (h0':k≤5) (h1:1≤a) (h2:a≤3) (h3:1≤b) (h4:b≤3) (h5:k=1∨a=b) (h6:p.length=(ZY (k,a,b,[])).toNat) (h7:Zs p=true):Za (k,a,b,p)=true:=by
 have h:=(Qwi k [] h1 h2 h3 h4).1
 have e:ZY (k,a,b,p)=ZY (k,a,b,[]):=rfl
 simp only [Za,m_in,Bool.and_eq_true,decide_eq_true_eq,Bool.or_eq_true,beq_iff_eq,e]
 refine ⟨⟨⟨⟨⟨⟨h0,h0'⟩,?_⟩,?_⟩,h5⟩,?_⟩,h7⟩ <;> omega
theorem QNB {l:List Int} {x:Int} (h:Zs l=true) (hx:Q6 x=true):Zs (l++[x])=true:=by
 simp only [Zs,List.all_append,List.all_cons,List.all_nil,Bool.and_true,Bool.and_eq_true] at h ⊢
 exact ⟨h,hx⟩
def Qlq:Option Int→List TOp'→Option Int
 | p,[]=>p
 | _,x::r=>Qlq (some x.2.2.1) r
def QhR (p:Option Int) (l:List TOp') (n:Int):Bool:=match Qlq p l with | none=>true | some q=>q==n
theorem QqU:∀ (l:List TOp') (p:Option Int) (o:TOp'),Ye p l=true→Za o=true→QhR p l o.2.1=true→Ye p (l++[o])=true
 | [],p,o,h,ho,hl=>by
  simp only [List.nil_append,Ye,ho,Bool.true_and,Bool.and_true]
  exact hl
 | x::l,p,o,h,ho,hl=>by
  simp only [Ye,Bool.and_eq_true,List.cons_append] at h ⊢
  exact ⟨h.1,QqU l (some x.2.2.1) o h.2 ho hl⟩
theorem QyZ:∀ (l:List TOp') (p:Option Int) (o:TOp'),QhR p (l++[o]) o.2.2.1=true
 | [],p,o=>by simp [QhR,Qlq]
 | x::l,p,o=>QyZ l (some x.2.2.1) o
theorem QxG {i:Int} (hi:1≤i):∀ (l:List Int) (p:Option Int),ZU (i-1) p l=true→(match p with | none=>true | some q=>decide (q<i))=true→ZU i p (l++[i])=true
 | [],p,h,hp=>by
  simp only [List.nil_append,ZU,Bool.and_true,Bool.and_eq_true]
  exact ⟨QR.2 ⟨hi,Int.le_refl _⟩,hp⟩
 | c::r,p,h,hp=>by
  simp only [List.cons_append,ZU,Bool.and_eq_true] at h ⊢
  have h1:=QR.1 h.1.1
  exact ⟨⟨QR.2 ⟨h1.1,by omega⟩,h.1.2⟩,QxG hi r (some c) h.2 (by simp;omega)⟩
theorem Qn0 {n n':Int} (hn:n≤n'):∀ (l:List Int) (p:Option Int),ZU n p l=true→ZU n' p l=true
 | [],p,h=>rfl
 | c::r,p,h=>by
  simp only [ZU,Bool.and_eq_true] at h ⊢
  have h1:=QR.1 h.1.1
  exact ⟨⟨QR.2 ⟨h1.1,by omega⟩,h.1.2⟩,Qn0 hn r (some c) h.2⟩
end Go.Proofs.YtjbdljkhbglnhaaGreat.Am
namespace Go.Proofs.YtjbdljkhbglnhaaGreat.Am
open Go Sz
def Qc3 (_:TCur) (_:Q5) (t:List Qj × TCur):Prop:=1≤t.1.length∧t.1.length≤4∧Qy t.2
def Qdm (_:TCur) (_:Q5) (t:List Qj × TCur):Prop:=t.1.length≤6∧Qy t.2
@[reducible] def Qjd (_:List Int) (t:Qo × List Qj):Prop:=t.1.2.2.2.1.length≤4
def Qay (_:TCur) (t:Qo × List Qj × TCur):Prop:=t.1.2.1.length≤3∧1≤t.1.2.2.2.1.length∧t.1.2.2.2.1.length≤4∧t.1.2.2.2.2.1.length≤4∧1≤t.1.2.2.2.2.2.length∧t.1.2.2.2.2.2.length≤4∧Qy t.2.2
@[reducible] def Qho (_:TCur) (t:Qo × List Qj × TCur):Prop:=t.1.2.2.2.1.length≤4
end Go.Proofs.YtjbdljkhbglnhaaGreat.Am

