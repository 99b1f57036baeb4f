/- -/
import Derived.Test.YtjbdljkhbglnhaaGreatZBG8
set_option linter.all false
namespace Go.Proofs.YtjbdljkhbglnhaaGreat.Am
open Go Sz
abbrev TCur:=List Int × Int × Int
def Qai (l:List Int):Prop:=l.length≤1048576
def Qy (c:TCur):Prop:=0≤c.2.1∧c.1.length≤1048576
@[reducible] def Q9 {α:Type} (c:TCur) (_:α):Prop:=Qy c
@[reducible] def Qbs (_:List Int) (t:TCur):Prop:=Qy t
def Qer (code:List Int):Bool:=decide ((code.length:Int)>1048576)
def m_at (code:List Int) (i:Int):Int:=if i<code.length then w64 (gtd 0 code i.toNat) else Int.tmod (w64 (w64 (i*37)+w64 (code.length*11))) 256
def p_at (_:List Int) (i:Int):Prop:=0≤i
def QgM (_:TCur) (t:Int × TCur):Prop:=0≤t.1∧t.1≤255∧Qy t.2
def QfB (_:TCur) (n:Int) (t:Int × TCur):Prop:=0≤t.1∧(0<n→t.1<n)∧(n≤0→t.1=0)∧Qy t.2
@[reducible] def Qgi (_:TCur) (_:Int) (t:Bool × TCur):Prop:=Qy t.2
def YU (c:TCur) (l:List Int):Prop:=Qy c∧1≤l.length∧l.length≤100
def Qf9 (_:TCur) (l:List Int) (t:Int × TCur):Prop:=t.1∈l∧Qy t.2
def Qii (_:TCur) (t:Int × TCur):Prop:=Q5 t.1=true∧Qy t.2
@[reducible] def QiH (_:TCur) (t:Int × TCur):Prop:=Qy t.2
def Jx (c:TCur) (n:Int):Prop:=Qy c∧n≤1000
def QcQ (_:TCur) (n:Int) (t:List Int × TCur):Prop:=t.1.length=n.toNat∧Zo t.1=true∧Qy t.2
def QhE (_:TCur) (t:List Int × TCur):Prop:=t.1.length≤7∧Qy t.2
def p_op (c:TCur) (n:Int):Prop:=Qy c∧1≤n∧n≤3
def q_op (_:TCur) (n:Int) (t:TOp' × TCur):Prop:=Q8 t.1=true∧t.1.2.1=n∧1≤t.1.2.2.1∧t.1.2.2.1≤3∧t.1.2.2.2.length≤36∧Qy t.2
def Qho (_:TCur) (t:TOp' × TCur):Prop:=t.1.2.2.2.length≤40∧Qy t.2
def QcL (_:TCur) (t:Q6 × TCur):Prop:=QN t.1=true∧t.1.length≤6∧Qy t.2
def Qd6 (_:TCur) (t:Q6 × TCur):Prop:=t.1.length≤9∧Qy t.2
def Qdl (c:TCur) (m:Q6):Prop:=Qy c∧m.length≤9
def Qco (_:TCur) (m:Q6) (t:List Int × TCur):Prop:=(QN m=true→Q4 m t.1=true)∧t.1.length≤3∧Qy t.2
theorem QeE (st s m:Int):(Yh st s m).length≤3:=by unfold Yh;split <;> split <;> simp
theorem QwT (st s m:Int) (redo:Bool):(Yq st s m redo).length≤4:=by unfold Yq;split <;> split <;> split <;> simp
theorem Qpf {α:Type} {f:Nat→List α} {R:Nat} (n:Nat) (h:∀ k,k<n→(f k).length≤R):((List.range n).flatMap f).length≤n*R:=by
 induction n with
 | zero=>simp
 | succ n ih =>
  have h1:=ih (fun k hk=>h k (by omega))
  have h2:=h n (by omega)
  rw [QdH,List.length_append,Nat.add_mul];omega
theorem Qkw {st s mi:Int}:Yp st s mi=true↔1≤st∧st≤4∧0≤s∧s<st∧1≤mi∧mi≤5:=by
 simp only [Yp,Bool.and_eq_true,QS];omega
theorem Qli {ds st s mi:Int} (h:Yp st s mi=true):0≤YV ds st s mi∧YV ds st s mi≤mi:=by
 have:=Qkw.1 h
 unfold YV;rw [if_pos h]
 split
 ·unfold iMin;split <;> omega
 ·omega
def QbJ (st s:Int) (w:Nat):List TIns:=(List.range w).flatMap fun m:Nat=>Yh st s (m:Int)
def Qih (st s mi:Int) (redo:Bool) (w m:Nat):List TIns:=(if (m:Int)+w<mi then Yh st s ((m:Int)+w) else [])++Yq st s (m:Int) redo
def QbE (st s mi:Int) (redo:Bool) (w k:Nat):List TIns:=(List.range k).flatMap fun m:Nat=>Qih st s mi redo w m
theorem Qr0 {ds st s mi:Int} {redo:Bool} (h:(m_in ds 1 2&&Yp st s mi)=true) :
  Yn ds st s mi redo=QbJ st s (YV ds st s mi).toNat++QbE st s mi redo (YV ds st s mi).toNat mi.toNat++[(8,0)]:=by
 unfold Yn;rw [if_pos h];rfl
theorem Qo4 {ds st s mi:Int} {redo:Bool} (h:¬ (m_in ds 1 2&&Yp st s mi)=true):Yn ds st s mi redo=[]:=by
 unfold Yn;rw [if_neg h]
theorem Qhx (st s:Int) (w:Nat):(QbJ st s w).length≤w*3:=Qpf w (fun k _=>QeE st s k)
theorem QnV (st s mi:Int) (redo:Bool) (w k:Nat):(QbE st s mi redo w k).length≤k*7:=by
 refine Qpf k (fun m _=>?_)
 have h1:=QeE st s ((m:Int)+w)
 have h2:=QwT st s m redo
 unfold Qih
 rw [List.length_append]
 split
 ·omega
 ·simp only [List.length_nil];omega
theorem QMa (st s:Int) (w:Nat):QbJ st s (w+1)=QbJ st s w++Yh st s w:=QdH
theorem QGU (st s mi:Int) (redo:Bool) (w k:Nat):QbE st s mi redo w (k+1)=QbE st s mi redo w k++Qih st s mi redo w k:=QdH
theorem QLN {ds st s mi:Int}:(((ds != 1)&&(ds != 2))||(!(Yp st s mi))) = !(m_in ds 1 2&&Yp st s mi):=by
 have:((ds != 1)&&(ds != 2)) = !(m_in ds 1 2):=by
  rw [Bool.eq_iff_iff];simp [m_in];omega
 rw [this];cases m_in ds 1 2 <;> cases Yp st s mi <;> rfl
theorem Qk4 {α:Type} {l x:List α} (h:l.length+x.length≤1000000):(l.length=l.length∨l.length+(List.take x.length (List.drop 0 x)).length≤l.length)∧l.length+(List.take x.length (List.drop 0 x)).length≤big:=by
 rw [List.drop_zero,List.take_length];exact ⟨.inl rfl,by rw [Zv];omega⟩
theorem Qlz {α:Type} (l x:List α):List.take (l.length+(List.take x.length (List.drop 0 x)).length) (List.take l.length l++List.take x.length (List.drop 0 x))=l++x:=by
 rw [List.drop_zero,List.take_length,QI8]
end Go.Proofs.YtjbdljkhbglnhaaGreat.Am
namespace Go.Proofs.YtjbdljkhbglnhaaGreat.Am
open Go Sz
theorem Qwe (ds st s mi:Int) (redo:Bool):(Yn ds st s mi redo).length≤51:=by
 by_cases h:(m_in ds 1 2&&Yp st s mi)=true
 ·rw [Qr0 h]
  have hq:Yp st s mi=true:=by simp only [Bool.and_eq_true] at h;exact h.2
  have hr:=Qkw.1 hq
  have hw:=Qli (ds:=ds) hq
  have h1:=Qhx st s (YV ds st s mi).toNat
  have h2:=QnV st s mi redo (YV ds st s mi).toNat mi.toNat
  rw [List.length_append,List.length_append]
  simp only [List.length_cons,List.length_nil]
  omega
 ·rw [Qo4 h];simp
end Go.Proofs.YtjbdljkhbglnhaaGreat.Am
namespace Go.Proofs.YtjbdljkhbglnhaaGreat.Am
open Go Sz
theorem Q0 {α:Type} {q:α→Prop} {R:α→TRes} {x:α} (h:q x):∃ t,q t∧R x=R t:=⟨x,h,rfl⟩
theorem QfI (a:Int):0≤w64 (((BitVec.ofInt (IntKind.i64.bits) a &&& BitVec.ofInt (IntKind.i64.bits) 255).toNat:Nat):Int)∧w64 (((BitVec.ofInt (IntKind.i64.bits) a &&& BitVec.ofInt (IntKind.i64.bits) 255).toNat:Nat):Int)≤255:=by
 have h:(BitVec.ofInt (IntKind.i64.bits) a &&& BitVec.ofInt (IntKind.i64.bits) 255).toNat≤255:=by
  rw [BitVec.toNat_and]
  have:(BitVec.ofInt (IntKind.i64.bits) 255).toNat=255:=by decide
  rw [this]
  exact Nat.and_le_right
 rw [Qp (by omega) (by omega)]
 omega
theorem QBR {a b B:Int} (hb:0<b) (h1:-B≤a) (h2:a≤B):-B≤Int.tdiv a b∧Int.tdiv a b≤B:=by
 by_cases h:0≤a
 ·have h3:0≤Int.tdiv a b:=Int.tdiv_nonneg h (by omega)
  have h4:Int.tdiv a b≤a:=by
   rw [Int.tdiv_eq_ediv_of_nonneg h]
   exact Int.ediv_le_self b h
  omega
 ·have h5:Int.tdiv a b = - Int.tdiv (-a) b:=by rw [Int.neg_tdiv];omega
  have h3:0≤Int.tdiv (-a) b:=Int.tdiv_nonneg (by omega) (by omega)
  have h4:Int.tdiv (-a) b≤-a:=by
   rw [Int.tdiv_eq_ediv_of_nonneg (by omega)]
   exact Int.ediv_le_self b (by omega)
  omega
theorem QD4 {code:List Int} (h:Qer code=false):Qai code:=by
 unfold Qer at h;unfold Qai
 have:=of_decide_eq_false h
 omega
theorem Qrr (k:Int) {a b:Int} (p:List Int) (h1:1≤a) (h2:a≤3) (h3:1≤b) (h4:b≤3):0≤Z1 (k,a,b,p)∧Z1 (k,a,b,p)≤9:=by
 have ha:a=1∨a=2∨a=3:=by omega
 have hb:b=1∨b=2∨b=3:=by omega
 simp only [Z1,m_in]
 rcases ha with rfl | rfl | rfl <;> rcases hb with rfl | rfl | rfl <;> simp <;> split <;> (try split) <;> (try split) <;> omega
theorem QOc {k a b:Int} {p:List Int} (h0:1≤k) (h0':k≤5) (h1:1≤a) (h2:a≤3) (h3:1≤b) (h4:b≤3) (h5:k=1∨a=b) (h6:p.length=(Z1 (k,a,b,[])).toNat) (h7:Zo p=true):Q8 (k,a,b,p)=true:=by
 have h:=(Qrr k [] h1 h2 h3 h4).1
 have e:Z1 (k,a,b,p)=Z1 (k,a,b,[]):=rfl
 simp only [Q8,m_in,Bool.and_eq_true,decide_eq_true_eq,Bool.or_eq_true,beq_iff_eq,e]
 refine ⟨⟨⟨⟨⟨⟨h0,h0'⟩,?_⟩,?_⟩,h5⟩,?_⟩,h7⟩ <;> omega
theorem QPl {l:List Int} {x:Int} (h:Zo l=true) (hx:Q5 x=true):Zo (l++[x])=true:=by
 simp only [Zo,List.all_append,List.all_cons,List.all_nil,Bool.and_true,Bool.and_eq_true] at h ⊢
 exact ⟨h,hx⟩
def QlE:Option Int→List TOp'→Option Int
 | p,[]=>p
 | _,x::r=>QlE (some x.2.2.1) r
def QgO (p:Option Int) (l:List TOp') (n:Int):Bool:=match QlE p l with | none=>true | some q=>q==n
theorem Qtm:∀ (l:List TOp') (p:Option Int) (o:TOp'),Yk p l=true→Q8 o=true→QgO p l o.2.1=true→Yk p (l++[o])=true
 | [],p,o,h,ho,hl=>by
  simp only [List.nil_append,Yk,ho,Bool.true_and,Bool.and_true]
  exact hl
 | x::l,p,o,h,ho,hl=>by
  simp only [Yk,Bool.and_eq_true,List.cons_append] at h ⊢
  exact ⟨h.1,Qtm l (some x.2.2.1) o h.2 ho hl⟩
theorem Qyo:∀ (l:List TOp') (p:Option Int) (o:TOp'),QgO p (l++[o]) o.2.2.1=true
 | [],p,o=>by simp [QgO,QlE]
 | x::l,p,o=>Qyo l (some x.2.2.1) o
theorem QvZ {i:Int} (hi:1≤i):∀ (l:List Int) (p:Option Int),ZT (i-1) p l=true→(match p with | none=>true | some q=>decide (q<i))=true→ZT i p (l++[i])=true
 | [],p,h,hp=>by
  simp only [List.nil_append,ZT,Bool.and_true,Bool.and_eq_true]
  exact ⟨QS.2 ⟨hi,Int.le_refl _⟩,hp⟩
 | c::r,p,h,hp=>by
  simp only [List.cons_append,ZT,Bool.and_eq_true] at h ⊢
  have h1:=QS.1 h.1.1
  exact ⟨⟨QS.2 ⟨h1.1,by omega⟩,h.1.2⟩,QvZ hi r (some c) h.2 (by simp;omega)⟩
theorem QjY {n n':Int} (hn:n≤n'):∀ (l:List Int) (p:Option Int),ZT n p l=true→ZT n' p l=true
 | [],p,h=>rfl
 | c::r,p,h=>by
  simp only [ZT,Bool.and_eq_true] at h ⊢
  have h1:=QS.1 h.1.1
  exact ⟨⟨QS.2 ⟨h1.1,by omega⟩,h.1.2⟩,QjY hn r (some c) h.2⟩
end Go.Proofs.YtjbdljkhbglnhaaGreat.Am
namespace Go.Proofs.YtjbdljkhbglnhaaGreat.Am
open Go Sz
def QcO (_:TCur) (_:Q6) (t:List Qg × TCur):Prop:=1≤t.1.length∧t.1.length≤4∧Qy t.2
def QdA (_:TCur) (_:Q6) (t:List Qg × TCur):Prop:=t.1.length≤6∧Qy t.2
@[reducible] def QmP (_:List Int) (t:Ql × List Qg):Prop:=t.1.2.2.2.1.length≤4
def QaI (_:TCur) (t:Ql × List Qg × TCur):Prop:=t.1.2.1.length≤3∧1≤t.1.2.2.2.1.length∧t.1.2.2.2.1.length≤4∧t.1.2.2.2.2.1.length≤4∧1≤t.1.2.2.2.2.2.length∧t.1.2.2.2.2.2.length≤4∧Qy t.2.2
@[reducible] def Qip (_:TCur) (t:Ql × List Qg × TCur):Prop:=t.1.2.2.2.1.length≤4
end Go.Proofs.YtjbdljkhbglnhaaGreat.Am

