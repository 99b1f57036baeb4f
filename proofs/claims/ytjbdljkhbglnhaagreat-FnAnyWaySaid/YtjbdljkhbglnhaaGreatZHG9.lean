/- -/
import Derived.Test.YtjbdljkhbglnhaaGreatZHG8
set_option linter.all false
namespace Go.Proofs.YtjbdljkhbglnhaaGreat.Am
open Go Sz
abbrev TCur:=List Int × Int × Int
def Y8 (l:List Int):Prop:=l.length≤1048576
def Qv (c:TCur):Prop:=0≤c.2.1∧c.1.length≤1048576
@[reducible] def Ze {α:Type} (c:TCur) (_:α):Prop:=Qv c
@[reducible] def Qb2 (_:List Int) (t:TCur):Prop:=Qv t
def Qfm (code:List Int):Bool:=decide ((code.length:Int)>1048576)
def m_at (code:List Int) (i:Int):Int:=if i<code.length then w64 (gtd 0 code i.toNat) else Int.tmod (w64 (w64 (i*37)+w64 (code.length*11))) 256
def p_at (_:List Int) (i:Int):Prop:=0≤i
def Qhg (_:TCur) (t:Int × TCur):Prop:=0≤t.1∧t.1≤255∧Qv t.2
def QhP (_:TCur) (n:Int) (t:Int × TCur):Prop:=0≤t.1∧(0<n→t.1<n)∧(n≤0→t.1=0)∧Qv t.2
@[reducible] def Qgx (_:TCur) (_:Int) (t:Bool × TCur):Prop:=Qv t.2
def Y0 (c:TCur) (l:List Int):Prop:=Qv c∧1≤l.length∧l.length≤100
def QgQ (_:TCur) (l:List Int) (t:Int × TCur):Prop:=t.1∈l∧Qv t.2
def QiA (_:TCur) (t:Int × TCur):Prop:=Za t.1=true∧Qv t.2
@[reducible] def QfZ (_:TCur) (t:Int × TCur):Prop:=Qv t.2
def Jy (c:TCur) (n:Int):Prop:=Qv c∧n≤1000
def QcA (_:TCur) (n:Int) (t:List Int × TCur):Prop:=t.1.length=n.toNat∧Zu t.1=true∧Qv t.2
def QiV (_:TCur) (t:List Int × TCur):Prop:=t.1.length≤7∧Qv t.2
def p_op (c:TCur) (n:Int):Prop:=Qv c∧1≤n∧n≤3
def q_op (_:TCur) (n:Int) (t:TOp' × TCur):Prop:=Q7 t.1=true∧t.1.2.1=n∧1≤t.1.2.2.1∧t.1.2.2.1≤3∧t.1.2.2.2.length≤36∧Qv t.2
def Qi7 (_:TCur) (t:TOp' × TCur):Prop:=t.1.2.2.2.length≤40∧Qv t.2
def QcO (_:TCur) (t:QU × TCur):Prop:=Qw t.1=true∧t.1.length≤6∧Qv t.2
def QdE (_:TCur) (t:QU × TCur):Prop:=t.1.length≤9∧Qv t.2
def Qeg (c:TCur) (m:QU):Prop:=Qv c∧m.length≤9
def QcC (_:TCur) (m:QU) (t:List Int × TCur):Prop:=(Qw m=true→Q0 m t.1=true)∧t.1.length≤3∧Qv t.2
theorem Qfx (st s m:Int):(Yd st s m).length≤3:=by unfold Yd;split <;> split <;> simp
theorem Qrc (st s m:Int) (redo:Bool):(Yt st s m redo).length≤4:=by unfold Yt;split <;> split <;> split <;> simp
theorem Qyr {α:Type} {f:Nat→List α} {R:Nat} (n:Nat) (h:∀ k,k<n→(f k).length≤R):((List.range n).flatMap f).length≤n*R:=by
 induction n with
 | zero=>simp
 | succ n ih =>
  have h1:=ih (fun k hk=>h k (by omega))
  have h2:=h n (by omega)
  rw [QdL,List.length_append,Nat.add_mul];omega
theorem QkN {st s mi:Int}:Yv st s mi=true↔1≤st∧st≤4∧0≤s∧s<st∧1≤mi∧mi≤5:=by
 simp only [Yv,Bool.and_eq_true,QJ];omega
theorem Qob {ds st s mi:Int} (h:Yv st s mi=true):0≤YZ ds st s mi∧YZ ds st s mi≤mi:=by
 have:=QkN.1 h
 unfold YZ;rw [if_pos h]
 split
 ·unfold iMin;split <;> omega
 ·omega
def Qcd (st s:Int) (w:Nat):List TIns:=(List.range w).flatMap fun m:Nat=>Yd st s (m:Int)
def QgV (st s mi:Int) (redo:Bool) (w m:Nat):List TIns:=(if (m:Int)+w<mi then Yd st s ((m:Int)+w) else [])++Yt st s (m:Int) redo
def QbP (st s mi:Int) (redo:Bool) (w k:Nat):List TIns:=(List.range k).flatMap fun m:Nat=>QgV st s mi redo w m
theorem Qvn {ds st s mi:Int} {redo:Bool} (h:(m_in ds 1 2&&Yv st s mi)=true) :
  Z7 ds st s mi redo=Qcd st s (YZ ds st s mi).toNat++QbP st s mi redo (YZ ds st s mi).toNat mi.toNat++[(8,0)]:=by
 unfold Z7;rw [if_pos h];rfl
theorem Qye {ds st s mi:Int} {redo:Bool} (h:¬ (m_in ds 1 2&&Yv st s mi)=true):Z7 ds st s mi redo=[]:=by
 unfold Z7;rw [if_neg h]
theorem QiP (st s:Int) (w:Nat):(Qcd st s w).length≤w*3:=Qyr w (fun k _=>Qfx st s k)
theorem QjS (st s mi:Int) (redo:Bool) (w k:Nat):(QbP st s mi redo w k).length≤k*7:=by
 refine Qyr k (fun m _=>?_)
 have h1:=Qfx st s ((m:Int)+w)
 have h2:=Qrc st s m redo
 unfold QgV
 rw [List.length_append]
 split
 ·omega
 ·simp only [List.length_nil];omega
theorem QAE (st s:Int) (w:Nat):Qcd st s (w+1)=Qcd st s w++Yd st s w:=QdL
theorem QEZ (st s mi:Int) (redo:Bool) (w k:Nat):QbP st s mi redo w (k+1)=QbP st s mi redo w k++QgV st s mi redo w k:=QdL
theorem QPd {ds st s mi:Int}:(((ds != 1)&&(ds != 2))||(!(Yv st s mi))) = !(m_in ds 1 2&&Yv st s mi):=by
 have:((ds != 1)&&(ds != 2)) = !(m_in ds 1 2):=by
  rw [Bool.eq_iff_iff];simp [m_in];omega
 rw [this];cases m_in ds 1 2 <;> cases Yv st s mi <;> rfl
theorem Qli {α:Type} {l x:List α} (h:l.length+x.length≤1000000):(l.length=l.length∨l.length+(List.take x.length (List.drop 0 x)).length≤l.length)∧l.length+(List.take x.length (List.drop 0 x)).length≤big:=by
 rw [List.drop_zero,List.take_length];exact ⟨.inl rfl,by rw [Zi];omega⟩
theorem Qjy {α:Type} (l x:List α):List.take (l.length+(List.take x.length (List.drop 0 x)).length) (List.take l.length l++List.take x.length (List.drop 0 x))=l++x:=by
 rw [List.drop_zero,List.take_length,Qwm]
end Go.Proofs.YtjbdljkhbglnhaaGreat.Am
namespace Go.Proofs.YtjbdljkhbglnhaaGreat.Am
open Go Sz
theorem Qqq (ds st s mi:Int) (redo:Bool):(Z7 ds st s mi redo).length≤51:=by
 by_cases h:(m_in ds 1 2&&Yv st s mi)=true
 ·rw [Qvn h]
  have hq:Yv st s mi=true:=by simp only [Bool.and_eq_true] at h;exact h.2
  have hr:=QkN.1 hq
  have hw:=Qob (ds:=ds) hq
  have h1:=QiP st s (YZ ds st s mi).toNat
  have h2:=QjS st s mi redo (YZ ds st s mi).toNat mi.toNat
  rw [List.length_append,List.length_append]
  simp only [List.length_cons,List.length_nil]
  omega
 ·rw [Qye h];simp
end Go.Proofs.YtjbdljkhbglnhaaGreat.Am
namespace Go.Proofs.YtjbdljkhbglnhaaGreat.Am
open Go Sz
theorem Q5 {α:Type} {q:α→Prop} {R:α→TRes} {x:α} (h:q x):∃ t,q t∧R x=R t:=⟨x,h,rfl⟩
theorem QfK (a:Int):0≤w64 (((BitVec.ofInt (IntKind.i64.bits) a &&& BitVec.ofInt (IntKind.i64.bits) 255).toNat:Nat):Int)∧w64 (((BitVec.ofInt (IntKind.i64.bits) a &&& BitVec.ofInt (IntKind.i64.bits) 255).toNat:Nat):Int)≤255:=by
 have h:(BitVec.ofInt (IntKind.i64.bits) a &&& BitVec.ofInt (IntKind.i64.bits) 255).toNat≤255:=by
  rw [BitVec.toNat_and]
  have:(BitVec.ofInt (IntKind.i64.bits) 255).toNat=255:=by decide
  rw [this]
  exact Nat.and_le_right
 rw [Qo (by omega) (by omega)]
 omega
theorem QF5 {a b B:Int} (hb:0<b) (h1:-B≤a) (h2:a≤B):-B≤Int.tdiv a b∧Int.tdiv a b≤B:=by
 by_cases h:0≤a
 ·have h3:0≤Int.tdiv a b:=Int.tdiv_nonneg h (by omega)
  have h4:Int.tdiv a b≤a:=by
   rw [Int.tdiv_eq_ediv_of_nonneg h]
   exact Int.ediv_le_self b h
  omega
 ·have h5:Int.tdiv a b = - Int.tdiv (-a) b:=by rw [Int.neg_tdiv];omega
  have h3:0≤Int.tdiv (-a) b:=Int.tdiv_nonneg (by omega) (by omega)
  have h4:Int.tdiv (-a) b≤-a:=by
   rw [Int.tdiv_eq_ediv_of_nonneg (by omega)]
   exact Int.ediv_le_self b (by omega)
  omega
theorem QKy {code:List Int} (h:Qfm code=false):Y8 code:=by
 unfold Qfm at h;unfold Y8
 have:=of_decide_eq_false h
 omega
theorem QM8 {α:Type} (d:α) (a:List α) (x:α) (r:List α):gtd d (a++x::r) a.length=x:=Qb9 (by simp) d
theorem QoB (k:Int) {a b:Int} (p:List Int) (h1:1≤a) (h2:a≤3) (h3:1≤b) (h4:b≤3):0≤Z2 (k,a,b,p)∧Z2 (k,a,b,p)≤9:=by
 have ha:a=1∨a=2∨a=3:=by omega
 have hb:b=1∨b=2∨b=3:=by omega
 simp only [Z2,m_in]
 rcases ha with rfl | rfl | rfl <;> rcases hb with rfl | rfl | rfl <;> simp <;> split <;> (try split) <;> (try split) <;> omega
theorem QGm {k a b:Int} {p:List Int} (h0:1≤k) (h0':k≤5) (h1:1≤a) (h2:a≤3) (h3:1≤b) (h4:b≤3) (h5:k=1∨a=b) (h6:p.length=(Z2 (k,a,b,[])).toNat) (h7:Zu p=true):Q7 (k,a,b,p)=true:=by
 have h:=(QoB k [] h1 h2 h3 h4).1
 have e:Z2 (k,a,b,p)=Z2 (k,a,b,[]):=rfl
 simp only [Q7,m_in,Bool.and_eq_true,decide_eq_true_eq,Bool.or_eq_true,beq_iff_eq,e]
 refine ⟨⟨⟨⟨⟨⟨h0,h0'⟩,?_⟩,?_⟩,h5⟩,?_⟩,h7⟩ <;> omega
theorem QI9 {l:List Int} {x:Int} (h:Zu l=true) (hx:Za x=true):Zu (l++[x])=true:=by
 simp only [Zu,List.all_append,List.all_cons,List.all_nil,Bool.and_true,Bool.and_eq_true] at h ⊢
 exact ⟨h,hx⟩
def Qlh:Option Int→List TOp'→Option Int
 | p,[]=>p
 | _,x::r=>Qlh (some x.2.2.1) r
def QgN (p:Option Int) (l:List TOp') (n:Int):Bool:=match Qlh p l with | none=>true | some q=>q==n
theorem Qqf:∀ (l:List TOp') (p:Option Int) (o:TOp'),Yf p l=true→Q7 o=true→QgN p l o.2.1=true→Yf p (l++[o])=true
 | [],p,o,h,ho,hl=>by
  simp only [List.nil_append,Yf,ho,Bool.true_and,Bool.and_true]
  exact hl
 | x::l,p,o,h,ho,hl=>by
  simp only [Yf,Bool.and_eq_true,List.cons_append] at h ⊢
  exact ⟨h.1,Qqf l (some x.2.2.1) o h.2 ho hl⟩
theorem QpY:∀ (l:List TOp') (p:Option Int) (o:TOp'),QgN p (l++[o]) o.2.2.1=true
 | [],p,o=>by simp [QgN,Qlh]
 | x::l,p,o=>QpY l (some x.2.2.1) o
theorem QwM {i:Int} (hi:1≤i):∀ (l:List Int) (p:Option Int),ZR (i-1) p l=true→(match p with | none=>true | some q=>decide (q<i))=true→ZR i p (l++[i])=true
 | [],p,h,hp=>by
  simp only [List.nil_append,ZR,Bool.and_true,Bool.and_eq_true]
  exact ⟨QJ.2 ⟨hi,Int.le_refl _⟩,hp⟩
 | c::r,p,h,hp=>by
  simp only [List.cons_append,ZR,Bool.and_eq_true] at h ⊢
  have h1:=QJ.1 h.1.1
  exact ⟨⟨QJ.2 ⟨h1.1,by omega⟩,h.1.2⟩,QwM hi r (some c) h.2 (by simp;omega)⟩
theorem Qmp {n n':Int} (hn:n≤n'):∀ (l:List Int) (p:Option Int),ZR n p l=true→ZR n' p l=true
 | [],p,h=>rfl
 | c::r,p,h=>by
  simp only [ZR,Bool.and_eq_true] at h ⊢
  have h1:=QJ.1 h.1.1
  exact ⟨⟨QJ.2 ⟨h1.1,by omega⟩,h.1.2⟩,Qmp hn r (some c) h.2⟩
end Go.Proofs.YtjbdljkhbglnhaaGreat.Am
namespace Go.Proofs.YtjbdljkhbglnhaaGreat.Am
open Go Sz
def QOg (_:TCur) (_:QU) (t:List Qd × TCur):Prop:=1≤t.1.length∧t.1.length≤4∧Qv t.2
def QdA (_:TCur) (_:QU) (t:List Qd × TCur):Prop:=t.1.length≤6∧Qv t.2
@[reducible] def Qje (_:List Int) (t:Ql × List Qd):Prop:=t.1.2.2.2.1.length≤4
def QCd (_:TCur) (t:Ql × List Qd × TCur):Prop:=t.1.2.1.length≤3∧1≤t.1.2.2.2.1.length∧t.1.2.2.2.1.length≤4∧t.1.2.2.2.2.1.length≤4∧1≤t.1.2.2.2.2.2.length∧t.1.2.2.2.2.2.length≤4∧Qv t.2.2
@[reducible] def Qh7 (_:TCur) (t:Ql × List Qd × TCur):Prop:=t.1.2.2.2.1.length≤4
end Go.Proofs.YtjbdljkhbglnhaaGreat.Am

