/- -/
import Derived.Test.YtephkbajoofeoaaYEG5
import Derived.Test.YtephkbajoofeoaaProg
set_option linter.all false
namespace Go.Proofs.Ytephkbajoofeoaa.Am
open Go Go.RowKit Go.Proofs.Ytephkbajoofeoaa
abbrev TI:CT:=.int .i64
abbrev w64 (x:Int):Int:=IntKind.i64.wrap x
def Loop (Γ:List TRow) (nl:Nat) (L:List (Nat × Md)) (x:TCode) (Q:Qd) (s:TSt):Prop :=
 Lfp (fun R s=>tawp Γ nl x (Qseq (fun s'=>R (gc nl L s')) Q) s) s
theorem Ql0 {Γ:List TRow} {nl:Nat} {L:List (Nat × Md)} {x:TCode} {Q:Qd} {s:TSt}
  (h:tawp Γ nl x (Qseq (fun s'=>Loop Γ nl L x Q (gc nl L s')) Q) s):Loop Γ nl L x Q s:=Qba h
structure Hold (p:Prop):Prop where
 h:p
theorem Hold.of {p F:Prop} (e:F=p) (h:F):Hold p:=⟨e ▸ h⟩
theorem Loop.of {Γ:List TRow} {nl:Nat} {L:List (Nat × Md)} {x:TCode} {Q:Qd} {s:TSt} {F:Prop}
  (e:F=tawp Γ nl x (Qseq (fun s'=>Loop Γ nl L x Q (gc nl L s')) Q) s) (h:F):Loop Γ nl L x Q s:=Ql0 (e ▸ h)
def gtd {α:Type} (d:α) (l:List α) (i:Nat):α:=l.getD i d
@[reducible] def Sh.den:Sh→Type
 | .c t=>t.den
 | .a ts=>Tup ts
 | .b ts=>Tup ts
 | .o _ ts=>List (Tup ts)
@[reducible] def DenL:List Sh→Type
 | []=>Unit
 | s::ss=>s.den × DenL ss
def Sh.val:(s:Sh)→s.den→TV
 | .c t,x=>.c t x
 | .a ts,x=>.a (Tup.cells ts x)
 | .b ts,x=>.bx (Tup.cells ts x)
 | .o e ts,x=>.ow e ts x
def valL:(ss:List Sh)→DenL ss→List TV
 | [],_=>[]
 | s::ss,x=>s.val x.1::valL ss x.2
def decD (t:CT):TV→Option t.den
 | .c t' x=>if e:t'.beq t=true then some (QaC e x) else none
 | _=>none
def decT:(ts:List CT)→List TV→Option (Tup ts)
 | [],xs=>match xs with
  | []=>some ()
  | _=>none
 | t::ts,xs=>match xs with
  | x::xs=>match decD t x,decT ts xs with
   | some a,some b=>some (mkT ts a b)
   | _,_=>none
  | []=>none
def Sh.dec:(s:Sh)→TV→Option s.den
 | .c t,x=>decD t x
 | .a ts,x=>match x with
  | .a cs=>decT ts cs
  | _=>none
 | .b ts,x=>match x with
  | .bx cs=>decT ts cs
  | _=>none
 | .o e ts,x=>match x with
  | .ow e' ts' es=>if q:CT.beqL ts' ts=true then (bif Nat.beq e' e then some (Qap q es) else none) else none
  | _=>none
def decL:(ss:List Sh)→List TV→Option (DenL ss)
 | [],xs=>match xs with
  | []=>some ()
  | _=>none
 | s::ss,xs=>match xs with
  | x::xs=>match s.dec x,decL ss xs with
   | some a,some b=>some (a,b)
   | _,_=>none
  | []=>none
theorem QhS {t:CT} {v:TV} {x:t.den} (h:decD t v=some x):v = .c t x:=by
 cases v with
 | c t' y =>
  simp only [decD] at h
  split at h
  ·rename_i e
   have e':=CT.beq_eq _ _ e
   subst e'
   cases h
   rfl
  ·cases h
 | _=>simp [decD] at h
theorem Qdi:∀ {ts:List CT} {vs:List TV} {x:Tup ts},decT ts vs=some x→vs=Tup.cells ts x
 | [],vs,x,h=>by
  cases vs with
  | nil=>rfl
  | cons v vs=>simp [decT] at h
 | t::ts,vs,x,h=>by
  cases vs with
  | nil=>simp [decT] at h
  | cons v vs =>
   simp only [decT] at h
   split at h
   rotate_left
   ·cases h
   rename_i a b h1 h2
   cases h
   rw [Tup.cells,QhS h1,Qdi h2,Qbm,QbD]
theorem QkG {s:Sh} {v:TV} {x:s.den} (h:s.dec v=some x):v=s.val x:=by
 cases s with
 | c t=>exact QhS h
 | a ts =>
  cases v with
  | a cs=>exact congrArg TV.a (Qdi h)
  | _=>simp [Sh.dec] at h
 | b ts =>
  cases v with
  | bx cs=>exact congrArg TV.bx (Qdi h)
  | _=>simp [Sh.dec] at h
 | o e ts =>
  cases v with
  | ow e' ts' es =>
   simp only [Sh.dec] at h
   split at h
   ·rename_i q
    have q':=CT.beqL_eq _ _ q
    subst q'
    cases hb:Nat.beq e' e with
    | false=>rw [hb] at h;cases h
    | true =>
     rw [hb] at h
     cases h
     have:=Nat.eq_of_beq_eq_true hb
     subst this
     rfl
   ·cases h
  | _=>simp [Sh.dec] at h
theorem Qd8:∀ {ss:List Sh} {vs:List TV} {x:DenL ss},decL ss vs=some x→vs=valL ss x
 | [],vs,x,h=>by
  cases vs with
  | nil=>rfl
  | cons v vs=>simp [decL] at h
 | s::ss,vs,x,h=>by
  cases vs with
  | nil=>simp [decL] at h
  | cons v vs =>
   simp only [decL] at h
   split at h
   rotate_left
   ·cases h
   rename_i a b h1 h2
   cases h
   rw [valL,QkG h1,Qd8 h2]
def Qp (f:FuncId) (sg:List Sh) (g:DenL sg→Option Prop × TRes):TRow:=⟨f,sg,fun vs=>match decL sg vs with
 | some x=>some (g x)
 | none=>none⟩
theorem Qs {P:Program} {f:FuncId} {sg:List Sh} {g:DenL sg→Option Prop × TRes} (h:∀ x:DenL sg,holds (g x).1→TCon P f (valL sg x) (g x).2):Qo P (Qp f sg g):=by
 intro vs pre r hf hr hp
 simp only [Qp] at hr
 split at hr
 ·rename_i x hx
  rw [Qd8 hx]
  cases hg:g x with
  | mk p r' =>
   rw [hg] at hr
   cases hr
   have:=h x
   rw [hg] at this
   exact this hp
 ·cases hr
theorem QgD {P:Program} {Γ:List TRow} {f:FuncId} {tc:TCode} {rs:List (ARv × Md)} {n nb no:Nat} {xs:List TV} {r:TRes} {sg:List Sh} (hm:P.follows .mixedOrders=true) (hΓ:TOk P Γ) (hs:Jk P f=some (tc.er,rs.map Prod.fst,n))
  (hfit:QM sg xs=true) (hN:Nat.ble xs.length n=true) (hnl:tbxs xs=nb) (hno:tows xs=no) (h:Hold (tawp Γ (nb+no) tc (TQ nb no rs (fun r'=>r'=r)) (Qj xs))):TCon P f xs r:=by
 subst hnl
 subst hno
 exact QoZ hm hΓ hs hfit (Nat.le_of_ble_eq_true hN) h.h
theorem Yl {Γ:List TRow} {nl:Nat}:∀ (c:TCode) {Q:Qd} {σ:TSt},tawp Γ nl c Q σ→∃ e σ',Q e σ'∧tawp Γ nl c (fun e' s'=>e'=e∧s'=σ') σ
 | .skip,Q,σ,h=>⟨_,_,h,rfl,rfl⟩
 | .exit id,Q,σ,h=>⟨_,_,h,rfl,rfl⟩
 | .ret,Q,σ,h=>⟨_,_,h,rfl,rfl⟩
 | .reg ss,Q,σ,h=>by
  simp only [tawp] at h ⊢
  split at h
  ·rw [Yo] at h;exact ⟨_,_,h.2,by rw [Yo];exact ⟨h.1,rfl,rfl⟩⟩
  ·exact h.elim
 | .draw ss U,Q,σ,h=>by
  simp only [tawp] at h ⊢
  split at h
  ·split at h
   ·rw [Yo] at h;exact ⟨_,_,h.2,by rw [Yo];exact ⟨h.1,rfl,rfl⟩⟩
   ·exact h.elim
  ·exact h.elim
 | .cond c x y,Q,σ,h=>by
  simp only [tawp] at h ⊢
  split at h
  ·rename_i t _
   cases t with
   | true =>
    obtain ⟨e,s,h1,h2⟩:=Yl x (h.1 rfl)
    exact ⟨e,s,h1,fun _=>h2,fun h=>by cases h⟩
   | false =>
    obtain ⟨e,s,h1,h2⟩:=Yl y (h.2 rfl)
    exact ⟨e,s,h1,(fun h=>by cases h),fun _=>h2⟩
  ·exact h.elim
 | .seq x y,Q,σ,h=>by
  simp only [tawp] at h ⊢
  obtain ⟨e,s,h1,h2⟩:=Yl x h
  cases e with
  | normal =>
   obtain ⟨e',s',h3,h4⟩:=Yl y (show tawp Γ nl y Q s from h1)
   exact ⟨e',s',h3,QT x (fun e0 s0 hq=>by obtain ⟨rfl,rfl⟩:=hq;exact h4) h2⟩
  | exit id=>exact ⟨_,_,h1,QT x (fun e0 s0 hq=>by obtain ⟨rfl,rfl⟩:=hq;exact ⟨rfl,rfl⟩) h2⟩
  | ret=>exact ⟨_,_,h1,QT x (fun e0 s0 hq=>by obtain ⟨rfl,rfl⟩:=hq;exact ⟨rfl,rfl⟩) h2⟩
 | .block id x,Q,σ,h=>by
  simp only [tawp] at h ⊢
  obtain ⟨e,s,h1,h2⟩:=Yl x h
  cases e with
  | normal=>exact ⟨_,_,h1,QT x (fun e0 s0 hq=>by obtain ⟨rfl,rfl⟩:=hq;exact ⟨rfl,rfl⟩) h2⟩
  | exit id' =>
   cases hb:Nat.beq id' id with
   | true =>
    simp only [Qblk,hb,cond_true] at h1
    exact ⟨_,_,h1,QT x (fun e0 s0 hq=>by obtain ⟨rfl,rfl⟩:=hq;simp [Qblk,hb]) h2⟩
   | false =>
    simp only [Qblk,hb,cond_false] at h1
    exact ⟨_,_,h1,QT x (fun e0 s0 hq=>by obtain ⟨rfl,rfl⟩:=hq;simp [Qblk,hb]) h2⟩
  | ret=>exact ⟨_,_,h1,QT x (fun e0 s0 hq=>by obtain ⟨rfl,rfl⟩:=hq;exact ⟨rfl,rfl⟩) h2⟩
 | .wk L x,Q,σ,h=>by
  simp only [tawp] at h ⊢
  exact Yl x h
 | .loop L x,Q,σ,h=>by
  simp only [tawp] at h ⊢
  refine h (fun s=>∃ e σ',Q e σ'∧Lfp (fun R s=>tawp Γ nl x (Qseq (fun s'=>R (gc nl L s')) fun e' s'=>e'=e∧s'=σ') s) s) (fun s hs=>?_)
  obtain ⟨e,s1,h1,h2⟩:=Yl x hs
  cases e with
  | normal =>
   obtain ⟨e',s',h3,h4⟩:=(show ∃ e σ',Q e σ'∧Lfp (fun R s=>tawp Γ nl x (Qseq (fun s'=>R (gc nl L s')) fun e' s'=>e'=e∧s'=σ') s) (gc nl L s1) from h1)
   exact ⟨e',s',h3,Qba (QT x (fun e0 s0 hq=>by obtain ⟨rfl,rfl⟩:=hq;exact h4) h2)⟩
  | exit id=>exact ⟨_,_,h1,Qba (QT x (fun e0 s0 hq=>by obtain ⟨rfl,rfl⟩:=hq;exact ⟨rfl,rfl⟩) h2)⟩
  | ret=>exact ⟨_,_,h1,Qba (QT x (fun e0 s0 hq=>by obtain ⟨rfl,rfl⟩:=hq;exact ⟨rfl,rfl⟩) h2)⟩
theorem QjN {P:Program} {Γ:List TRow} {f:FuncId} {tc:TCode} {rs:List (ARv × Md)} {n nb no:Nat} {xs:List TV} {K:TRes→Prop} {sg:List Sh} (hm:P.follows .mixedOrders=true) (hΓ:TOk P Γ) (hs:Jk P f=some (tc.er,rs.map Prod.fst,n))
  (hfit:QM sg xs=true) (hN:Nat.ble xs.length n=true) (hnl:tbxs xs=nb) (hno:tows xs=no) (h:Hold (tawp Γ (nb+no) tc (TQ nb no rs K) (Qj xs))):∃ r,K r∧TCon P f xs r:=by
 obtain ⟨e,s,h1,h2⟩:=Yl tc h.h
 have key:∃ r,K r∧TQ nb no rs (fun r'=>r'=r) e s:=by
  cases e with
  | exit id=>exact h1.elim
  | normal =>
   simp only [TQ] at h1 ⊢
   split at h1
   ·exact ⟨_,h1,rfl⟩
   ·exact h1.elim
  | ret =>
   simp only [TQ] at h1 ⊢
   split at h1
   ·exact ⟨_,h1,rfl⟩
   ·exact h1.elim
 obtain ⟨r,h3,h4⟩:=key
 exact ⟨r,h3,QgD hm hΓ hs hfit hN hnl hno ⟨QT tc (fun e0 s0 hq=>by obtain ⟨rfl,rfl⟩:=hq;exact h4) h2⟩⟩
theorem Zh {P:Program} {f:FuncId} {xs:List TV} {α:Type} {p:α→Prop} {R:α→TRes} (h:∃ r,(∃ t,p t∧r=R t)∧TCon P f xs r):∃ t,p t∧TCon P f xs (R t):=by
 obtain ⟨_,⟨t,h1,rfl⟩,h2⟩:=h
 exact ⟨t,h1,h2⟩
theorem Qq:Try.prog.follows .mixedOrders=true:=by kernel_rfl
end Go.Proofs.Ytephkbajoofeoaa.Am
namespace Go.Proofs.Ytephkbajoofeoaa.Am
open Go Go.RowKit Go.Proofs.Ytephkbajoofeoaa
theorem Qi {x:Int} (h1:-9223372036854775808≤x) (h2:x<9223372036854775808):w64 x=x:=IntWalk.i64_in x (by omega)
theorem QcB {α:Type} {l r:List α} {x:α} {k:Nat} (h:l.drop k=x::r) (d:α):gtd d l k=x:=by
 unfold gtd
 have:l[k]? = some x:=by
  have:=congrArg List.head? h
  simpa [List.head?_drop] using this
 rw [List.getD_eq_getElem?_getD,this];rfl
theorem QlJ {α:Type} {l r:List α} {x:α} {k:Nat} (h:l.drop k=x::r):k<l.length:=by
 apply Classical.byContradiction
 intro hn
 rw [List.drop_eq_nil_of_le (by omega)] at h
 cases h
theorem Qds {α:Type} {l r:List α} {x:α} {k:Nat} (h:l.drop k=x::r):l.drop (k+1)=r:=by
 have:=congrArg List.tail h
 simpa [List.tail_drop] using this
theorem Yb {α:Type} (l:List α) (P:List α→Nat→Prop) (h0:P [] l.length) (hs:∀ (k:Nat) (x:α) (r:List α),l.drop k=x::r→k<l.length→(∀ d,gtd d l k=x)→P r (k+1)→P (x::r) k):P l 0:=by
 suffices ∀ (r:List α) (k:Nat),l.drop k=r→k≤l.length→P r k from this l 0 rfl (Nat.zero_le _)
 intro r
 induction r with
 | nil =>
  intro k hk hle
  have:l.length≤k:=by simpa using hk
  rw [show k=l.length by omega]
  exact h0
 | cons x r ih =>
  intro k hk hle
  have hlt:=QlJ hk
  exact hs k x r hk hlt (QcB hk) (ih (k+1) (Qds hk) hlt)
theorem YU (n:Nat) (P:Nat→Prop) (h0:P n) (hs:∀ k,k<n→P (k+1)→P k):P 0:=by
 suffices ∀ j k,k+j=n→P k from this n 0 (by omega)
 intro j
 induction j with
 | zero=>intro k hk;rw [show k=n by omega];exact h0
 | succ j ih=>intro k hk;exact hs k (by omega) (ih (k+1) (by omega))
class Sz (α:Type) where
 sz:α→Nat
instance:Sz Int:=⟨fun _=>0⟩
instance:Sz Bool:=⟨fun _=>0⟩
instance:Sz ByteArray:=⟨fun _=>0⟩
instance {α β:Type} [Sz α] [Sz β]:Sz (α × β):=⟨fun x=>Sz.sz x.1+Sz.sz x.2⟩
def szL {α:Type} [Sz α]:List α→Nat
 | []=>0
 | x::r=>1+Sz.sz x+szL r
instance {α:Type} [Sz α]:Sz (List α):=⟨szL⟩
open Sz
@[simp] theorem QpU (x:Int):sz x=0:=rfl
@[simp] theorem QpW (x:Bool):sz x=0:=rfl
@[simp] theorem Qp1 {α β:Type} [Sz α] [Sz β] (x:α) (y:β):sz (x,y)=sz x+sz y:=rfl
@[simp] theorem QpZ {α:Type} [Sz α]:sz ([]:List α)=0:=rfl
@[simp] theorem QpX {α:Type} [Sz α] (x:α) (r:List α):sz (x::r)=1+sz x+sz r:=rfl
@[simp] theorem QpV {α:Type} [Sz α] (l r:List α):sz (l++r)=sz l+sz r:=by
 induction l with
 | nil=>simp
 | cons x l ih=>simp [ih];omega
theorem Qdc (l:List Int):sz l=l.length:=by
 induction l with
 | nil=>rfl
 | cons x l ih=>simp [ih];omega
theorem Yw:(big:Nat)=4294967296:=rfl
theorem R_eq {α:Type} {R:α→TRes} {x y:α} (h:x=y):R x=R y:=by rw [h]
end Go.Proofs.Ytephkbajoofeoaa.Am
namespace Go.Proofs.Ytephkbajoofeoaa.Am
open Go Go.RowKit
instance (n:Nat):OfNat TOpd n:=⟨.s n⟩
abbrev zci (n:Int):TV:=.c TI n
abbrev zcb (b:Bool):TV:=.c .bool b
abbrev zcs (ts:List CT) (x:List (Tup ts)):TV:=.c (.sl ts) x
def zki (n:Int):TOpd:=.k (.c TI n)
def zkb (b:Bool):TOpd:=.k (.c .bool b)
def zop (d:Nat) (x:TOp):TStm:=.op (some d) x
def zmv (d:Nat) (x:TOpd):TStm:=.op (some d) (.mov x)
def zld (d:Nat) (x:TOpd) (n:Nat):TStm:=.op (some d) (.load x n false)
def zLd (d:Nat) (x:TOpd) (n:Nat):TStm:=.op (some d) (.load x n true)
def zfa (d:Nat) (x:TOpd) (o:Nat):TStm:=.op (some d) (.fad x o)
def zle (d:Nat) (x:TOpd):TStm:=.op (some d) (.len x)
def zbi (d:Nat) (o:BinOp) (x y:TOpd):TStm:=.op (some d) (.bin o x y)
def zst (x v:TOpd) (n:Nat):TStm:=.op none (.store x v n)
def zca (d:Nat) (f:FuncId) (l:List TOpd):TStm:=.op (some d) (.call f l)
def zia (d:Nat) (x i:TOpd) (ts:List CT):TStm:=.op (some d) (.iad x i ts)
def zno (d:Nat) (x:TOpd):TStm:=.op (some d) (.not x)
def zex (d:Nat) (x:TOpd) (i:Nat):TStm:=.op (some d) (.ext x i)
def zsq:List TCode→TCode
 | []=>.skip
 | [x]=>x
 | x::y::r=>.seq x (zsq (y::r))
def z01:CT→TV
 | .int k=>.c (.int k) (0:Int)
 | .bool=>.c .bool false
 | .str=>.c .str ⟨#[]⟩
 | .nilp=>.c .nilp ()
 | .sl ts=>.n ts
def z0s:List CT→List TV
 | []=>[]
 | t::ts=>z01 t::z0s ts
abbrev zif (c:Bool) (A B:Prop):Prop:=(c=true→A)∧(c=false→B)
def zdl (l:List Nat):List (Nat × Md):=l.map fun i=>(i,.one .d)
def zds (n:Nat):List Md1:=List.replicate n .d
@[reducible] def zre (v:TV):TRes:=⟨v,[],[],false,[]⟩
@[reducible] def zra (v:TV):TRes:=⟨v,[],[],true,[]⟩
theorem tcg {P:Program} {Γ:List TRow} {f:FuncId} {tc:TCode} {rs:List (ARv × Md)} {n nb no:Nat} {xs:List TV} {r:TRes} {sg:List Sh} (hm:P.follows .mixedOrders=true) (hΓ:TOk P Γ) (hs:Jk P f=some (tc.er,rs.map Prod.fst,n))
  (hq:((QM sg xs&&Nat.ble xs.length n)&&(Nat.beq (tbxs xs) nb&&Nat.beq (tows xs) no))=true) (h:Hold (tawp Γ (nb+no) tc (TQ nb no rs (fun r'=>r'=r)) (Qj xs))):TCon P f xs r:=by
 simp only [Bool.and_eq_true] at hq
 exact QgD hm hΓ hs hq.1.1 hq.1.2 (Nat.eq_of_beq_eq_true hq.2.1) (Nat.eq_of_beq_eq_true hq.2.2) h
theorem tcx {P:Program} {Γ:List TRow} {f:FuncId} {tc:TCode} {rs:List (ARv × Md)} {n nb no:Nat} {xs:List TV} {K:TRes→Prop} {sg:List Sh} (hm:P.follows .mixedOrders=true) (hΓ:TOk P Γ) (hs:Jk P f=some (tc.er,rs.map Prod.fst,n))
  (hq:((QM sg xs&&Nat.ble xs.length n)&&(Nat.beq (tbxs xs) nb&&Nat.beq (tows xs) no))=true) (h:Hold (tawp Γ (nb+no) tc (TQ nb no rs K) (Qj xs))):∃ r,K r∧TCon P f xs r:=by
 simp only [Bool.and_eq_true] at hq
 exact QjN hm hΓ hs hq.1.1 hq.1.2 (Nat.eq_of_beq_eq_true hq.2.1) (Nat.eq_of_beq_eq_true hq.2.2) h
end Go.Proofs.Ytephkbajoofeoaa.Am
namespace Go.Proofs.Ytephkbajoofeoaa.Am
open Sz
abbrev TIns:=Int × Int
abbrev Qlq:=Int × List Int
abbrev TOp':=Int × Int × Int × List Int
abbrev Qaq:=Int × List (List Int)
abbrev Q3:=List Int × List Int
abbrev Qd5:=Int × List Qlq
abbrev Qau:=List (List Int) × Int × Bool
def ZW {α:Type} (_:α):Bool:=true
def pl (left:Int):Prop:=-1≤left∧left≤1048576
def m_eq {α:Type} [DecidableEq α] (x y:α):Bool:=decide (x=y)
def m_in (x a b:Int):Bool:=decide (a≤x)&&decide (x≤b)
def QS (x:Int):Bool:=decide (-2147483647≤x)&&decide (x≤2147483647)
def Q4 (v:List Int):Bool:=v.all QS
def Jm (v:List Int):Bool:=m_in v.length 1 6&&Q4 v
end Go.Proofs.Ytephkbajoofeoaa.Am
namespace Go.Proofs.Ytephkbajoofeoaa.Am
open Go Sz
abbrev Qw:=List TOp'
abbrev Qbp:=Int × List TIns × List TOp' × Bool × Bool × List Qaq × List (List Int) × List Int × List Int × List Int × List Int × List (List Int) × Int × Bool
abbrev QK:=List TOp' × List Int × Int × List Bool × List Int × List Int
abbrev QgQ:=List Q3 × List Qbp × List Qd5 × List Qd5
abbrev TMat:=Int × Int × List Int
abbrev dOp:TOp':=(0,0,0,[])
abbrev dIns:TIns:=(0,0)
abbrev Qpp:Q3:=([],[])
abbrev ctOp:List CT:=[.int .i64,.int .i64,.int .i64,.sl [.int .i64]]
set_option synthInstance.maxSize 2000
set_option synthInstance.maxHeartbeats 200000
instance:DecidableEq TOp':=inferInstance
instance:DecidableEq Qaq:=inferInstance
instance:DecidableEq Qd5:=inferInstance
abbrev TSt4:=List Int × List Int × List Int × List Int × Qau
abbrev TSt3:=List Qaq × List (List Int) × TSt4
abbrev TSt2:=List TOp' × Bool × Bool × TSt3
instance:DecidableEq Qau:=inferInstance
instance:DecidableEq TSt4:=inferInstance
instance:DecidableEq TSt3:=inferInstance
instance:DecidableEq TSt2:=inferInstance
instance:DecidableEq Qbp:=(inferInstance:DecidableEq (Int × List TIns × TSt2))
instance:DecidableEq QK:=inferInstance
instance:DecidableEq QgQ:=inferInstance
instance:Sz Qbp:=inferInstance
instance:Sz QK:=inferInstance
instance:Sz QgQ:=inferInstance
abbrev Zz (c:QK):=c.1
abbrev Zy (c:QK):=c.2.1
abbrev cDs (c:QK):=c.2.2.1
abbrev QiO (c:QK):=c.2.2.2.1
abbrev Qjr (c:QK):=c.2.2.2.2.1
def Yi (v:List Int) (n:Int):Bool:=Jm v&&((v.length:Int)==n)
def QH (o:TOp'):Int :=
 if m_in o.2.1 1 6&&m_in o.2.2.1 1 6 then (if o.1=1∨o.1=5 then o.2.1*o.2.2.1 else if o.1=2 then o.2.1 else if o.1=4 then 1 else 0) else 0
def QE (o:TOp'):Bool :=
 m_in o.1 1 5&&m_in o.2.1 1 6&&m_in o.2.2.1 1 6&&(o.1==1||o.2.1==o.2.2.1)&&((o.2.2.2.length:Int)==QH o)&&Q4 o.2.2.2
def QZ (o:TOp'):Int:=if QE o then (if o.1=1∨o.1=5 then o.2.1*o.2.2.1 else if o.1=4 then o.2.1 else 0) else 0
def Q0:Option Int→List TOp'→Bool
 | _,[]=>true
 | p,o::r=>QE o&&(match p with | none=>true | some q=>q==o.2.1)&&Q0 (some o.2.2.1) r
def Qn (m:Qw):Bool:=m_in m.length 1 8&&Q0 none m
def QnD (m:Qw):Int:=if Qn m then (gtd dOp m 0).2.1 else 0
def Qn7 (m:Qw):Int:=if Qn m then (gtd dOp m (m.length-1)).2.2.1 else 0
def Qip (m:Qw) (p:Q3):Bool:=Qn m&&Yi p.1 (QnD m)&&Yi p.2 (Qn7 m)
def Qpx (m:Qw) (b:List Q3):Bool:=Qn m&&m_in b.length 1 5&&b.all (Qip m)
def QU (n:Int):Option Int→List Int→Bool
 | _,[]=>true
 | p,c::r=>m_in c 1 n&&(match p with | none=>true | some q=>decide (q<c))&&QU n (some c) r
def Qm (m:Qw) (cuts:List Int):Bool:=Qn m&&QU (m.length-1) none cuts
def Qr (m:Qw) (cuts:List Int) (s:Int):Int × Int :=
 if Qm m cuts&&m_in s 0 cuts.length then (if 0<s then gtd 0 cuts (s.toNat-1) else 0,if s<cuts.length then gtd 0 cuts s.toNat else m.length) else (0,0)
def slice {α:Type} (l:List α) (a b:Int):List α:=(l.drop a.toNat).take (b.toNat-a.toNat)
def QO (m:Qw) (cuts:List Int) (s:Int):Int :=
 let r:=Qr m cuts s
 w64 ((slice m r.1 r.2).map QZ).sum
def QbJ (f:Nat→Int):Nat→Int→Int
 | 0,x=>x
 | k+1,x=>let y:=QbJ f k x;if y<f k then f k else y
def Qu (m:Qw) (cuts:List Int):Int:=if Qm m cuts then QbJ (fun s=>QO m cuts s) (cuts.length+1) 0 else 0
def Qbh (c:QK):Int:=if Qm c.1 c.2.1 then w64 (c.2.1.length+1) else 0
def QhU (c:QK) (s:Int):Int :=
 let r:=Qr c.1 c.2.1 s
 w64 (((slice c.1 r.1 r.2).map fun o=>o.2.1).sum+if r.1<r.2 then (gtd dOp c.1 (r.2.toNat-1)).2.2.1 else 0)
def Qfr (c:QK) (s:Int):Bool:=decide (0≤s)&&decide (s<c.2.2.2.1.length)&&gtd false c.2.2.2.1 s.toNat
def QfJ (c:QK) (s:Int):Int × Int :=
 let r:=Qr c.1 c.2.1 s
 if r.1=r.2 then (0,0) else ((gtd dOp c.1 r.1.toNat).2.1,(gtd dOp c.1 (r.2.toNat-1)).2.2.1)
def Qk2 (c:QK) (s:Int):Int:=if Qfr c s then (QfJ c s).1 else QhU c s
def iMin (a b:Int):Int:=if b<a then b else a
def iMax (a b:Int):Int:=if a<b then b else a
def Ql7 (c:QK) (s micro:Int):Int :=
 if m_in s 0 (Qbh c-1)&&m_in micro 1 5&&decide (Qbh c≤4) then
  (let k:=if c.2.2.1=2 then iMin micro (Qbh c-s) else micro
   let z:=QfJ c s
   w64 (w64 (w64 (k*Qk2 c s)+iMax z.1 z.2)+if Qfr c s then QhU c s else 0))
 else 0
def Qmr (c:QK):Bool:=(c.2.2.2.2.1.length==c.2.1.length)&&c.2.2.2.2.1.all fun n=>m_in n 1 5
def QeW (c:QK) (micro:Int):List Int→Int→Bool
 | [],_=>true
 | n::r,s=>m_in n (Ql7 c s micro) 100000&&QeW c micro r (s+1)
def QoL (c:QK) (micro:Int):Bool:=((c.2.2.2.2.2.length:Int)==Qbh c)&&QeW c micro c.2.2.2.2.2 0
def Qjh (st s mi:Int):Bool:=m_in st 1 4&&m_in s 0 (st-1)&&m_in mi 1 5
def QpM (ds st s mi:Int):Int:=if Qjh st s mi then (if ds=2 then iMin mi (st-1-s) else mi) else 0
def Qgv (st s m:Int):List TIns:=(if 0<s then [(1,m)] else [])++[(2,m)]++(if s<st-1 then [(3,m)] else [])
def Qj4 (st s m:Int) (redo:Bool):List TIns:=(if s<st-1 then [(4,m)] else [])++(if redo then [(5,m)] else [])++[(6,m)]++(if 0<s then [(7,m)] else [])
def QjC (ds st s mi:Int) (redo:Bool):List TIns :=
 if m_in ds 1 2&&Qjh st s mi then
  (let w:=(QpM ds st s mi).toNat
   ((List.range w).flatMap fun m:Nat=>Qgv st s (m:Int))++((List.range mi.toNat).flatMap fun m:Nat=>(if (m:Int)+w<mi then Qgv st s ((m:Int)+w) else [])++Qj4 st s (m:Int) redo)++[(8,0)])
 else []
end Go.Proofs.Ytephkbajoofeoaa.Am
namespace Go.Proofs.Ytephkbajoofeoaa.Am
open Go Sz
theorem Qns {α:Type} [DecidableEq α] (d:α) {a b:List α} {Q:Bool→Prop} {A:Int→Prop} {E:α→α→Bool} (hE:∀ x y,E x y=decide (x=y)) (hb:a.length≤9223372036854775807)
  (hA:∀ (i:Int),((decide (i<(a.length:Int))=true→((((0:Int)≤i∧Int.toNat i<a.length)∧((0:Int)≤i∧Int.toNat i<b.length))∧(((!(E (gtd d a (Int.toNat i)) (gtd d b (Int.toNat i))))=true→Q false)∧((!(E (gtd d a (Int.toNat i)) (gtd d b (Int.toNat i))))=false→A (w64 (i+(1:Int)))))))∧(decide (i<(a.length:Int))=false→Q true))→A i)
  (hq:Q (m_eq a b)):((((a.length:Int) != (b.length:Int))=true→Q false)∧(((a.length:Int) != (b.length:Int))=false→A 0)):=by
 constructor
 ·intro h
  have:a≠b:=by rintro rfl;simp at h
  simpa [m_eq,this] using hq
 ·intro h
  have hl:a.length=b.length:=by
   have h:((a.length:Int)==(b.length:Int))=true:=by simpa [bne] using h
   have:=of_decide_eq_true (by simpa using h:decide ((a.length:Int)=b.length)=true)
   omega
  have key:m_eq (a.drop 0) (b.drop 0)=m_eq a b→A (0:Nat):=by
   refine Yb a (fun r k=>m_eq r (b.drop k)=m_eq a b→A k) ?_ ?_
   ·intro he
    refine hA _ ⟨fun hc=>by simp at hc,fun _=>?_⟩
    rw [← he] at hq
    simpa [m_eq,hl] using hq
   ·intro k x r hk hlt hg ih he
    refine hA _ ⟨fun _=>?_,fun hc=>by simp at hc;omega⟩
    obtain ⟨y,s,hbk⟩:∃ y s,b.drop k=y::s:=by
     cases hbk:b.drop k with
     | nil=>have:=congrArg List.length hbk;simp at this;omega
     | cons y s=>exact ⟨y,s,rfl⟩
    rw [Int.toNat_natCast,hg d,QcB hbk d,hE]
    refine ⟨⟨⟨by omega,hlt⟩,by omega,by omega⟩,fun h1=>?_,fun h1=>?_⟩
    ·have hne:x≠y:=by simpa using h1
     rw [← he,hbk] at hq
     simpa [m_eq,hne] using hq
    ·have hxy:x=y:=by simpa using h1
     rw [Qi (by omega) (by omega),show (k:Int)+1=(k+1:Nat) by omega]
     refine ih ?_
     rw [← he,hbk,Qds hbk]
     simp [m_eq,hxy]
  exact key rfl
theorem QpH {a b:List Int} {Q:Bool→Prop} {A:Int→Prop} (hb:a.length≤9223372036854775807)
  (hA:∀ (i:Int),((decide (i<(a.length:Int))=true→((((0:Int)≤i∧Int.toNat i<a.length)∧((0:Int)≤i∧Int.toNat i<b.length))∧((((gtd (0:Int) a (Int.toNat i)) != (gtd (0:Int) b (Int.toNat i)))=true→Q false)∧(((gtd (0:Int) a (Int.toNat i)) != (gtd (0:Int) b (Int.toNat i)))=false→A (w64 (i+(1:Int)))))))∧(decide (i<(a.length:Int))=false→Q true))→A i)
  (hq:Q (m_eq a b)):((((a.length:Int) != (b.length:Int))=true→Q false)∧(((a.length:Int) != (b.length:Int))=false→A 0)) :=
 Qns (0:Int) (E:=fun x y=>x==y) (fun x y=>by rw [Bool.eq_iff_iff];simp) hb (fun i h=>hA i h) hq
theorem QhA {α:Type} (d:α) {l:List α} {c p:α→Bool} {Q:Bool→Prop} {A:Int→Prop} {e:Bool} (hb:l.length≤9223372036854775807) (hc:∀ x,c x = !p x)
  (hA:∀ (i:Int),((decide (i<(l.length:Int))=true→(((0:Int)≤i∧Int.toNat i<l.length)∧((c (gtd d l (Int.toNat i))=true→Q false)∧(c (gtd d l (Int.toNat i))=false→A (w64 (i+(1:Int)))))))∧(decide (i<(l.length:Int))=false→Q e))→A i)
  (hq:Q (l.all p&&e)):A 0:=by
 have key:(l.drop 0).all p=l.all p→A (0:Nat):=by
  refine Yb l (fun r k=>r.all p=l.all p→A k) ?_ ?_
  ·intro he
   refine hA _ ⟨fun h=>by simp at h,fun _=>?_⟩
   rw [← he] at hq
   simpa using hq
  ·intro k x r hk hlt hg ih he
   refine hA _ ⟨fun _=>?_,fun h=>by simp at h;omega⟩
   rw [Int.toNat_natCast,hg,Qi (by omega) (by omega)]
   refine ⟨⟨by omega,hlt⟩,fun h=>?_,fun h=>ih ?_⟩
   ·have hp:p x=false:=by simpa [hc] using h
    have:l.all p=false:=by rw [← he,List.all_cons,hp];rfl
    rw [this] at hq
    exact hq
   ·have hp:p x=true:=by simpa [hc] using h
    rw [← he,List.all_cons,hp]
    rfl
 exact key rfl
end Go.Proofs.Ytephkbajoofeoaa.Am

