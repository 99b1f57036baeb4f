/- -/
import Derived.Test.YtephkbajoofeoaaYBG5
import Derived.Test.YtephkbajoofeoaaProg
set_option linter.all false
namespace Go.Proofs.Ytephkbajoofeoaa.Am
open Go Go.RowKit Go.Proofs.Ytephkbajoofeoaa
abbrev TI:CT:=.int .i64
abbrev w64 (x:Int):Int:=IntKind.i64.wrap x
def Loop (Γ:List TRow) (nl:Nat) (L:List (Nat × Md)) (x:TCode) (Q:Qi) (s:TSt):Prop :=
 Lfp (fun R s=>tawp Γ nl x (Qseq (fun s'=>R (gc nl L s')) Q) s) s
theorem QgG {Γ:List TRow} {nl:Nat} {L:List (Nat × Md)} {x:TCode} {Q:Qi} {s:TSt}
  (h:tawp Γ nl x (Qseq (fun s'=>Loop Γ nl L x Q (gc nl L s')) Q) s):Loop Γ nl L x Q s:=JP h
structure Hold (p:Prop):Prop where
 h:p
theorem Hold.of {p F:Prop} (e:F=p) (h:F):Hold p:=⟨e ▸ h⟩
theorem Loop.of {Γ:List TRow} {nl:Nat} {L:List (Nat × Md)} {x:TCode} {Q:Qi} {s:TSt} {F:Prop}
  (e:F=tawp Γ nl x (Qseq (fun s'=>Loop Γ nl L x Q (gc nl L s')) Q) s) (h:F):Loop Γ nl L x Q s:=QgG (e ▸ h)
def gtd {α:Type} (d:α) (l:List α) (i:Nat):α:=l.getD i d
@[reducible] def Sh.den:Sh→Type
 | .c t=>t.den
 | .a ts=>Tup ts
 | .b ts=>Tup ts
 | .o _ ts=>List (Tup ts)
@[reducible] def DenL:List Sh→Type
 | []=>Unit
 | s::ss=>s.den × DenL ss
def Sh.val:(s:Sh)→s.den→TV
 | .c t,x=>.c t x
 | .a ts,x=>.a (Tup.cells ts x)
 | .b ts,x=>.bx (Tup.cells ts x)
 | .o e ts,x=>.ow e ts x
def valL:(ss:List Sh)→DenL ss→List TV
 | [],_=>[]
 | s::ss,x=>s.val x.1::valL ss x.2
def decD (t:CT):TV→Option t.den
 | .c t' x=>if e:t'.beq t=true then some (Jq e x) else none
 | _=>none
def decT:(ts:List CT)→List TV→Option (Tup ts)
 | [],xs=>match xs with
  | []=>some ()
  | _=>none
 | t::ts,xs=>match xs with
  | x::xs=>match decD t x,decT ts xs with
   | some a,some b=>some (mkT ts a b)
   | _,_=>none
  | []=>none
def Sh.dec:(s:Sh)→TV→Option s.den
 | .c t,x=>decD t x
 | .a ts,x=>match x with
  | .a cs=>decT ts cs
  | _=>none
 | .b ts,x=>match x with
  | .bx cs=>decT ts cs
  | _=>none
 | .o e ts,x=>match x with
  | .ow e' ts' es=>if q:CT.beqL ts' ts=true then (bif Nat.beq e' e then some (JG q es) else none) else none
  | _=>none
def decL:(ss:List Sh)→List TV→Option (DenL ss)
 | [],xs=>match xs with
  | []=>some ()
  | _=>none
 | s::ss,xs=>match xs with
  | x::xs=>match s.dec x,decL ss xs with
   | some a,some b=>some (a,b)
   | _,_=>none
  | []=>none
theorem QeY {t:CT} {v:TV} {x:t.den} (h:decD t v=some x):v = .c t x:=by
 cases v with
 | c t' y =>
  simp only [decD] at h
  split at h
  ·rename_i e
   have e':=CT.beq_eq _ _ e
   subst e'
   cases h
   rfl
  ·cases h
 | _=>simp [decD] at h
theorem QaX:∀ {ts:List CT} {vs:List TV} {x:Tup ts},decT ts vs=some x→vs=Tup.cells ts x
 | [],vs,x,h=>by
  cases vs with
  | nil=>rfl
  | cons v vs=>simp [decT] at h
 | t::ts,vs,x,h=>by
  cases vs with
  | nil=>simp [decT] at h
  | cons v vs =>
   simp only [decT] at h
   split at h
   rotate_left
   ·cases h
   rename_i a b h1 h2
   cases h
   rw [Tup.cells,QeY h1,QaX h2,Qar,Ju]
theorem Qg4 {s:Sh} {v:TV} {x:s.den} (h:s.dec v=some x):v=s.val x:=by
 cases s with
 | c t=>exact QeY h
 | a ts =>
  cases v with
  | a cs=>exact congrArg TV.a (QaX h)
  | _=>simp [Sh.dec] at h
 | b ts =>
  cases v with
  | bx cs=>exact congrArg TV.bx (QaX h)
  | _=>simp [Sh.dec] at h
 | o e ts =>
  cases v with
  | ow e' ts' es =>
   simp only [Sh.dec] at h
   split at h
   ·rename_i q
    have q':=CT.beqL_eq _ _ q
    subst q'
    cases hb:Nat.beq e' e with
    | false=>rw [hb] at h;cases h
    | true =>
     rw [hb] at h
     cases h
     have:=Nat.eq_of_beq_eq_true hb
     subst this
     rfl
   ·cases h
  | _=>simp [Sh.dec] at h
theorem QcW:∀ {ss:List Sh} {vs:List TV} {x:DenL ss},decL ss vs=some x→vs=valL ss x
 | [],vs,x,h=>by
  cases vs with
  | nil=>rfl
  | cons v vs=>simp [decL] at h
 | s::ss,vs,x,h=>by
  cases vs with
  | nil=>simp [decL] at h
  | cons v vs =>
   simp only [decL] at h
   split at h
   rotate_left
   ·cases h
   rename_i a b h1 h2
   cases h
   rw [valL,Qg4 h1,QcW h2]
def Qr (f:FuncId) (sg:List Sh) (g:DenL sg→Option Prop × TRes):TRow:=⟨f,sg,fun vs=>match decL sg vs with
 | some x=>some (g x)
 | none=>none⟩
theorem Qy {P:Program} {f:FuncId} {sg:List Sh} {g:DenL sg→Option Prop × TRes} (h:∀ x:DenL sg,holds (g x).1→TCon P f (valL sg x) (g x).2):Qq P (Qr f sg g):=by
 intro vs pre r hf hr hp
 simp only [Qr] at hr
 split at hr
 ·rename_i x hx
  rw [QcW hx]
  cases hg:g x with
  | mk p r' =>
   rw [hg] at hr
   cases hr
   have:=h x
   rw [hg] at this
   exact this hp
 ·cases hr
theorem Qcp {P:Program} {Γ:List TRow} {f:FuncId} {tc:TCode} {rs:List (ARv × Md)} {n nb no:Nat} {xs:List TV} {r:TRes} {sg:List Sh} (hm:P.follows .mixedOrders=true) (hΓ:TOk P Γ) (hs:Yt P f=some (tc.er,rs.map Prod.fst,n))
  (hfit:QH sg xs=true) (hN:Nat.ble xs.length n=true) (hnl:tbxs xs=nb) (hno:tows xs=no) (h:Hold (tawp Γ (nb+no) tc (TQ nb no rs (fun r'=>r'=r)) (Ql xs))):TCon P f xs r:=by
 subst hnl
 subst hno
 exact Qjo hm hΓ hs hfit (Nat.le_of_ble_eq_true hN) h.h
theorem ZZ {Γ:List TRow} {nl:Nat}:∀ (c:TCode) {Q:Qi} {σ:TSt},tawp Γ nl c Q σ→∃ e σ',Q e σ'∧tawp Γ nl c (fun e' s'=>e'=e∧s'=σ') σ
 | .skip,Q,σ,h=>⟨_,_,h,rfl,rfl⟩
 | .exit id,Q,σ,h=>⟨_,_,h,rfl,rfl⟩
 | .ret,Q,σ,h=>⟨_,_,h,rfl,rfl⟩
 | .reg ss,Q,σ,h=>by
  simp only [tawp] at h ⊢
  split at h
  ·rw [ZW] at h;exact ⟨_,_,h.2,by rw [ZW];exact ⟨h.1,rfl,rfl⟩⟩
  ·exact h.elim
 | .draw ss U,Q,σ,h=>by
  simp only [tawp] at h ⊢
  split at h
  ·split at h
   ·rw [ZW] at h;exact ⟨_,_,h.2,by rw [ZW];exact ⟨h.1,rfl,rfl⟩⟩
   ·exact h.elim
  ·exact h.elim
 | .cond c x y,Q,σ,h=>by
  simp only [tawp] at h ⊢
  split at h
  ·rename_i t _
   cases t with
   | true =>
    obtain ⟨e,s,h1,h2⟩:=ZZ x (h.1 rfl)
    exact ⟨e,s,h1,fun _=>h2,fun h=>by cases h⟩
   | false =>
    obtain ⟨e,s,h1,h2⟩:=ZZ y (h.2 rfl)
    exact ⟨e,s,h1,(fun h=>by cases h),fun _=>h2⟩
  ·exact h.elim
 | .seq x y,Q,σ,h=>by
  simp only [tawp] at h ⊢
  obtain ⟨e,s,h1,h2⟩:=ZZ x h
  cases e with
  | normal =>
   obtain ⟨e',s',h3,h4⟩:=ZZ y (show tawp Γ nl y Q s from h1)
   exact ⟨e',s',h3,QM x (fun e0 s0 hq=>by obtain ⟨rfl,rfl⟩:=hq;exact h4) h2⟩
  | exit id=>exact ⟨_,_,h1,QM x (fun e0 s0 hq=>by obtain ⟨rfl,rfl⟩:=hq;exact ⟨rfl,rfl⟩) h2⟩
  | ret=>exact ⟨_,_,h1,QM x (fun e0 s0 hq=>by obtain ⟨rfl,rfl⟩:=hq;exact ⟨rfl,rfl⟩) h2⟩
 | .block id x,Q,σ,h=>by
  simp only [tawp] at h ⊢
  obtain ⟨e,s,h1,h2⟩:=ZZ x h
  cases e with
  | normal=>exact ⟨_,_,h1,QM x (fun e0 s0 hq=>by obtain ⟨rfl,rfl⟩:=hq;exact ⟨rfl,rfl⟩) h2⟩
  | exit id' =>
   cases hb:Nat.beq id' id with
   | true =>
    simp only [Qblk,hb,cond_true] at h1
    exact ⟨_,_,h1,QM x (fun e0 s0 hq=>by obtain ⟨rfl,rfl⟩:=hq;simp [Qblk,hb]) h2⟩
   | false =>
    simp only [Qblk,hb,cond_false] at h1
    exact ⟨_,_,h1,QM x (fun e0 s0 hq=>by obtain ⟨rfl,rfl⟩:=hq;simp [Qblk,hb]) h2⟩
  | ret=>exact ⟨_,_,h1,QM x (fun e0 s0 hq=>by obtain ⟨rfl,rfl⟩:=hq;exact ⟨rfl,rfl⟩) h2⟩
 | .wk L x,Q,σ,h=>by
  simp only [tawp] at h ⊢
  exact ZZ x h
 | .loop L x,Q,σ,h=>by
  simp only [tawp] at h ⊢
  refine h (fun s=>∃ e σ',Q e σ'∧Lfp (fun R s=>tawp Γ nl x (Qseq (fun s'=>R (gc nl L s')) fun e' s'=>e'=e∧s'=σ') s) s) (fun s hs=>?_)
  obtain ⟨e,s1,h1,h2⟩:=ZZ x hs
  cases e with
  | normal =>
   obtain ⟨e',s',h3,h4⟩:=(show ∃ e σ',Q e σ'∧Lfp (fun R s=>tawp Γ nl x (Qseq (fun s'=>R (gc nl L s')) fun e' s'=>e'=e∧s'=σ') s) (gc nl L s1) from h1)
   exact ⟨e',s',h3,JP (QM x (fun e0 s0 hq=>by obtain ⟨rfl,rfl⟩:=hq;exact h4) h2)⟩
  | exit id=>exact ⟨_,_,h1,JP (QM x (fun e0 s0 hq=>by obtain ⟨rfl,rfl⟩:=hq;exact ⟨rfl,rfl⟩) h2)⟩
  | ret=>exact ⟨_,_,h1,JP (QM x (fun e0 s0 hq=>by obtain ⟨rfl,rfl⟩:=hq;exact ⟨rfl,rfl⟩) h2)⟩
theorem Qje {P:Program} {Γ:List TRow} {f:FuncId} {tc:TCode} {rs:List (ARv × Md)} {n nb no:Nat} {xs:List TV} {K:TRes→Prop} {sg:List Sh} (hm:P.follows .mixedOrders=true) (hΓ:TOk P Γ) (hs:Yt P f=some (tc.er,rs.map Prod.fst,n))
  (hfit:QH sg xs=true) (hN:Nat.ble xs.length n=true) (hnl:tbxs xs=nb) (hno:tows xs=no) (h:Hold (tawp Γ (nb+no) tc (TQ nb no rs K) (Ql xs))):∃ r,K r∧TCon P f xs r:=by
 obtain ⟨e,s,h1,h2⟩:=ZZ tc h.h
 have key:∃ r,K r∧TQ nb no rs (fun r'=>r'=r) e s:=by
  cases e with
  | exit id=>exact h1.elim
  | normal =>
   simp only [TQ] at h1 ⊢
   split at h1
   ·exact ⟨_,h1,rfl⟩
   ·exact h1.elim
  | ret =>
   simp only [TQ] at h1 ⊢
   split at h1
   ·exact ⟨_,h1,rfl⟩
   ·exact h1.elim
 obtain ⟨r,h3,h4⟩:=key
 exact ⟨r,h3,Qcp hm hΓ hs hfit hN hnl hno ⟨QM tc (fun e0 s0 hq=>by obtain ⟨rfl,rfl⟩:=hq;exact h4) h2⟩⟩
theorem Zj {P:Program} {f:FuncId} {xs:List TV} {α:Type} {p:α→Prop} {R:α→TRes} (h:∃ r,(∃ t,p t∧r=R t)∧TCon P f xs r):∃ t,p t∧TCon P f xs (R t):=by
 obtain ⟨_,⟨t,h1,rfl⟩,h2⟩:=h
 exact ⟨t,h1,h2⟩
theorem Qv:Try.prog.follows .mixedOrders=true:=by kernel_rfl
end Go.Proofs.Ytephkbajoofeoaa.Am
namespace Go.Proofs.Ytephkbajoofeoaa.Am
open Go Go.RowKit Go.Proofs.Ytephkbajoofeoaa
theorem QE {x:Int} (h1:-9223372036854775808≤x) (h2:x<9223372036854775808):w64 x=x:=IntWalk.i64_in x (by omega)
theorem Qe8 {α:Type} {l r:List α} {x:α} {k:Nat} (h:l.drop k=x::r) (d:α):gtd d l k=x:=by
 unfold gtd
 have:l[k]? = some x:=by
  have:=congrArg List.head? h
  simpa [List.head?_drop] using this
 rw [List.getD_eq_getElem?_getD,this];rfl
theorem Qix {α:Type} {l r:List α} {x:α} {k:Nat} (h:l.drop k=x::r):k<l.length:=by
 apply Classical.byContradiction
 intro hn
 rw [List.drop_eq_nil_of_le (by omega)] at h
 cases h
theorem QcB {α:Type} {l r:List α} {x:α} {k:Nat} (h:l.drop k=x::r):l.drop (k+1)=r:=by
 have:=congrArg List.tail h
 simpa [List.tail_drop] using this
theorem Y5 {α:Type} (l:List α) (P:List α→Nat→Prop) (h0:P [] l.length) (hs:∀ (k:Nat) (x:α) (r:List α),l.drop k=x::r→k<l.length→(∀ d,gtd d l k=x)→P r (k+1)→P (x::r) k):P l 0:=by
 suffices ∀ (r:List α) (k:Nat),l.drop k=r→k≤l.length→P r k from this l 0 rfl (Nat.zero_le _)
 intro r
 induction r with
 | nil =>
  intro k hk hle
  have:l.length≤k:=by simpa using hk
  rw [show k=l.length by omega]
  exact h0
 | cons x r ih =>
  intro k hk hle
  have hlt:=Qix hk
  exact hs k x r hk hlt (Qe8 hk) (ih (k+1) (QcB hk) hlt)
theorem Qb7 (n:Nat) (P:Nat→Prop) (h0:P n) (hs:∀ k,k<n→P (k+1)→P k):P 0:=by
 suffices ∀ j k,k+j=n→P k from this n 0 (by omega)
 intro j
 induction j with
 | zero=>intro k hk;rw [show k=n by omega];exact h0
 | succ j ih=>intro k hk;exact hs k (by omega) (ih (k+1) (by omega))
class Sz (α:Type) where
 sz:α→Nat
instance:Sz Int:=⟨fun _=>0⟩
instance:Sz Bool:=⟨fun _=>0⟩
instance:Sz ByteArray:=⟨fun _=>0⟩
instance {α β:Type} [Sz α] [Sz β]:Sz (α × β):=⟨fun x=>Sz.sz x.1+Sz.sz x.2⟩
def szL {α:Type} [Sz α]:List α→Nat
 | []=>0
 | x::r=>1+Sz.sz x+szL r
instance {α:Type} [Sz α]:Sz (List α):=⟨szL⟩
open Sz
@[simp] theorem Q7 (x:Int):sz x=0:=rfl
@[simp] theorem Qk2 (x:Bool):sz x=0:=rfl
@[simp] theorem Qfs {α β:Type} [Sz α] [Sz β] (x:α) (y:β):sz (x,y)=sz x+sz y:=rfl
theorem Zo {α β:Type} [Sz α] [Sz β] (x:α × β):sz x=sz x.1+sz x.2:=rfl
@[simp] theorem Qk4 {α:Type} [Sz α]:sz ([]:List α)=0:=rfl
@[simp] theorem Qip {α:Type} [Sz α] (x:α) (r:List α):sz (x::r)=1+sz x+sz r:=rfl
@[simp] theorem Qk5 {α:Type} [Sz α] (l r:List α):sz (l++r)=sz l+sz r:=by
 induction l with
 | nil=>simp
 | cons x l ih=>simp [ih];omega
theorem J2 {α:Type} [Sz α] (l:List α):l.length≤sz l:=by
 induction l with
 | nil=>simp
 | cons x l ih=>simp;omega
theorem ZU (l:List Int):sz l=l.length:=by
 induction l with
 | nil=>rfl
 | cons x l ih=>simp [ih];omega
theorem QeL {α:Type} [Sz α] {l:List α} {x:α} (h:x∈l):sz x<sz l:=by
 induction l with
 | nil=>cases h
 | cons y l ih =>
  rcases List.mem_cons.1 h with rfl | h
  ·simp;omega
  ·have:=ih h;simp;omega
theorem Qi9 {α:Type} [Sz α] {l r:List α} {x:α} {k:Nat} (h:l.drop k=x::r):sz x<sz l:=QeL (List.mem_of_mem_drop (by rw [h];exact List.mem_cons_self))
theorem ZY:(big:Nat)=4294967296:=rfl
theorem R_eq {α:Type} {R:α→TRes} {x y:α} (h:x=y):R x=R y:=by rw [h]
end Go.Proofs.Ytephkbajoofeoaa.Am
namespace Go.Proofs.Ytephkbajoofeoaa.Am
open Go Go.RowKit
instance (n:Nat):OfNat TOpd n:=⟨.s n⟩
abbrev zci (n:Int):TV:=.c TI n
abbrev zcb (b:Bool):TV:=.c .bool b
abbrev zcs (ts:List CT) (x:List (Tup ts)):TV:=.c (.sl ts) x
def zki (n:Int):TOpd:=.k (.c TI n)
def zkb (b:Bool):TOpd:=.k (.c .bool b)
def zop (d:Nat) (x:TOp):TStm:=.op (some d) x
def zmv (d:Nat) (x:TOpd):TStm:=.op (some d) (.mov x)
def zld (d:Nat) (x:TOpd) (n:Nat):TStm:=.op (some d) (.load x n false)
def zLd (d:Nat) (x:TOpd) (n:Nat):TStm:=.op (some d) (.load x n true)
def zfa (d:Nat) (x:TOpd) (o:Nat):TStm:=.op (some d) (.fad x o)
def zle (d:Nat) (x:TOpd):TStm:=.op (some d) (.len x)
def zbi (d:Nat) (o:BinOp) (x y:TOpd):TStm:=.op (some d) (.bin o x y)
def zst (x v:TOpd) (n:Nat):TStm:=.op none (.store x v n)
def zca (d:Nat) (f:FuncId) (l:List TOpd):TStm:=.op (some d) (.call f l)
def zia (d:Nat) (x i:TOpd) (ts:List CT):TStm:=.op (some d) (.iad x i ts)
def zno (d:Nat) (x:TOpd):TStm:=.op (some d) (.not x)
def zex (d:Nat) (x:TOpd) (i:Nat):TStm:=.op (some d) (.ext x i)
def zsq:List TCode→TCode
 | []=>.skip
 | [x]=>x
 | x::y::r=>.seq x (zsq (y::r))
def z01:CT→TV
 | .int k=>.c (.int k) (0:Int)
 | .bool=>.c .bool false
 | .str=>.c .str ⟨#[]⟩
 | .nilp=>.c .nilp ()
 | .sl ts=>.n ts
def z0s:List CT→List TV
 | []=>[]
 | t::ts=>z01 t::z0s ts
abbrev zif (c:Bool) (A B:Prop):Prop:=(c=true→A)∧(c=false→B)
def zdl (l:List Nat):List (Nat × Md):=l.map fun i=>(i,.one .d)
@[reducible] def zre (v:TV):TRes:=⟨v,[],[],false,[]⟩
@[reducible] def zra (v:TV):TRes:=⟨v,[],[],true,[]⟩
theorem tcg {P:Program} {Γ:List TRow} {f:FuncId} {tc:TCode} {rs:List (ARv × Md)} {n nb no:Nat} {xs:List TV} {r:TRes} {sg:List Sh} (hm:P.follows .mixedOrders=true) (hΓ:TOk P Γ) (hs:Yt P f=some (tc.er,rs.map Prod.fst,n))
  (hq:((QH sg xs&&Nat.ble xs.length n)&&(Nat.beq (tbxs xs) nb&&Nat.beq (tows xs) no))=true) (h:Hold (tawp Γ (nb+no) tc (TQ nb no rs (fun r'=>r'=r)) (Ql xs))):TCon P f xs r:=by
 simp only [Bool.and_eq_true] at hq
 exact Qcp hm hΓ hs hq.1.1 hq.1.2 (Nat.eq_of_beq_eq_true hq.2.1) (Nat.eq_of_beq_eq_true hq.2.2) h
theorem tcx {P:Program} {Γ:List TRow} {f:FuncId} {tc:TCode} {rs:List (ARv × Md)} {n nb no:Nat} {xs:List TV} {K:TRes→Prop} {sg:List Sh} (hm:P.follows .mixedOrders=true) (hΓ:TOk P Γ) (hs:Yt P f=some (tc.er,rs.map Prod.fst,n))
  (hq:((QH sg xs&&Nat.ble xs.length n)&&(Nat.beq (tbxs xs) nb&&Nat.beq (tows xs) no))=true) (h:Hold (tawp Γ (nb+no) tc (TQ nb no rs K) (Ql xs))):∃ r,K r∧TCon P f xs r:=by
 simp only [Bool.and_eq_true] at hq
 exact Qje hm hΓ hs hq.1.1 hq.1.2 (Nat.eq_of_beq_eq_true hq.2.1) (Nat.eq_of_beq_eq_true hq.2.2) h
end Go.Proofs.Ytephkbajoofeoaa.Am
namespace Go.Proofs.Ytephkbajoofeoaa.Am
open Sz
abbrev TIns:=Int × Int
abbrev Qg:=Int × List Int
abbrev TOp':=Int × Int × Int × List Int
abbrev QaE:=Int × List (List Int)
abbrev Qir:=List Int × List Int
abbrev Qb:=Int × List Qg
abbrev Qeh:=List (List Int) × Int × Bool
def Zz {α:Type} (_:α):Bool:=true
def pl (left:Int):Prop:=-1≤left∧left≤1048576
def m_eq {α:Type} [DecidableEq α] (x y:α):Bool:=decide (x=y)
def m_in (x a b:Int):Bool:=decide (a≤x)&&decide (x≤b)
def QR (x:Int):Bool:=decide (-2147483647≤x)&&decide (x≤2147483647)
def Q3 (v:List Int):Bool:=v.all QR
def QP (v:List Int):Bool:=m_in v.length 1 6&&Q3 v
def QA (x:Qg):Bool:=QP x.2&&decide (0≤x.1)&&decide (x.1<5)
def Qn (q:Qb):Bool:=decide (1≤q.1)&&decide (q.1≤5)&&decide ((q.2.length:Int)≤q.1)&&q.2.all QA
end Go.Proofs.Ytephkbajoofeoaa.Am
namespace Go.Proofs.Ytephkbajoofeoaa.Am
open Go Sz
abbrev QbQ:=Int × List TIns × List TOp' × Bool × Bool × List QaE × List (List Int) × List Int × List Int × List Int × List Int × List (List Int) × Int × Bool
abbrev Qfb:=List TOp' × List Int × Int × List Bool × List Int × List Int
abbrev Qfu:=List Qir × List QbQ × List Qb × List Qb
abbrev Qd:List CT:=[.int .i64,.sl [.int .i64]]
abbrev Qu:List CT:=[.int .i64,.sl Qd]
set_option synthInstance.maxSize 2000
set_option synthInstance.maxHeartbeats 200000
instance:DecidableEq TOp':=inferInstance
instance:DecidableEq QaE:=inferInstance
instance:DecidableEq Qb:=inferInstance
abbrev TSt4:=List Int × List Int × List Int × List Int × Qeh
abbrev TSt3:=List QaE × List (List Int) × TSt4
abbrev TSt2:=List TOp' × Bool × Bool × TSt3
instance:DecidableEq Qeh:=inferInstance
instance:DecidableEq TSt4:=inferInstance
instance:DecidableEq TSt3:=inferInstance
instance:DecidableEq TSt2:=inferInstance
instance:DecidableEq QbQ:=(inferInstance:DecidableEq (Int × List TIns × TSt2))
instance:DecidableEq Qfb:=inferInstance
instance:DecidableEq Qfu:=inferInstance
instance:Sz QbQ:=inferInstance
instance:Sz Qfb:=inferInstance
instance:Sz Qfu:=inferInstance
def Zm (q:Qb):Int:=if Qn q then w64 ((q.2.map fun x=>(x.2.length:Int)).sum) else 0
def Qg0 (o:TOp'):Int :=
 if m_in o.2.1 1 6&&m_in o.2.2.1 1 6 then (if o.1=1∨o.1=5 then o.2.1*o.2.2.1 else if o.1=2 then o.2.1 else if o.1=4 then 1 else 0) else 0
def QkW (o:TOp'):Bool :=
 m_in o.1 1 5&&m_in o.2.1 1 6&&m_in o.2.2.1 1 6&&(o.1==1||o.2.1==o.2.2.1)&&((o.2.2.2.length:Int)==Qg0 o)&&Q3 o.2.2.2
def slice {α:Type} (l:List α) (a b:Int):List α:=(l.drop a.toNat).take (b.toNat-a.toNat)
end Go.Proofs.Ytephkbajoofeoaa.Am
namespace Go.Proofs.Ytephkbajoofeoaa.Am
open Go Sz
theorem Qid {α:Type} [DecidableEq α] (d:α) {a b:List α} {Q:Bool→Prop} {A:Int→Prop} {E:α→α→Bool} (hE:∀ x y,E x y=decide (x=y)) (hb:a.length≤9223372036854775807)
  (hA:∀ (i:Int),((decide (i<(a.length:Int))=true→((((0:Int)≤i∧Int.toNat i<a.length)∧((0:Int)≤i∧Int.toNat i<b.length))∧(((!(E (gtd d a (Int.toNat i)) (gtd d b (Int.toNat i))))=true→Q false)∧((!(E (gtd d a (Int.toNat i)) (gtd d b (Int.toNat i))))=false→A (w64 (i+(1:Int)))))))∧(decide (i<(a.length:Int))=false→Q true))→A i)
  (hq:Q (m_eq a b)):((((a.length:Int) != (b.length:Int))=true→Q false)∧(((a.length:Int) != (b.length:Int))=false→A 0)):=by
 constructor
 ·intro h
  have:a≠b:=by rintro rfl;simp at h
  simpa [m_eq,this] using hq
 ·intro h
  have hl:a.length=b.length:=by
   have h:((a.length:Int)==(b.length:Int))=true:=by simpa [bne] using h
   have:=of_decide_eq_true (by simpa using h:decide ((a.length:Int)=b.length)=true)
   omega
  have key:m_eq (a.drop 0) (b.drop 0)=m_eq a b→A (0:Nat):=by
   refine Y5 a (fun r k=>m_eq r (b.drop k)=m_eq a b→A k) ?_ ?_
   ·intro he
    refine hA _ ⟨fun hc=>by simp at hc,fun _=>?_⟩
    rw [← he] at hq
    simpa [m_eq,hl] using hq
   ·intro k x r hk hlt hg ih he
    refine hA _ ⟨fun _=>?_,fun hc=>by simp at hc;omega⟩
    obtain ⟨y,s,hbk⟩:∃ y s,b.drop k=y::s:=by
     cases hbk:b.drop k with
     | nil=>have:=congrArg List.length hbk;simp at this;omega
     | cons y s=>exact ⟨y,s,rfl⟩
    rw [Int.toNat_natCast,hg d,Qe8 hbk d,hE]
    refine ⟨⟨⟨by omega,hlt⟩,by omega,by omega⟩,fun h1=>?_,fun h1=>?_⟩
    ·have hne:x≠y:=by simpa using h1
     rw [← he,hbk] at hq
     simpa [m_eq,hne] using hq
    ·have hxy:x=y:=by simpa using h1
     rw [QE (by omega) (by omega),show (k:Int)+1=(k+1:Nat) by omega]
     refine ih ?_
     rw [← he,hbk,QcB hbk]
     simp [m_eq,hxy]
  exact key rfl
theorem Qge {a b:List Int} {Q:Bool→Prop} {A:Int→Prop} (hb:a.length≤9223372036854775807)
  (hA:∀ (i:Int),((decide (i<(a.length:Int))=true→((((0:Int)≤i∧Int.toNat i<a.length)∧((0:Int)≤i∧Int.toNat i<b.length))∧((((gtd (0:Int) a (Int.toNat i)) != (gtd (0:Int) b (Int.toNat i)))=true→Q false)∧(((gtd (0:Int) a (Int.toNat i)) != (gtd (0:Int) b (Int.toNat i)))=false→A (w64 (i+(1:Int)))))))∧(decide (i<(a.length:Int))=false→Q true))→A i)
  (hq:Q (m_eq a b)):((((a.length:Int) != (b.length:Int))=true→Q false)∧(((a.length:Int) != (b.length:Int))=false→A 0)) :=
 Qid (0:Int) (E:=fun x y=>x==y) (fun x y=>by rw [Bool.eq_iff_iff];simp) hb (fun i h=>hA i h) hq
theorem Qbs {α:Type} (d:α) {l:List α} {c p:α→Bool} {Q:Bool→Prop} {A:Int→Prop} {e:Bool} (hb:l.length≤9223372036854775807) (hc:∀ x,c x = !p x)
  (hA:∀ (i:Int),((decide (i<(l.length:Int))=true→(((0:Int)≤i∧Int.toNat i<l.length)∧((c (gtd d l (Int.toNat i))=true→Q false)∧(c (gtd d l (Int.toNat i))=false→A (w64 (i+(1:Int)))))))∧(decide (i<(l.length:Int))=false→Q e))→A i)
  (hq:Q (l.all p&&e)):A 0:=by
 have key:(l.drop 0).all p=l.all p→A (0:Nat):=by
  refine Y5 l (fun r k=>r.all p=l.all p→A k) ?_ ?_
  ·intro he
   refine hA _ ⟨fun h=>by simp at h,fun _=>?_⟩
   rw [← he] at hq
   simpa using hq
  ·intro k x r hk hlt hg ih he
   refine hA _ ⟨fun _=>?_,fun h=>by simp at h;omega⟩
   rw [Int.toNat_natCast,hg,QE (by omega) (by omega)]
   refine ⟨⟨by omega,hlt⟩,fun h=>?_,fun h=>ih ?_⟩
   ·have hp:p x=false:=by simpa [hc] using h
    have:l.all p=false:=by rw [← he,List.all_cons,hp];rfl
    rw [this] at hq
    exact hq
   ·have hp:p x=true:=by simpa [hc] using h
    rw [← he,List.all_cons,hp]
    rfl
 exact key rfl
end Go.Proofs.Ytephkbajoofeoaa.Am

