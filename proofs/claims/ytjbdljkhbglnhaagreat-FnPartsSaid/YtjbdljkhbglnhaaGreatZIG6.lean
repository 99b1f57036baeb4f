/- -/
import Derived.Test.YtjbdljkhbglnhaaGreatZIG5
import Derived.Test.YtjbdljkhbglnhaaGreatProg
set_option linter.all false
namespace Go.Proofs.YtjbdljkhbglnhaaGreat.Am
open Go Go.RowKit Go.Proofs.YtjbdljkhbglnhaaGreat
abbrev TI:CT:=.int .i64
abbrev w64 (x:Int):Int:=IntKind.i64.wrap x
def Loop (Γ:List TRow) (nl:Nat) (L:List (Nat × Md)) (x:TCode) (Q:Qb) (s:TSt):Prop :=
 Lfp (fun R s=>tawp Γ nl x (Qseq (fun s'=>R (gc nl L s')) Q) s) s
theorem QUi {Γ:List TRow} {nl:Nat} {L:List (Nat × Md)} {x:TCode} {Q:Qb} {s:TSt}
  (h:tawp Γ nl x (Qseq (fun s'=>Loop Γ nl L x Q (gc nl L s')) Q) s):Loop Γ nl L x Q s:=QhQ h
structure Hold (p:Prop):Prop where
 h:p
theorem Hold.of {p F:Prop} (e:F=p) (h:F):Hold p:=⟨e ▸ h⟩
theorem Loop.of {Γ:List TRow} {nl:Nat} {L:List (Nat × Md)} {x:TCode} {Q:Qb} {s:TSt} {F:Prop}
  (e:F=tawp Γ nl x (Qseq (fun s'=>Loop Γ nl L x Q (gc nl L s')) Q) s) (h:F):Loop Γ nl L x Q s:=QUi (e ▸ h)
def gtd {α:Type} (d:α) (l:List α) (i:Nat):α:=l.getD i d
@[reducible] def Sh.den:Sh→Type
 | .c t=>t.den
 | .a ts=>Tup ts
 | .b ts=>Tup ts
 | .o _ ts=>List (Tup ts)
@[reducible] def DenL:List Sh→Type
 | []=>Unit
 | s::ss=>s.den × DenL ss
def Sh.val:(s:Sh)→s.den→TV
 | .c t,x=>.c t x
 | .a ts,x=>.a (Tup.cells ts x)
 | .b ts,x=>.bx (Tup.cells ts x)
 | .o e ts,x=>.ow e ts x
def valL:(ss:List Sh)→DenL ss→List TV
 | [],_=>[]
 | s::ss,x=>s.val x.1::valL ss x.2
def decD (t:CT):TV→Option t.den
 | .c t' x=>if e:t'.beq t=true then some (QjE e x) else none
 | _=>none
def decT:(ts:List CT)→List TV→Option (Tup ts)
 | [],xs=>match xs with
  | []=>some ()
  | _=>none
 | t::ts,xs=>match xs with
  | x::xs=>match decD t x,decT ts xs with
   | some a,some b=>some (mkT ts a b)
   | _,_=>none
  | []=>none
def Sh.dec:(s:Sh)→TV→Option s.den
 | .c t,x=>decD t x
 | .a ts,x=>match x with
  | .a cs=>decT ts cs
  | _=>none
 | .b ts,x=>match x with
  | .bx cs=>decT ts cs
  | _=>none
 | .o e ts,x=>match x with
  | .ow e' ts' es=>if q:CT.beqL ts' ts=true then (bif Nat.beq e' e then some (Qjt q es) else none) else none
  | _=>none
def decL:(ss:List Sh)→List TV→Option (DenL ss)
 | [],xs=>match xs with
  | []=>some ()
  | _=>none
 | s::ss,xs=>match xs with
  | x::xs=>match s.dec x,decL ss xs with
   | some a,some b=>some (a,b)
   | _,_=>none
  | []=>none
theorem Qty {t:CT} {v:TV} {x:t.den} (h:decD t v=some x):v = .c t x:=by
 cases v with
 | c t' y =>
  simp only [decD] at h
  split at h
  ·rename_i e
   have e':=CT.beq_eq _ _ e
   subst e'
   cases h
   rfl
  ·cases h
 | _=>simp [decD] at h
theorem Qlp:∀ {ts:List CT} {vs:List TV} {x:Tup ts},decT ts vs=some x→vs=Tup.cells ts x
 | [],vs,x,h=>by
  cases vs with
  | nil=>rfl
  | cons v vs=>simp [decT] at h
 | t::ts,vs,x,h=>by
  cases vs with
  | nil=>simp [decT] at h
  | cons v vs =>
   simp only [decT] at h
   split at h
   rotate_left
   ·cases h
   rename_i a b h1 h2
   cases h
   rw [Tup.cells,Qty h1,Qlp h2,Qi6,Qi9]
theorem QKs {s:Sh} {v:TV} {x:s.den} (h:s.dec v=some x):v=s.val x:=by
 cases s with
 | c t=>exact Qty h
 | a ts =>
  cases v with
  | a cs=>exact congrArg TV.a (Qlp h)
  | _=>simp [Sh.dec] at h
 | b ts =>
  cases v with
  | bx cs=>exact congrArg TV.bx (Qlp h)
  | _=>simp [Sh.dec] at h
 | o e ts =>
  cases v with
  | ow e' ts' es =>
   simp only [Sh.dec] at h
   split at h
   ·rename_i q
    have q':=CT.beqL_eq _ _ q
    subst q'
    cases hb:Nat.beq e' e with
    | false=>rw [hb] at h;cases h
    | true =>
     rw [hb] at h
     cases h
     have:=Nat.eq_of_beq_eq_true hb
     subst this
     rfl
   ·cases h
  | _=>simp [Sh.dec] at h
theorem QC5:∀ {ss:List Sh} {vs:List TV} {x:DenL ss},decL ss vs=some x→vs=valL ss x
 | [],vs,x,h=>by
  cases vs with
  | nil=>rfl
  | cons v vs=>simp [decL] at h
 | s::ss,vs,x,h=>by
  cases vs with
  | nil=>simp [decL] at h
  | cons v vs =>
   simp only [decL] at h
   split at h
   rotate_left
   ·cases h
   rename_i a b h1 h2
   cases h
   rw [valL,QKs h1,QC5 h2]
def Qk (f:FuncId) (sg:List Sh) (g:DenL sg→Option Prop × TRes):TRow:=⟨f,sg,fun vs=>match decL sg vs with
 | some x=>some (g x)
 | none=>none⟩
theorem Qn {P:Program} {f:FuncId} {sg:List Sh} {g:DenL sg→Option Prop × TRes} (h:∀ x:DenL sg,holds (g x).1→TCon P f (valL sg x) (g x).2):Ql P (Qk f sg g):=by
 intro vs pre r hf hr hp
 simp only [Qk] at hr
 split at hr
 ·rename_i x hx
  rw [QC5 hx]
  cases hg:g x with
  | mk p r' =>
   rw [hg] at hr
   cases hr
   have:=h x
   rw [hg] at this
   exact this hp
 ·cases hr
theorem Qva {P:Program} {Γ:List TRow} {f:FuncId} {tc:TCode} {rs:List (ARv × Md)} {n nb no:Nat} {xs:List TV} {r:TRes} {sg:List Sh} (hm:P.follows .mixedOrders=true) (hΓ:TOk P Γ) (hs:Qeq P f=some (tc.er,rs.map Prod.fst,n))
  (hfit:YD sg xs=true) (hN:Nat.ble xs.length n=true) (hnl:tbxs xs=nb) (hno:tows xs=no) (h:Hold (tawp Γ (nb+no) tc (TQ nb no rs (fun r'=>r'=r)) (Qi xs))):TCon P f xs r:=by
 subst hnl
 subst hno
 exact QUy hm hΓ hs hfit (Nat.le_of_ble_eq_true hN) h.h
theorem Qb2 {Γ:List TRow} {nl:Nat}:∀ (c:TCode) {Q:Qb} {σ:TSt},tawp Γ nl c Q σ→∃ e σ',Q e σ'∧tawp Γ nl c (fun e' s'=>e'=e∧s'=σ') σ
 | .skip,Q,σ,h=>⟨_,_,h,rfl,rfl⟩
 | .exit id,Q,σ,h=>⟨_,_,h,rfl,rfl⟩
 | .ret,Q,σ,h=>⟨_,_,h,rfl,rfl⟩
 | .reg ss,Q,σ,h=>by
  simp only [tawp] at h ⊢
  split at h
  ·rw [QbF] at h;exact ⟨_,_,h.2,by rw [QbF];exact ⟨h.1,rfl,rfl⟩⟩
  ·exact h.elim
 | .draw ss U,Q,σ,h=>by
  simp only [tawp] at h ⊢
  split at h
  ·split at h
   ·rw [QbF] at h;exact ⟨_,_,h.2,by rw [QbF];exact ⟨h.1,rfl,rfl⟩⟩
   ·exact h.elim
  ·exact h.elim
 | .cond c x y,Q,σ,h=>by
  simp only [tawp] at h ⊢
  split at h
  ·rename_i t _
   cases t with
   | true =>
    obtain ⟨e,s,h1,h2⟩:=Qb2 x (h.1 rfl)
    exact ⟨e,s,h1,fun _=>h2,fun h=>by cases h⟩
   | false =>
    obtain ⟨e,s,h1,h2⟩:=Qb2 y (h.2 rfl)
    exact ⟨e,s,h1,(fun h=>by cases h),fun _=>h2⟩
  ·exact h.elim
 | .seq x y,Q,σ,h=>by
  simp only [tawp] at h ⊢
  obtain ⟨e,s,h1,h2⟩:=Qb2 x h
  cases e with
  | normal =>
   obtain ⟨e',s',h3,h4⟩:=Qb2 y (show tawp Γ nl y Q s from h1)
   exact ⟨e',s',h3,Y2 x (fun e0 s0 hq=>by obtain ⟨rfl,rfl⟩:=hq;exact h4) h2⟩
  | exit id=>exact ⟨_,_,h1,Y2 x (fun e0 s0 hq=>by obtain ⟨rfl,rfl⟩:=hq;exact ⟨rfl,rfl⟩) h2⟩
  | ret=>exact ⟨_,_,h1,Y2 x (fun e0 s0 hq=>by obtain ⟨rfl,rfl⟩:=hq;exact ⟨rfl,rfl⟩) h2⟩
 | .block id x,Q,σ,h=>by
  simp only [tawp] at h ⊢
  obtain ⟨e,s,h1,h2⟩:=Qb2 x h
  cases e with
  | normal=>exact ⟨_,_,h1,Y2 x (fun e0 s0 hq=>by obtain ⟨rfl,rfl⟩:=hq;exact ⟨rfl,rfl⟩) h2⟩
  | exit id' =>
   cases hb:Nat.beq id' id with
   | true =>
    simp only [Qblk,hb,cond_true] at h1
    exact ⟨_,_,h1,Y2 x (fun e0 s0 hq=>by obtain ⟨rfl,rfl⟩:=hq;simp [Qblk,hb]) h2⟩
   | false =>
    simp only [Qblk,hb,cond_false] at h1
    exact ⟨_,_,h1,Y2 x (fun e0 s0 hq=>by obtain ⟨rfl,rfl⟩:=hq;simp [Qblk,hb]) h2⟩
  | ret=>exact ⟨_,_,h1,Y2 x (fun e0 s0 hq=>by obtain ⟨rfl,rfl⟩:=hq;exact ⟨rfl,rfl⟩) h2⟩
 | .wk L x,Q,σ,h=>by
  simp only [tawp] at h ⊢
  exact Qb2 x h
 | .loop L x,Q,σ,h=>by
  simp only [tawp] at h ⊢
  refine h (fun s=>∃ e σ',Q e σ'∧Lfp (fun R s=>tawp Γ nl x (Qseq (fun s'=>R (gc nl L s')) fun e' s'=>e'=e∧s'=σ') s) s) (fun s hs=>?_)
  obtain ⟨e,s1,h1,h2⟩:=Qb2 x hs
  cases e with
  | normal =>
   obtain ⟨e',s',h3,h4⟩:=(show ∃ e σ',Q e σ'∧Lfp (fun R s=>tawp Γ nl x (Qseq (fun s'=>R (gc nl L s')) fun e' s'=>e'=e∧s'=σ') s) (gc nl L s1) from h1)
   exact ⟨e',s',h3,QhQ (Y2 x (fun e0 s0 hq=>by obtain ⟨rfl,rfl⟩:=hq;exact h4) h2)⟩
  | exit id=>exact ⟨_,_,h1,QhQ (Y2 x (fun e0 s0 hq=>by obtain ⟨rfl,rfl⟩:=hq;exact ⟨rfl,rfl⟩) h2)⟩
  | ret=>exact ⟨_,_,h1,QhQ (Y2 x (fun e0 s0 hq=>by obtain ⟨rfl,rfl⟩:=hq;exact ⟨rfl,rfl⟩) h2)⟩
theorem QNH {P:Program} {Γ:List TRow} {f:FuncId} {tc:TCode} {rs:List (ARv × Md)} {n nb no:Nat} {xs:List TV} {K:TRes→Prop} {sg:List Sh} (hm:P.follows .mixedOrders=true) (hΓ:TOk P Γ) (hs:Qeq P f=some (tc.er,rs.map Prod.fst,n))
  (hfit:YD sg xs=true) (hN:Nat.ble xs.length n=true) (hnl:tbxs xs=nb) (hno:tows xs=no) (h:Hold (tawp Γ (nb+no) tc (TQ nb no rs K) (Qi xs))):∃ r,K r∧TCon P f xs r:=by
 obtain ⟨e,s,h1,h2⟩:=Qb2 tc h.h
 have key:∃ r,K r∧TQ nb no rs (fun r'=>r'=r) e s:=by
  cases e with
  | exit id=>exact h1.elim
  | normal =>
   simp only [TQ] at h1 ⊢
   split at h1
   ·exact ⟨_,h1,rfl⟩
   ·exact h1.elim
  | ret =>
   simp only [TQ] at h1 ⊢
   split at h1
   ·exact ⟨_,h1,rfl⟩
   ·exact h1.elim
 obtain ⟨r,h3,h4⟩:=key
 exact ⟨r,h3,Qva hm hΓ hs hfit hN hnl hno ⟨Y2 tc (fun e0 s0 hq=>by obtain ⟨rfl,rfl⟩:=hq;exact h4) h2⟩⟩
theorem Y8 {P:Program} {f:FuncId} {xs:List TV} {α:Type} {p:α→Prop} {R:α→TRes} (h:∃ r,(∃ t,p t∧r=R t)∧TCon P f xs r):∃ t,p t∧TCon P f xs (R t):=by
 obtain ⟨_,⟨t,h1,rfl⟩,h2⟩:=h
 exact ⟨t,h1,h2⟩
theorem Qm:Tryz.prog.follows .mixedOrders=true:=by kernel_rfl
end Go.Proofs.YtjbdljkhbglnhaaGreat.Am
namespace Go.Proofs.YtjbdljkhbglnhaaGreat.Am
open Go Go.RowKit Go.Proofs.YtjbdljkhbglnhaaGreat
theorem Qp {x:Int} (h1:-9223372036854775808≤x) (h2:x<9223372036854775808):w64 x=x:=IntWalk.i64_in x (by omega)
theorem Yb {α:Type} {l r:List α} {x:α} {k:Nat} (h:l.drop k=x::r) (d:α):gtd d l k=x:=by
 unfold gtd
 have:l[k]? = some x:=by
  have:=congrArg List.head? h
  simpa [List.head?_drop] using this
 rw [List.getD_eq_getElem?_getD,this];rfl
theorem Qfh {α:Type} {l r:List α} {x:α} {k:Nat} (h:l.drop k=x::r):k<l.length:=by
 apply Classical.byContradiction
 intro hn
 rw [List.drop_eq_nil_of_le (by omega)] at h
 cases h
theorem ZX {α:Type} {l r:List α} {x:α} {k:Nat} (h:l.drop k=x::r):l.drop (k+1)=r:=by
 have:=congrArg List.tail h
 simpa [List.tail_drop] using this
theorem Zj {α:Type} (l:List α) (P:List α→Nat→Prop) (h0:P [] l.length) (hs:∀ (k:Nat) (x:α) (r:List α),l.drop k=x::r→k<l.length→(∀ d,gtd d l k=x)→P r (k+1)→P (x::r) k):P l 0:=by
 suffices ∀ (r:List α) (k:Nat),l.drop k=r→k≤l.length→P r k from this l 0 rfl (Nat.zero_le _)
 intro r
 induction r with
 | nil =>
  intro k hk hle
  have:l.length≤k:=by simpa using hk
  rw [show k=l.length by omega]
  exact h0
 | cons x r ih =>
  intro k hk hle
  have hlt:=Qfh hk
  exact hs k x r hk hlt (Yb hk) (ih (k+1) (ZX hk) hlt)
theorem JH (n:Nat) (P:Nat→Prop) (h0:P n) (hs:∀ k,k<n→P (k+1)→P k):P 0:=by
 suffices ∀ j k,k+j=n→P k from this n 0 (by omega)
 intro j
 induction j with
 | zero=>intro k hk;rw [show k=n by omega];exact h0
 | succ j ih=>intro k hk;exact hs k (by omega) (ih (k+1) (by omega))
class Sz (α:Type) where
 sz:α→Nat
instance:Sz Int:=⟨fun _=>0⟩
instance:Sz Bool:=⟨fun _=>0⟩
instance:Sz ByteArray:=⟨fun _=>0⟩
instance {α β:Type} [Sz α] [Sz β]:Sz (α × β):=⟨fun x=>Sz.sz x.1+Sz.sz x.2⟩
def szL {α:Type} [Sz α]:List α→Nat
 | []=>0
 | x::r=>1+Sz.sz x+szL r
instance {α:Type} [Sz α]:Sz (List α):=⟨szL⟩
open Sz
@[simp] theorem ZF (x:Int):sz x=0:=rfl
@[simp] theorem J0 (x:Bool):sz x=0:=rfl
@[simp] theorem QaC {α β:Type} [Sz α] [Sz β] (x:α) (y:β):sz (x,y)=sz x+sz y:=rfl
theorem ZO {α β:Type} [Sz α] [Sz β] (x:α × β):sz x=sz x.1+sz x.2:=rfl
@[simp] theorem QYi {α:Type} [Sz α]:sz ([]:List α)=0:=rfl
@[simp] theorem JD {α:Type} [Sz α] (x:α) (r:List α):sz (x::r)=1+sz x+sz r:=rfl
@[simp] theorem Qea {α:Type} [Sz α] (l r:List α):sz (l++r)=sz l+sz r:=by
 induction l with
 | nil=>simp
 | cons x l ih=>simp [ih];omega
theorem YW {α:Type} [Sz α] (l:List α):l.length≤sz l:=by
 induction l with
 | nil=>simp
 | cons x l ih=>simp;omega
theorem ZN (l:List Int):sz l=l.length:=by
 induction l with
 | nil=>rfl
 | cons x l ih=>simp [ih];omega
theorem Qe6 {α:Type} [Sz α] {l:List α} {x:α} (h:x∈l):sz x<sz l:=by
 induction l with
 | nil=>cases h
 | cons y l ih =>
  rcases List.mem_cons.1 h with rfl | h
  ·simp;omega
  ·have:=ih h;simp;omega
theorem QeM {α:Type} [Sz α] {l r:List α} {x:α} {k:Nat} (h:l.drop k=x::r):sz x<sz l:=Qe6 (List.mem_of_mem_drop (by rw [h];exact List.mem_cons_self))
theorem QlR {α:Type} [Sz α] (l:List α) (k:Nat):sz (l.take k)+sz (l.drop k)=sz l:=by
 rw [← Qea,List.take_append_drop]
theorem Qh0 {α:Type} [Sz α] (l:List α) (k:Nat):sz (l.take k)≤sz l:=by have:=QlR l k;omega
theorem QxZ {α:Type} [Sz α] (l:List α) (k:Nat):sz (l.drop k)≤sz l:=by have:=QlR l k;omega
theorem Q9:(big:Nat)=4294967296:=rfl
theorem bigI:((big:Nat):Int)=4294967296:=rfl
theorem R_eq {α:Type} {R:α→TRes} {x y:α} (h:x=y):R x=R y:=by rw [h]
end Go.Proofs.YtjbdljkhbglnhaaGreat.Am
namespace Go.Proofs.YtjbdljkhbglnhaaGreat.Am
open Go Go.RowKit
instance (n:Nat):OfNat TOpd n:=⟨.s n⟩
abbrev zci (n:Int):TV:=.c TI n
abbrev zcb (b:Bool):TV:=.c .bool b
abbrev zcs (ts:List CT) (x:List (Tup ts)):TV:=.c (.sl ts) x
def zki (n:Int):TOpd:=.k (.c TI n)
def zkb (b:Bool):TOpd:=.k (.c .bool b)
def zop (d:Nat) (x:TOp):TStm:=.op (some d) x
def zmv (d:Nat) (x:TOpd):TStm:=.op (some d) (.mov x)
def zld (d:Nat) (x:TOpd) (n:Nat):TStm:=.op (some d) (.load x n false)
def zLd (d:Nat) (x:TOpd) (n:Nat):TStm:=.op (some d) (.load x n true)
def zfa (d:Nat) (x:TOpd) (o:Nat):TStm:=.op (some d) (.fad x o)
def zle (d:Nat) (x:TOpd):TStm:=.op (some d) (.len x)
def zbi (d:Nat) (o:BinOp) (x y:TOpd):TStm:=.op (some d) (.bin o x y)
def zst (x v:TOpd) (n:Nat):TStm:=.op none (.store x v n)
def zca (d:Nat) (f:FuncId) (l:List TOpd):TStm:=.op (some d) (.call f l)
def zia (d:Nat) (x i:TOpd) (ts:List CT):TStm:=.op (some d) (.iad x i ts)
def zno (d:Nat) (x:TOpd):TStm:=.op (some d) (.not x)
def zex (d:Nat) (x:TOpd) (i:Nat):TStm:=.op (some d) (.ext x i)
def zsq:List TCode→TCode
 | []=>.skip
 | [x]=>x
 | x::y::r=>.seq x (zsq (y::r))
def z01:CT→TV
 | .int k=>.c (.int k) (0:Int)
 | .bool=>.c .bool false
 | .str=>.c .str ⟨#[]⟩
 | .nilp=>.c .nilp ()
 | .sl ts=>.n ts
def z0s:List CT→List TV
 | []=>[]
 | t::ts=>z01 t::z0s ts
abbrev zif (c:Bool) (A B:Prop):Prop:=(c=true→A)∧(c=false→B)
def zdl (l:List Nat):List (Nat × Md):=l.map fun i=>(i,.one .d)
def zds (n:Nat):List Md1:=List.replicate n .d
@[reducible] def zre (v:TV):TRes:=⟨v,[],[],false,[]⟩
@[reducible] def zra (v:TV):TRes:=⟨v,[],[],true,[]⟩
theorem tcg {P:Program} {Γ:List TRow} {f:FuncId} {tc:TCode} {rs:List (ARv × Md)} {n nb no:Nat} {xs:List TV} {r:TRes} {sg:List Sh} (hm:P.follows .mixedOrders=true) (hΓ:TOk P Γ) (hs:Qeq P f=some (tc.er,rs.map Prod.fst,n))
  (hq:((YD sg xs&&Nat.ble xs.length n)&&(Nat.beq (tbxs xs) nb&&Nat.beq (tows xs) no))=true) (h:Hold (tawp Γ (nb+no) tc (TQ nb no rs (fun r'=>r'=r)) (Qi xs))):TCon P f xs r:=by
 simp only [Bool.and_eq_true] at hq
 exact Qva hm hΓ hs hq.1.1 hq.1.2 (Nat.eq_of_beq_eq_true hq.2.1) (Nat.eq_of_beq_eq_true hq.2.2) h
theorem tcx {P:Program} {Γ:List TRow} {f:FuncId} {tc:TCode} {rs:List (ARv × Md)} {n nb no:Nat} {xs:List TV} {K:TRes→Prop} {sg:List Sh} (hm:P.follows .mixedOrders=true) (hΓ:TOk P Γ) (hs:Qeq P f=some (tc.er,rs.map Prod.fst,n))
  (hq:((YD sg xs&&Nat.ble xs.length n)&&(Nat.beq (tbxs xs) nb&&Nat.beq (tows xs) no))=true) (h:Hold (tawp Γ (nb+no) tc (TQ nb no rs K) (Qi xs))):∃ r,K r∧TCon P f xs r:=by
 simp only [Bool.and_eq_true] at hq
 exact QNH hm hΓ hs hq.1.1 hq.1.2 (Nat.eq_of_beq_eq_true hq.2.1) (Nat.eq_of_beq_eq_true hq.2.2) h
end Go.Proofs.YtjbdljkhbglnhaaGreat.Am
namespace Go.Proofs.YtjbdljkhbglnhaaGreat.Am
open Sz
abbrev TIns:=Int × Int
abbrev Za:=Int × List Int
abbrev TOp':=Int × Int × Int × List Int
abbrev ZD:=Int × List (List Int)
abbrev Qy:=List Int × List Int
abbrev Qd:=Int × List Za
abbrev Q1:=List (List Int) × Int × Bool
def QfQ {α:Type} (_:α):Bool:=true
def pl (left:Int):Prop:=-1≤left∧left≤1048576
def m_eq {α:Type} [DecidableEq α] (x y:α):Bool:=decide (x=y)
def m_in (x a b:Int):Bool:=decide (a≤x)&&decide (x≤b)
def Zb (x:Int):Bool:=decide (-2147483647≤x)&&decide (x≤2147483647)
def Zz (v:List Int):Bool:=v.all Zb
def QJ (v:List Int):Bool:=m_in v.length 1 6&&Zz v
def Yy (x:Za):Bool:=QJ x.2&&decide (0≤x.1)&&decide (x.1<5)
def Q3 (q:Qd):Bool:=decide (1≤q.1)&&decide (q.1≤5)&&decide ((q.2.length:Int)≤q.1)&&q.2.all Yy
end Go.Proofs.YtjbdljkhbglnhaaGreat.Am
namespace Go.Proofs.YtjbdljkhbglnhaaGreat.Am
open Go Sz
abbrev Zf:=List TOp'
abbrev Qc:=Int × List TIns × List TOp' × Bool × Bool × List ZD × List (List Int) × List Int × List Int × List Int × List Int × List (List Int) × Int × Bool
abbrev QM:=List TOp' × List Int × Int × List Bool × List Int × List Int
abbrev Qe:=List Qy × List Qc × List Qd × List Qd
abbrev TMat:=Int × Int × List Int
abbrev dOp:TOp':=(0,0,0,[])
abbrev dIns:TIns:=(0,0)
abbrev Zp:ZD:=(0,[])
abbrev QX:Qy:=([],[])
abbrev Qw:Qd:=(0,[])
abbrev QH:Qc:=(0,[],[],false,false,[],[],[],[],[],[],[],0,false)
abbrev QR:List CT:=[.int .i64,.int .i64]
abbrev QN:List CT:=[.int .i64,.sl [.int .i64]]
abbrev ctOp:List CT:=[.int .i64,.int .i64,.int .i64,.sl [.int .i64]]
abbrev QW:List CT:=[.int .i64,.sl [.sl [.int .i64]]]
abbrev QK:List CT:=[.sl [.int .i64],.sl [.int .i64]]
abbrev Qh:List CT:=[.int .i64,.sl QN]
abbrev Zg:List CT:=[.sl [.sl [.int .i64]],.int .i64,.bool]
abbrev Qg:List CT:=[.int .i64,.sl QR,.sl ctOp,.bool,.bool,.sl QW,.sl [.sl [.int .i64]],.sl [.int .i64],.sl [.int .i64],.sl [.int .i64],.sl [.int .i64],.sl [.sl [.int .i64]],.int .i64,.bool]
abbrev ZW:List CT:=[.sl ctOp,.sl [.int .i64],.int .i64,.sl [.bool],.sl [.int .i64],.sl [.int .i64]]
abbrev QE:List CT:=[.sl QK,.sl Qg,.sl Qh,.sl Qh]
set_option synthInstance.maxSize 2000
set_option synthInstance.maxHeartbeats 200000
instance:DecidableEq TOp':=inferInstance
instance:DecidableEq ZD:=inferInstance
instance:DecidableEq Qd:=inferInstance
abbrev TSt4:=List Int × List Int × List Int × List Int × Q1
abbrev TSt3:=List ZD × List (List Int) × TSt4
abbrev TSt2:=List TOp' × Bool × Bool × TSt3
instance:DecidableEq Q1:=inferInstance
instance:DecidableEq TSt4:=inferInstance
instance:DecidableEq TSt3:=inferInstance
instance:DecidableEq TSt2:=inferInstance
instance:DecidableEq Qc:=(inferInstance:DecidableEq (Int × List TIns × TSt2))
instance:DecidableEq QM:=inferInstance
instance:DecidableEq Qe:=inferInstance
instance:Sz Qc:=inferInstance
instance:Sz QM:=inferInstance
instance:Sz Qe:=inferInstance
abbrev sPc (s:Qc):=s.1
abbrev Qz (s:Qc):=s.2.1
abbrev sOps (s:Qc):=s.2.2.1
abbrev Qq (s:Qc):=s.2.2.2.1
abbrev Qv (s:Qc):=s.2.2.2.2.1
abbrev Qf (s:Qc):=s.2.2.2.2.2.1
abbrev QD (s:Qc):=s.2.2.2.2.2.2.1
abbrev sX (s:Qc):=s.2.2.2.2.2.2.2.1
abbrev sY (s:Qc):=s.2.2.2.2.2.2.2.2.1
abbrev sG (s:Qc):=s.2.2.2.2.2.2.2.2.2.1
abbrev sD (s:Qc):=s.2.2.2.2.2.2.2.2.2.2.1
abbrev QC (s:Qc):=s.2.2.2.2.2.2.2.2.2.2.2.1
abbrev QB (s:Qc):=s.2.2.2.2.2.2.2.2.2.2.2.2.1
abbrev sSat (s:Qc):=s.2.2.2.2.2.2.2.2.2.2.2.2.2
abbrev sSum (s:Qc):Q1:=(QC s,QB s,sSat s)
abbrev ZU (c:QM):=c.1
abbrev Zv (c:QM):=c.2.1
abbrev cDs (c:QM):=c.2.2.1
abbrev J5 (c:QM):=c.2.2.2.1
abbrev JK (c:QM):=c.2.2.2.2.1
abbrev QiH (c:QM):=c.2.2.2.2.2
abbrev QF (p:Qe):=p.1
abbrev QI (p:Qe):=p.2.1
abbrev Qt (p:Qe):=p.2.2.1
abbrev Qu (p:Qe):=p.2.2.2
abbrev ZQ (s:Qc):Zf:=s.2.2.1
def Qr (v:List Int) (n:Int):Bool:=QJ v&&((v.length:Int)==n)
def Yn (v:List Int) (n:Int):Bool:=((v.length:Int)==0)||Qr v n
def Jz:List ZD→Int→Int→Int
 | [],_,_=>-1
 | x::r,m,k=>if x.1=m then k else Jz r m (k+1)
def QL (l:List ZD) (m:Int):Int:=Jz l m 0
def Yc (o:TOp'):Int :=
 if m_in o.2.1 1 6&&m_in o.2.2.1 1 6 then (if o.1=1∨o.1=5 then o.2.1*o.2.2.1 else if o.1=2 then o.2.1 else if o.1=4 then 1 else 0) else 0
def Zd (o:TOp'):Bool :=
 m_in o.1 1 5&&m_in o.2.1 1 6&&m_in o.2.2.1 1 6&&(o.1==1||o.2.1==o.2.2.1)&&((o.2.2.2.length:Int)==Yc o)&&Zz o.2.2.2
def Yt:Option Int→List TOp'→Bool
 | _,[]=>true
 | p,o::r=>Zd o&&(match p with | none=>true | some q=>q==o.2.1)&&Yt (some o.2.2.1) r
def QT (m:Zf):Bool:=m_in m.length 1 8&&Yt none m
def Q6 (m:Zf):Int:=if QT m then (gtd dOp m 0).2.1 else 0
def Q5 (m:Zf):Int:=if QT m then (gtd dOp m (m.length-1)).2.2.1 else 0
def JS (m:Zf) (p:Qy):Bool:=QT m&&Qr p.1 (Q6 m)&&Qr p.2 (Q5 m)
def YL (m:Zf) (b:List Qy):Bool:=QT m&&m_in b.length 1 5&&b.all (JS m)
def YC (n:Int):Option Int→List Int→Bool
 | _,[]=>true
 | p,c::r=>m_in c 1 n&&(match p with | none=>true | some q=>decide (q<c))&&YC n (some c) r
def Zy (m:Zf) (cuts:List Int):Bool:=QT m&&YC (m.length-1) none cuts
def QV (m:Zf) (cuts:List Int) (s:Int):Int × Int :=
 if Zy m cuts&&m_in s 0 cuts.length then (if 0<s then gtd 0 cuts (s.toNat-1) else 0,if s<cuts.length then gtd 0 cuts s.toNat else m.length) else (0,0)
def slice {α:Type} (l:List α) (a b:Int):List α:=(l.drop a.toNat).take (b.toNat-a.toNat)
def QZ (c:QM):Int:=if Zy c.1 c.2.1 then w64 (c.2.1.length+1) else 0
def Yv (c:QM) (s:Int):Int :=
 let r:=QV c.1 c.2.1 s
 w64 (((slice c.1 r.1 r.2).map fun o=>o.2.1).sum+if r.1<r.2 then (gtd dOp c.1 (r.2.toNat-1)).2.2.1 else 0)
def Ju (c:QM) (s:Int):Bool:=decide (0≤s)&&decide (s<c.2.2.2.1.length)&&gtd false c.2.2.2.1 s.toNat
def Yo (c:QM) (s:Int):Int × Int :=
 let r:=QV c.1 c.2.1 s
 if r.1=r.2 then (0,0) else ((gtd dOp c.1 r.1.toNat).2.1,(gtd dOp c.1 (r.2.toNat-1)).2.2.1)
def YR (c:QM) (s:Int):Int:=if Ju c s then (Yo c s).1 else Yv c s
def iMin (a b:Int):Int:=if b<a then b else a
def iMax (a b:Int):Int:=if a<b then b else a
def Yp (c:QM) (s micro:Int):Int :=
 if m_in s 0 (QZ c-1)&&m_in micro 1 5&&decide (QZ c≤4) then
  (let k:=if c.2.2.1=2 then iMin micro (QZ c-s) else micro
   let z:=Yo c s
   w64 (w64 (w64 (k*YR c s)+iMax z.1 z.2)+if Ju c s then Yv c s else 0))
 else 0
def Qaj (c:QM):Bool:=(c.2.2.2.2.1.length==c.2.1.length)&&c.2.2.2.2.1.all fun n=>m_in n 1 5
def QbM (c:QM) (micro:Int):List Int→Int→Bool
 | [],_=>true
 | n::r,s=>m_in n (Yp c s micro) 100000&&QbM c micro r (s+1)
def Qbn (c:QM) (micro:Int):Bool:=((c.2.2.2.2.2.length:Int)==QZ c)&&QbM c micro c.2.2.2.2.2 0
def Yd (c:QM) (b:List Qy):Int :=
 if !QT c.1 then 1 else if !YL c.1 b then 2 else if QZ c=0∨4<QZ c then 3 else if !m_in c.2.2.1 1 2 then 4
 else if (c.2.2.2.1.length:Int)≠QZ c then 5 else if !Qaj c then 6 else if !Qbn c b.length then 7 else 0
def Y7 (st s mi:Int):Bool:=m_in st 1 4&&m_in s 0 (st-1)&&m_in mi 1 5
def YJ (ds st s mi:Int):Int:=if Y7 st s mi then (if ds=2 then iMin mi (st-1-s) else mi) else 0
def QaM (st s m:Int):List TIns:=(if 0<s then [(1,m)] else [])++[(2,m)]++(if s<st-1 then [(3,m)] else [])
def QdA (st s m:Int) (redo:Bool):List TIns:=(if s<st-1 then [(4,m)] else [])++(if redo then [(5,m)] else [])++[(6,m)]++(if 0<s then [(7,m)] else [])
def YA (ds st s mi:Int) (redo:Bool):List TIns :=
 if m_in ds 1 2&&Y7 st s mi then
  (let w:=(YJ ds st s mi).toNat
   ((List.range w).flatMap fun m:Nat=>QaM st s (m:Int))++((List.range mi.toNat).flatMap fun m:Nat=>(if (m:Int)+w<mi then QaM st s ((m:Int)+w) else [])++QdA st s (m:Int) redo)++[(8,0)])
 else []
def Z1:List TOp'→List (List Int)→Bool
 | o::os,r::rs=>(r.length==o.2.2.2.length)&&Z1 os rs
 | _,_=>true
def Jg (m:Zf) (rows:List (List Int)):Bool:=(rows.length==m.length)&&Z1 m rows
def Jh (ops:List TOp') (k:Nat):Int:=if k<ops.length then (gtd dOp ops k).2.1 else (gtd dOp ops (ops.length-1)).2.2.1
def Yh (ops:List TOp'):Nat→List (List Int)→Bool
 | _,[]=>true
 | k,r::rs=>Qr r (Jh ops k)&&Yh ops (k+1) rs
def Yg (ops:List TOp') (rows:List (List Int)) (n:Int):Bool:=Yh ops 0 (rows.take n.toNat)
def Qkr (ops:List TOp') (rows:List (List Int)) (n:Int):Prop:=1≤ops.length∧0≤n∧n≤rows.length
def Z4 (s:Qc):Int:=if s.2.2.2.2.1 then 1 else s.2.2.1.length+1
def YO (s:Qc) (x:ZD):Bool:=((x.2.length:Int)==Z4 s)&&Yg s.2.2.1 x.2 (Z4 s)
def QS (s:Qc):Bool :=
 QT s.2.2.1&&m_in s.1 0 s.2.1.length&&Jg s.2.2.1 s.2.2.2.2.2.2.2.2.2.2.2.1&&s.2.2.2.2.2.1.all (YO s) &&
  (Yn s.2.2.2.2.2.2.2.1 (Q6 s.2.2.1)&&Yn s.2.2.2.2.2.2.2.2.2.2.1 (Q6 s.2.2.1)&&Yn s.2.2.2.2.2.2.2.2.1 (Q5 s.2.2.1)&&Yn s.2.2.2.2.2.2.2.2.2.1 (Q5 s.2.2.1))
def Qb9 (s:Qc):TIns:=if m_in s.1 0 (s.2.1.length-1) then gtd dIns s.2.1 s.1.toNat else (0,0)
def Qj (p:Qe) (s:Int):TIns:=if m_in s 0 (p.2.1.length-1) then Qb9 (gtd QH p.2.1 s.toNat) else (0,0)
def JF (x:Qy):Bool:=QJ x.1&&QJ x.2
def Jx (nb:Int):List Qc→Bool
 | []=>true
 | s::r=>QS s&&(s.2.2.2.1==decide (r.length=0))&&s.2.1.all (fun x=>m_in x.2 0 (nb-1))&&Jx nb r
def Zk (p:Qe):Bool :=
 m_in p.2.1.length 1 4&&(p.2.2.1.length+1==p.2.1.length)&&(p.2.2.2.length+1==p.2.1.length)&&m_in p.1.length 1 5 &&
  (p.1.all JF&&(p.2.2.1.all Q3&&p.2.2.2.all Q3)&&Jx p.1.length p.2.1)
def QaR (q:Qd):Bool:=decide ((q.2.length:Int)<q.1)
def Jw (s:Qc):Bool:=decide ((s.2.1.length:Int)-1≤s.1)
def J6 (p:Qe):Bool:=p.2.1.all Jw
def JI (p:Qe) (s kind:Int):Bool :=
 let n:Int:=p.2.1.length
 if kind=1 then decide (0<s)&&decide (0<(gtd Qw p.2.2.1 (s.toNat-1)).2.length)
 else if kind=3 then decide (s<n-1)&&QaR (gtd Qw p.2.2.1 s.toNat)
 else if kind=4 then decide (s<n-1)&&decide (0<(gtd Qw p.2.2.2 s.toNat).2.length)
 else if kind=7 then decide (0<s)&&QaR (gtd Qw p.2.2.2 (s.toNat-1))
 else if kind=2∨kind=5∨kind=6 then true
 else if kind=8 then J6 p else false
def ZV (p:Qe) (s:Int):Bool:=Zk p&&m_in s 0 (p.2.1.length-1)&&JI p s (Qj p s).1
end Go.Proofs.YtjbdljkhbglnhaaGreat.Am
namespace Go.Proofs.YtjbdljkhbglnhaaGreat.Am
open Go Sz
theorem QEf {α:Type} [Sz α] (l:List α) (h:∀ x:α,sz x=0):sz l=l.length:=by
 induction l with
 | nil=>rfl
 | cons x l ih=>simp [ih,h];omega
theorem QC6 {α:Type} [DecidableEq α] (d:α) {a b:List α} {Q:Bool→Prop} {A:Int→Prop} {E:α→α→Bool} (hE:∀ x y,E x y=decide (x=y)) (hb:a.length≤9223372036854775807)
  (hA:∀ (i:Int),((decide (i<(a.length:Int))=true→((((0:Int)≤i∧Int.toNat i<a.length)∧((0:Int)≤i∧Int.toNat i<b.length))∧(((!(E (gtd d a (Int.toNat i)) (gtd d b (Int.toNat i))))=true→Q false)∧((!(E (gtd d a (Int.toNat i)) (gtd d b (Int.toNat i))))=false→A (w64 (i+(1:Int)))))))∧(decide (i<(a.length:Int))=false→Q true))→A i)
  (hq:Q (m_eq a b)):((((a.length:Int) != (b.length:Int))=true→Q false)∧(((a.length:Int) != (b.length:Int))=false→A 0)):=by
 constructor
 ·intro h
  have:a≠b:=by rintro rfl;simp at h
  simpa [m_eq,this] using hq
 ·intro h
  have hl:a.length=b.length:=by
   have h:((a.length:Int)==(b.length:Int))=true:=by simpa [bne] using h
   have:=of_decide_eq_true (by simpa using h:decide ((a.length:Int)=b.length)=true)
   omega
  have key:m_eq (a.drop 0) (b.drop 0)=m_eq a b→A (0:Nat):=by
   refine Zj a (fun r k=>m_eq r (b.drop k)=m_eq a b→A k) ?_ ?_
   ·intro he
    refine hA _ ⟨fun hc=>by simp at hc,fun _=>?_⟩
    rw [← he] at hq
    simpa [m_eq,hl] using hq
   ·intro k x r hk hlt hg ih he
    refine hA _ ⟨fun _=>?_,fun hc=>by simp at hc;omega⟩
    obtain ⟨y,s,hbk⟩:∃ y s,b.drop k=y::s:=by
     cases hbk:b.drop k with
     | nil=>have:=congrArg List.length hbk;simp at this;omega
     | cons y s=>exact ⟨y,s,rfl⟩
    rw [Int.toNat_natCast,hg d,Yb hbk d,hE]
    refine ⟨⟨⟨by omega,hlt⟩,by omega,by omega⟩,fun h1=>?_,fun h1=>?_⟩
    ·have hne:x≠y:=by simpa using h1
     rw [← he,hbk] at hq
     simpa [m_eq,hne] using hq
    ·have hxy:x=y:=by simpa using h1
     rw [Qp (by omega) (by omega),show (k:Int)+1=(k+1:Nat) by omega]
     refine ih ?_
     rw [← he,hbk,ZX hbk]
     simp [m_eq,hxy]
  exact key rfl
theorem QVx {a b:List Int} {Q:Bool→Prop} {A:Int→Prop} (hb:a.length≤9223372036854775807)
  (hA:∀ (i:Int),((decide (i<(a.length:Int))=true→((((0:Int)≤i∧Int.toNat i<a.length)∧((0:Int)≤i∧Int.toNat i<b.length))∧((((gtd (0:Int) a (Int.toNat i)) != (gtd (0:Int) b (Int.toNat i)))=true→Q false)∧(((gtd (0:Int) a (Int.toNat i)) != (gtd (0:Int) b (Int.toNat i)))=false→A (w64 (i+(1:Int)))))))∧(decide (i<(a.length:Int))=false→Q true))→A i)
  (hq:Q (m_eq a b)):((((a.length:Int) != (b.length:Int))=true→Q false)∧(((a.length:Int) != (b.length:Int))=false→A 0)) :=
 QC6 (0:Int) (E:=fun x y=>x==y) (fun x y=>by rw [Bool.eq_iff_iff];simp) hb (fun i h=>hA i h) hq
theorem QbR {α:Type} (d:α) {l:List α} {c p:α→Bool} {Q:Bool→Prop} {A:Int→Prop} {e:Bool} (hb:l.length≤9223372036854775807) (hc:∀ x,c x = !p x)
  (hA:∀ (i:Int),((decide (i<(l.length:Int))=true→(((0:Int)≤i∧Int.toNat i<l.length)∧((c (gtd d l (Int.toNat i))=true→Q false)∧(c (gtd d l (Int.toNat i))=false→A (w64 (i+(1:Int)))))))∧(decide (i<(l.length:Int))=false→Q e))→A i)
  (hq:Q (l.all p&&e)):A 0:=by
 have key:(l.drop 0).all p=l.all p→A (0:Nat):=by
  refine Zj l (fun r k=>r.all p=l.all p→A k) ?_ ?_
  ·intro he
   refine hA _ ⟨fun h=>by simp at h,fun _=>?_⟩
   rw [← he] at hq
   simpa using hq
  ·intro k x r hk hlt hg ih he
   refine hA _ ⟨fun _=>?_,fun h=>by simp at h;omega⟩
   rw [Int.toNat_natCast,hg,Qp (by omega) (by omega)]
   refine ⟨⟨by omega,hlt⟩,fun h=>?_,fun h=>ih ?_⟩
   ·have hp:p x=false:=by simpa [hc] using h
    have:l.all p=false:=by rw [← he,List.all_cons,hp];rfl
    rw [this] at hq
    exact hq
   ·have hp:p x=true:=by simpa [hc] using h
    rw [← he,List.all_cons,hp]
    rfl
 exact key rfl
end Go.Proofs.YtjbdljkhbglnhaaGreat.Am

