/- -/
import Derived.Test.YtephkbajoofeoaaYDG5
import Derived.Test.YtephkbajoofeoaaProg
set_option linter.all false
namespace Go.Proofs.Ytephkbajoofeoaa.Am
open Go Go.RowKit Go.Proofs.Ytephkbajoofeoaa
abbrev TI:CT:=.int .i64
abbrev w64 (x:Int):Int:=IntKind.i64.wrap x
def Loop (Γ:List TRow) (nl:Nat) (L:List (Nat × Md)) (x:TCode) (Q:Qg) (s:TSt):Prop :=
 Lfp (fun R s=>tawp Γ nl x (Qseq (fun s'=>R (gc nl L s')) Q) s) s
theorem Qp9 {Γ:List TRow} {nl:Nat} {L:List (Nat × Md)} {x:TCode} {Q:Qg} {s:TSt}
  (h:tawp Γ nl x (Qseq (fun s'=>Loop Γ nl L x Q (gc nl L s')) Q) s):Loop Γ nl L x Q s:=Qbj h
structure Hold (p:Prop):Prop where
 h:p
theorem Hold.of {p F:Prop} (e:F=p) (h:F):Hold p:=⟨e ▸ h⟩
theorem Loop.of {Γ:List TRow} {nl:Nat} {L:List (Nat × Md)} {x:TCode} {Q:Qg} {s:TSt} {F:Prop}
  (e:F=tawp Γ nl x (Qseq (fun s'=>Loop Γ nl L x Q (gc nl L s')) Q) s) (h:F):Loop Γ nl L x Q s:=Qp9 (e ▸ h)
def gtd {α:Type} (d:α) (l:List α) (i:Nat):α:=l.getD i d
@[reducible] def Sh.den:Sh→Type
 | .c t=>t.den
 | .a ts=>Tup ts
 | .b ts=>Tup ts
 | .o _ ts=>List (Tup ts)
@[reducible] def DenL:List Sh→Type
 | []=>Unit
 | s::ss=>s.den × DenL ss
def Sh.val:(s:Sh)→s.den→TV
 | .c t,x=>.c t x
 | .a ts,x=>.a (Tup.cells ts x)
 | .b ts,x=>.bx (Tup.cells ts x)
 | .o e ts,x=>.ow e ts x
def valL:(ss:List Sh)→DenL ss→List TV
 | [],_=>[]
 | s::ss,x=>s.val x.1::valL ss x.2
def decD (t:CT):TV→Option t.den
 | .c t' x=>if e:t'.beq t=true then some (QaI e x) else none
 | _=>none
def decT:(ts:List CT)→List TV→Option (Tup ts)
 | [],xs=>match xs with
  | []=>some ()
  | _=>none
 | t::ts,xs=>match xs with
  | x::xs=>match decD t x,decT ts xs with
   | some a,some b=>some (mkT ts a b)
   | _,_=>none
  | []=>none
def Sh.dec:(s:Sh)→TV→Option s.den
 | .c t,x=>decD t x
 | .a ts,x=>match x with
  | .a cs=>decT ts cs
  | _=>none
 | .b ts,x=>match x with
  | .bx cs=>decT ts cs
  | _=>none
 | .o e ts,x=>match x with
  | .ow e' ts' es=>if q:CT.beqL ts' ts=true then (bif Nat.beq e' e then some (QbV q es) else none) else none
  | _=>none
def decL:(ss:List Sh)→List TV→Option (DenL ss)
 | [],xs=>match xs with
  | []=>some ()
  | _=>none
 | s::ss,xs=>match xs with
  | x::xs=>match s.dec x,decL ss xs with
   | some a,some b=>some (a,b)
   | _,_=>none
  | []=>none
theorem QgZ {t:CT} {v:TV} {x:t.den} (h:decD t v=some x):v = .c t x:=by
 cases v with
 | c t' y =>
  simp only [decD] at h
  split at h
  ·rename_i e
   have e':=CT.beq_eq _ _ e
   subst e'
   cases h
   rfl
  ·cases h
 | _=>simp [decD] at h
theorem Qdo:∀ {ts:List CT} {vs:List TV} {x:Tup ts},decT ts vs=some x→vs=Tup.cells ts x
 | [],vs,x,h=>by
  cases vs with
  | nil=>rfl
  | cons v vs=>simp [decT] at h
 | t::ts,vs,x,h=>by
  cases vs with
  | nil=>simp [decT] at h
  | cons v vs =>
   simp only [decT] at h
   split at h
   rotate_left
   ·cases h
   rename_i a b h1 h2
   cases h
   rw [Tup.cells,QgZ h1,Qdo h2,Qba,QaA]
theorem QkA {s:Sh} {v:TV} {x:s.den} (h:s.dec v=some x):v=s.val x:=by
 cases s with
 | c t=>exact QgZ h
 | a ts =>
  cases v with
  | a cs=>exact congrArg TV.a (Qdo h)
  | _=>simp [Sh.dec] at h
 | b ts =>
  cases v with
  | bx cs=>exact congrArg TV.bx (Qdo h)
  | _=>simp [Sh.dec] at h
 | o e ts =>
  cases v with
  | ow e' ts' es =>
   simp only [Sh.dec] at h
   split at h
   ·rename_i q
    have q':=CT.beqL_eq _ _ q
    subst q'
    cases hb:Nat.beq e' e with
    | false=>rw [hb] at h;cases h
    | true =>
     rw [hb] at h
     cases h
     have:=Nat.eq_of_beq_eq_true hb
     subst this
     rfl
   ·cases h
  | _=>simp [Sh.dec] at h
theorem Qfo:∀ {ss:List Sh} {vs:List TV} {x:DenL ss},decL ss vs=some x→vs=valL ss x
 | [],vs,x,h=>by
  cases vs with
  | nil=>rfl
  | cons v vs=>simp [decL] at h
 | s::ss,vs,x,h=>by
  cases vs with
  | nil=>simp [decL] at h
  | cons v vs =>
   simp only [decL] at h
   split at h
   rotate_left
   ·cases h
   rename_i a b h1 h2
   cases h
   rw [valL,QkA h1,Qfo h2]
def Qp (f:FuncId) (sg:List Sh) (g:DenL sg→Option Prop × TRes):TRow:=⟨f,sg,fun vs=>match decL sg vs with
 | some x=>some (g x)
 | none=>none⟩
theorem Qv {P:Program} {f:FuncId} {sg:List Sh} {g:DenL sg→Option Prop × TRes} (h:∀ x:DenL sg,holds (g x).1→TCon P f (valL sg x) (g x).2):Qq P (Qp f sg g):=by
 intro vs pre r hf hr hp
 simp only [Qp] at hr
 split at hr
 ·rename_i x hx
  rw [Qfo hx]
  cases hg:g x with
  | mk p r' =>
   rw [hg] at hr
   cases hr
   have:=h x
   rw [hg] at this
   exact this hp
 ·cases hr
theorem QhS {P:Program} {Γ:List TRow} {f:FuncId} {tc:TCode} {rs:List (ARv × Md)} {n nb no:Nat} {xs:List TV} {r:TRes} {sg:List Sh} (hm:P.follows .mixedOrders=true) (hΓ:TOk P Γ) (hs:Y9 P f=some (tc.er,rs.map Prod.fst,n))
  (hfit:Q1 sg xs=true) (hN:Nat.ble xs.length n=true) (hnl:tbxs xs=nb) (hno:tows xs=no) (h:Hold (tawp Γ (nb+no) tc (TQ nb no rs (fun r'=>r'=r)) (Qm xs))):TCon P f xs r:=by
 subst hnl
 subst hno
 exact Qlg hm hΓ hs hfit (Nat.le_of_ble_eq_true hN) h.h
theorem Yq {Γ:List TRow} {nl:Nat}:∀ (c:TCode) {Q:Qg} {σ:TSt},tawp Γ nl c Q σ→∃ e σ',Q e σ'∧tawp Γ nl c (fun e' s'=>e'=e∧s'=σ') σ
 | .skip,Q,σ,h=>⟨_,_,h,rfl,rfl⟩
 | .exit id,Q,σ,h=>⟨_,_,h,rfl,rfl⟩
 | .ret,Q,σ,h=>⟨_,_,h,rfl,rfl⟩
 | .reg ss,Q,σ,h=>by
  simp only [tawp] at h ⊢
  split at h
  ·rw [Ys] at h;exact ⟨_,_,h.2,by rw [Ys];exact ⟨h.1,rfl,rfl⟩⟩
  ·exact h.elim
 | .draw ss U,Q,σ,h=>by
  simp only [tawp] at h ⊢
  split at h
  ·split at h
   ·rw [Ys] at h;exact ⟨_,_,h.2,by rw [Ys];exact ⟨h.1,rfl,rfl⟩⟩
   ·exact h.elim
  ·exact h.elim
 | .cond c x y,Q,σ,h=>by
  simp only [tawp] at h ⊢
  split at h
  ·rename_i t _
   cases t with
   | true =>
    obtain ⟨e,s,h1,h2⟩:=Yq x (h.1 rfl)
    exact ⟨e,s,h1,fun _=>h2,fun h=>by cases h⟩
   | false =>
    obtain ⟨e,s,h1,h2⟩:=Yq y (h.2 rfl)
    exact ⟨e,s,h1,(fun h=>by cases h),fun _=>h2⟩
  ·exact h.elim
 | .seq x y,Q,σ,h=>by
  simp only [tawp] at h ⊢
  obtain ⟨e,s,h1,h2⟩:=Yq x h
  cases e with
  | normal =>
   obtain ⟨e',s',h3,h4⟩:=Yq y (show tawp Γ nl y Q s from h1)
   exact ⟨e',s',h3,Q8 x (fun e0 s0 hq=>by obtain ⟨rfl,rfl⟩:=hq;exact h4) h2⟩
  | exit id=>exact ⟨_,_,h1,Q8 x (fun e0 s0 hq=>by obtain ⟨rfl,rfl⟩:=hq;exact ⟨rfl,rfl⟩) h2⟩
  | ret=>exact ⟨_,_,h1,Q8 x (fun e0 s0 hq=>by obtain ⟨rfl,rfl⟩:=hq;exact ⟨rfl,rfl⟩) h2⟩
 | .block id x,Q,σ,h=>by
  simp only [tawp] at h ⊢
  obtain ⟨e,s,h1,h2⟩:=Yq x h
  cases e with
  | normal=>exact ⟨_,_,h1,Q8 x (fun e0 s0 hq=>by obtain ⟨rfl,rfl⟩:=hq;exact ⟨rfl,rfl⟩) h2⟩
  | exit id' =>
   cases hb:Nat.beq id' id with
   | true =>
    simp only [Qblk,hb,cond_true] at h1
    exact ⟨_,_,h1,Q8 x (fun e0 s0 hq=>by obtain ⟨rfl,rfl⟩:=hq;simp [Qblk,hb]) h2⟩
   | false =>
    simp only [Qblk,hb,cond_false] at h1
    exact ⟨_,_,h1,Q8 x (fun e0 s0 hq=>by obtain ⟨rfl,rfl⟩:=hq;simp [Qblk,hb]) h2⟩
  | ret=>exact ⟨_,_,h1,Q8 x (fun e0 s0 hq=>by obtain ⟨rfl,rfl⟩:=hq;exact ⟨rfl,rfl⟩) h2⟩
 | .wk L x,Q,σ,h=>by
  simp only [tawp] at h ⊢
  exact Yq x h
 | .loop L x,Q,σ,h=>by
  simp only [tawp] at h ⊢
  refine h (fun s=>∃ e σ',Q e σ'∧Lfp (fun R s=>tawp Γ nl x (Qseq (fun s'=>R (gc nl L s')) fun e' s'=>e'=e∧s'=σ') s) s) (fun s hs=>?_)
  obtain ⟨e,s1,h1,h2⟩:=Yq x hs
  cases e with
  | normal =>
   obtain ⟨e',s',h3,h4⟩:=(show ∃ e σ',Q e σ'∧Lfp (fun R s=>tawp Γ nl x (Qseq (fun s'=>R (gc nl L s')) fun e' s'=>e'=e∧s'=σ') s) (gc nl L s1) from h1)
   exact ⟨e',s',h3,Qbj (Q8 x (fun e0 s0 hq=>by obtain ⟨rfl,rfl⟩:=hq;exact h4) h2)⟩
  | exit id=>exact ⟨_,_,h1,Qbj (Q8 x (fun e0 s0 hq=>by obtain ⟨rfl,rfl⟩:=hq;exact ⟨rfl,rfl⟩) h2)⟩
  | ret=>exact ⟨_,_,h1,Qbj (Q8 x (fun e0 s0 hq=>by obtain ⟨rfl,rfl⟩:=hq;exact ⟨rfl,rfl⟩) h2)⟩
theorem QjR {P:Program} {Γ:List TRow} {f:FuncId} {tc:TCode} {rs:List (ARv × Md)} {n nb no:Nat} {xs:List TV} {K:TRes→Prop} {sg:List Sh} (hm:P.follows .mixedOrders=true) (hΓ:TOk P Γ) (hs:Y9 P f=some (tc.er,rs.map Prod.fst,n))
  (hfit:Q1 sg xs=true) (hN:Nat.ble xs.length n=true) (hnl:tbxs xs=nb) (hno:tows xs=no) (h:Hold (tawp Γ (nb+no) tc (TQ nb no rs K) (Qm xs))):∃ r,K r∧TCon P f xs r:=by
 obtain ⟨e,s,h1,h2⟩:=Yq tc h.h
 have key:∃ r,K r∧TQ nb no rs (fun r'=>r'=r) e s:=by
  cases e with
  | exit id=>exact h1.elim
  | normal =>
   simp only [TQ] at h1 ⊢
   split at h1
   ·exact ⟨_,h1,rfl⟩
   ·exact h1.elim
  | ret =>
   simp only [TQ] at h1 ⊢
   split at h1
   ·exact ⟨_,h1,rfl⟩
   ·exact h1.elim
 obtain ⟨r,h3,h4⟩:=key
 exact ⟨r,h3,QhS hm hΓ hs hfit hN hnl hno ⟨Q8 tc (fun e0 s0 hq=>by obtain ⟨rfl,rfl⟩:=hq;exact h4) h2⟩⟩
theorem Q7 {P:Program} {f:FuncId} {xs:List TV} {α:Type} {p:α→Prop} {R:α→TRes} (h:∃ r,(∃ t,p t∧r=R t)∧TCon P f xs r):∃ t,p t∧TCon P f xs (R t):=by
 obtain ⟨_,⟨t,h1,rfl⟩,h2⟩:=h
 exact ⟨t,h1,h2⟩
theorem Qt:Try.prog.follows .mixedOrders=true:=by kernel_rfl
end Go.Proofs.Ytephkbajoofeoaa.Am
namespace Go.Proofs.Ytephkbajoofeoaa.Am
open Go Go.RowKit Go.Proofs.Ytephkbajoofeoaa
theorem Qi {x:Int} (h1:-9223372036854775808≤x) (h2:x<9223372036854775808):w64 x=x:=IntWalk.i64_in x (by omega)
theorem QiX {α:Type} {l r:List α} {x:α} {k:Nat} (h:l.drop k=x::r) (d:α):gtd d l k=x:=by
 unfold gtd
 have:l[k]? = some x:=by
  have:=congrArg List.head? h
  simpa [List.head?_drop] using this
 rw [List.getD_eq_getElem?_getD,this];rfl
theorem QmN {α:Type} {l r:List α} {x:α} {k:Nat} (h:l.drop k=x::r):k<l.length:=by
 apply Classical.byContradiction
 intro hn
 rw [List.drop_eq_nil_of_le (by omega)] at h
 cases h
theorem Qgo {α:Type} {l r:List α} {x:α} {k:Nat} (h:l.drop k=x::r):l.drop (k+1)=r:=by
 have:=congrArg List.tail h
 simpa [List.tail_drop] using this
theorem JH {α:Type} (l:List α) (P:List α→Nat→Prop) (h0:P [] l.length) (hs:∀ (k:Nat) (x:α) (r:List α),l.drop k=x::r→k<l.length→(∀ d,gtd d l k=x)→P r (k+1)→P (x::r) k):P l 0:=by
 suffices ∀ (r:List α) (k:Nat),l.drop k=r→k≤l.length→P r k from this l 0 rfl (Nat.zero_le _)
 intro r
 induction r with
 | nil =>
  intro k hk hle
  have:l.length≤k:=by simpa using hk
  rw [show k=l.length by omega]
  exact h0
 | cons x r ih =>
  intro k hk hle
  have hlt:=QmN hk
  exact hs k x r hk hlt (QiX hk) (ih (k+1) (Qgo hk) hlt)
theorem Qea (n:Nat) (P:Nat→Prop) (h0:P n) (hs:∀ k,k<n→P (k+1)→P k):P 0:=by
 suffices ∀ j k,k+j=n→P k from this n 0 (by omega)
 intro j
 induction j with
 | zero=>intro k hk;rw [show k=n by omega];exact h0
 | succ j ih=>intro k hk;exact hs k (by omega) (ih (k+1) (by omega))
class Sz (α:Type) where
 sz:α→Nat
instance:Sz Int:=⟨fun _=>0⟩
instance:Sz Bool:=⟨fun _=>0⟩
instance:Sz ByteArray:=⟨fun _=>0⟩
instance {α β:Type} [Sz α] [Sz β]:Sz (α × β):=⟨fun x=>Sz.sz x.1+Sz.sz x.2⟩
def szL {α:Type} [Sz α]:List α→Nat
 | []=>0
 | x::r=>1+Sz.sz x+szL r
instance {α:Type} [Sz α]:Sz (List α):=⟨szL⟩
open Sz
@[simp] theorem QqD (x:Int):sz x=0:=rfl
@[simp] theorem QqB (x:Bool):sz x=0:=rfl
@[simp] theorem QqA {α β:Type} [Sz α] [Sz β] (x:α) (y:β):sz (x,y)=sz x+sz y:=rfl
@[simp] theorem Qqz {α:Type} [Sz α]:sz ([]:List α)=0:=rfl
@[simp] theorem QqG {α:Type} [Sz α] (x:α) (r:List α):sz (x::r)=1+sz x+sz r:=rfl
@[simp] theorem QqE {α:Type} [Sz α] (l r:List α):sz (l++r)=sz l+sz r:=by
 induction l with
 | nil=>simp
 | cons x l ih=>simp [ih];omega
theorem ZJ:(big:Nat)=4294967296:=rfl
theorem R_eq {α:Type} {R:α→TRes} {x y:α} (h:x=y):R x=R y:=by rw [h]
end Go.Proofs.Ytephkbajoofeoaa.Am
namespace Go.Proofs.Ytephkbajoofeoaa.Am
open Go Go.RowKit
instance (n:Nat):OfNat TOpd n:=⟨.s n⟩
abbrev zci (n:Int):TV:=.c TI n
abbrev zcb (b:Bool):TV:=.c .bool b
abbrev zcs (ts:List CT) (x:List (Tup ts)):TV:=.c (.sl ts) x
def zki (n:Int):TOpd:=.k (.c TI n)
def zkb (b:Bool):TOpd:=.k (.c .bool b)
def zop (d:Nat) (x:TOp):TStm:=.op (some d) x
def zmv (d:Nat) (x:TOpd):TStm:=.op (some d) (.mov x)
def zld (d:Nat) (x:TOpd) (n:Nat):TStm:=.op (some d) (.load x n false)
def zLd (d:Nat) (x:TOpd) (n:Nat):TStm:=.op (some d) (.load x n true)
def zfa (d:Nat) (x:TOpd) (o:Nat):TStm:=.op (some d) (.fad x o)
def zle (d:Nat) (x:TOpd):TStm:=.op (some d) (.len x)
def zbi (d:Nat) (o:BinOp) (x y:TOpd):TStm:=.op (some d) (.bin o x y)
def zst (x v:TOpd) (n:Nat):TStm:=.op none (.store x v n)
def zca (d:Nat) (f:FuncId) (l:List TOpd):TStm:=.op (some d) (.call f l)
def zia (d:Nat) (x i:TOpd) (ts:List CT):TStm:=.op (some d) (.iad x i ts)
def zno (d:Nat) (x:TOpd):TStm:=.op (some d) (.not x)
def zex (d:Nat) (x:TOpd) (i:Nat):TStm:=.op (some d) (.ext x i)
def zsq:List TCode→TCode
 | []=>.skip
 | [x]=>x
 | x::y::r=>.seq x (zsq (y::r))
def z01:CT→TV
 | .int k=>.c (.int k) (0:Int)
 | .bool=>.c .bool false
 | .str=>.c .str ⟨#[]⟩
 | .nilp=>.c .nilp ()
 | .sl ts=>.n ts
def z0s:List CT→List TV
 | []=>[]
 | t::ts=>z01 t::z0s ts
abbrev zif (c:Bool) (A B:Prop):Prop:=(c=true→A)∧(c=false→B)
def zdl (l:List Nat):List (Nat × Md):=l.map fun i=>(i,.one .d)
def zds (n:Nat):List Md1:=List.replicate n .d
@[reducible] def zre (v:TV):TRes:=⟨v,[],[],false,[]⟩
@[reducible] def zra (v:TV):TRes:=⟨v,[],[],true,[]⟩
theorem tcg {P:Program} {Γ:List TRow} {f:FuncId} {tc:TCode} {rs:List (ARv × Md)} {n nb no:Nat} {xs:List TV} {r:TRes} {sg:List Sh} (hm:P.follows .mixedOrders=true) (hΓ:TOk P Γ) (hs:Y9 P f=some (tc.er,rs.map Prod.fst,n))
  (hq:((Q1 sg xs&&Nat.ble xs.length n)&&(Nat.beq (tbxs xs) nb&&Nat.beq (tows xs) no))=true) (h:Hold (tawp Γ (nb+no) tc (TQ nb no rs (fun r'=>r'=r)) (Qm xs))):TCon P f xs r:=by
 simp only [Bool.and_eq_true] at hq
 exact QhS hm hΓ hs hq.1.1 hq.1.2 (Nat.eq_of_beq_eq_true hq.2.1) (Nat.eq_of_beq_eq_true hq.2.2) h
theorem tcx {P:Program} {Γ:List TRow} {f:FuncId} {tc:TCode} {rs:List (ARv × Md)} {n nb no:Nat} {xs:List TV} {K:TRes→Prop} {sg:List Sh} (hm:P.follows .mixedOrders=true) (hΓ:TOk P Γ) (hs:Y9 P f=some (tc.er,rs.map Prod.fst,n))
  (hq:((Q1 sg xs&&Nat.ble xs.length n)&&(Nat.beq (tbxs xs) nb&&Nat.beq (tows xs) no))=true) (h:Hold (tawp Γ (nb+no) tc (TQ nb no rs K) (Qm xs))):∃ r,K r∧TCon P f xs r:=by
 simp only [Bool.and_eq_true] at hq
 exact QjR hm hΓ hs hq.1.1 hq.1.2 (Nat.eq_of_beq_eq_true hq.2.1) (Nat.eq_of_beq_eq_true hq.2.2) h
end Go.Proofs.Ytephkbajoofeoaa.Am
namespace Go.Proofs.Ytephkbajoofeoaa.Am
open Sz
abbrev TIns:=Int × Int
abbrev QlH:=Int × List Int
abbrev TOp':=Int × Int × Int × List Int
abbrev Qbz:=Int × List (List Int)
abbrev Qk:=List Int × List Int
abbrev Qd4:=Int × List QlH
abbrev Qby:=List (List Int) × Int × Bool
def Qcb {α:Type} (_:α):Bool:=true
def pl (left:Int):Prop:=-1≤left∧left≤1048576
def m_in (x a b:Int):Bool:=decide (a≤x)&&decide (x≤b)
def Q6 (x:Int):Bool:=decide (-2147483647≤x)&&decide (x≤2147483647)
def Za (v:List Int):Bool:=v.all Q6
def Z0 (v:List Int):Bool:=m_in v.length 1 6&&Za v
end Go.Proofs.Ytephkbajoofeoaa.Am
namespace Go.Proofs.Ytephkbajoofeoaa.Am
open Go Sz
abbrev QF:=List TOp'
abbrev QaL:=Int × List TIns × List TOp' × Bool × Bool × List Qbz × List (List Int) × List Int × List Int × List Int × List Int × List (List Int) × Int × Bool
abbrev Qf:=List TOp' × List Int × Int × List Bool × List Int × List Int
abbrev QhP:=List Qk × List QaL × List Qd4 × List Qd4
abbrev TMat:=Int × Int × List Int
abbrev dOp:TOp':=(0,0,0,[])
abbrev dIns:TIns:=(0,0)
abbrev Qcs:Qk:=([],[])
abbrev ctOp:List CT:=[.int .i64,.int .i64,.int .i64,.sl [.int .i64]]
abbrev QU:List CT:=[.sl [.int .i64],.sl [.int .i64]]
abbrev QB:List CT:=[.sl ctOp,.sl [.int .i64],.int .i64,.sl [.bool],.sl [.int .i64],.sl [.int .i64]]
set_option synthInstance.maxSize 2000
set_option synthInstance.maxHeartbeats 200000
instance:DecidableEq TOp':=inferInstance
instance:DecidableEq Qbz:=inferInstance
instance:DecidableEq Qd4:=inferInstance
abbrev TSt4:=List Int × List Int × List Int × List Int × Qby
abbrev TSt3:=List Qbz × List (List Int) × TSt4
abbrev TSt2:=List TOp' × Bool × Bool × TSt3
instance:DecidableEq Qby:=inferInstance
instance:DecidableEq TSt4:=inferInstance
instance:DecidableEq TSt3:=inferInstance
instance:DecidableEq TSt2:=inferInstance
instance:DecidableEq QaL:=(inferInstance:DecidableEq (Int × List TIns × TSt2))
instance:DecidableEq Qf:=inferInstance
instance:DecidableEq QhP:=inferInstance
instance:Sz QaL:=inferInstance
instance:Sz Qf:=inferInstance
instance:Sz QhP:=inferInstance
abbrev Zs (c:Qf):=c.1
abbrev Zf (c:Qf):=c.2.1
abbrev cDs (c:Qf):=c.2.2.1
abbrev QaF (c:Qf):=c.2.2.2.1
abbrev Qcl (c:Qf):=c.2.2.2.2.1
abbrev Qcc (c:Qf):=c.2.2.2.2.2
def ZI (v:List Int) (n:Int):Bool:=Z0 v&&((v.length:Int)==n)
def QT (o:TOp'):Int :=
 if m_in o.2.1 1 6&&m_in o.2.2.1 1 6 then (if o.1=1∨o.1=5 then o.2.1*o.2.2.1 else if o.1=2 then o.2.1 else if o.1=4 then 1 else 0) else 0
def QQ (o:TOp'):Bool :=
 m_in o.1 1 5&&m_in o.2.1 1 6&&m_in o.2.2.1 1 6&&(o.1==1||o.2.1==o.2.2.1)&&((o.2.2.2.length:Int)==QT o)&&Za o.2.2.2
def Q4:Option Int→List TOp'→Bool
 | _,[]=>true
 | p,o::r=>QQ o&&(match p with | none=>true | some q=>q==o.2.1)&&Q4 (some o.2.2.1) r
def Qu (m:QF):Bool:=m_in m.length 1 8&&Q4 none m
def Q2 (m:QF):Int:=if Qu m then (gtd dOp m 0).2.1 else 0
def Zc (m:QF):Int:=if Qu m then (gtd dOp m (m.length-1)).2.2.1 else 0
def Qcf (m:QF) (p:Qk):Bool:=Qu m&&ZI p.1 (Q2 m)&&ZI p.2 (Zc m)
def Qak (m:QF) (b:List Qk):Bool:=Qu m&&m_in b.length 1 5&&b.all (Qcf m)
def QW (n:Int):Option Int→List Int→Bool
 | _,[]=>true
 | p,c::r=>m_in c 1 n&&(match p with | none=>true | some q=>decide (q<c))&&QW n (some c) r
def Qw (m:QF) (cuts:List Int):Bool:=Qu m&&QW (m.length-1) none cuts
def Qd (m:QF) (cuts:List Int) (s:Int):Int × Int :=
 if Qw m cuts&&m_in s 0 cuts.length then (if 0<s then gtd 0 cuts (s.toNat-1) else 0,if s<cuts.length then gtd 0 cuts s.toNat else m.length) else (0,0)
def slice {α:Type} (l:List α) (a b:Int):List α:=(l.drop a.toNat).take (b.toNat-a.toNat)
def Qn (c:Qf):Int:=if Qw c.1 c.2.1 then w64 (c.2.1.length+1) else 0
def QC (c:Qf) (s:Int):Int :=
 let r:=Qd c.1 c.2.1 s
 w64 (((slice c.1 r.1 r.2).map fun o=>o.2.1).sum+if r.1<r.2 then (gtd dOp c.1 (r.2.toNat-1)).2.2.1 else 0)
def QY (c:Qf) (s:Int):Bool:=decide (0≤s)&&decide (s<c.2.2.2.1.length)&&gtd false c.2.2.2.1 s.toNat
def Qs (c:Qf) (s:Int):Int × Int :=
 let r:=Qd c.1 c.2.1 s
 if r.1=r.2 then (0,0) else ((gtd dOp c.1 r.1.toNat).2.1,(gtd dOp c.1 (r.2.toNat-1)).2.2.1)
def Qy (c:Qf) (s:Int):Int:=if QY c s then (Qs c s).1 else QC c s
def iMin (a b:Int):Int:=if b<a then b else a
def iMax (a b:Int):Int:=if a<b then b else a
def QA (c:Qf) (s micro:Int):Int :=
 if m_in s 0 (Qn c-1)&&m_in micro 1 5&&decide (Qn c≤4) then
  (let k:=if c.2.2.1=2 then iMin micro (Qn c-s) else micro
   let z:=Qs c s
   w64 (w64 (w64 (k*Qy c s)+iMax z.1 z.2)+if QY c s then QC c s else 0))
 else 0
def QdD (c:Qf):Bool:=(c.2.2.2.2.1.length==c.2.1.length)&&c.2.2.2.2.1.all fun n=>m_in n 1 5
def Qbl (c:Qf) (micro:Int):List Int→Int→Bool
 | [],_=>true
 | n::r,s=>m_in n (QA c s micro) 100000&&Qbl c micro r (s+1)
def QcU (c:Qf) (micro:Int):Bool:=((c.2.2.2.2.2.length:Int)==Qn c)&&Qbl c micro c.2.2.2.2.2 0
def QdG (c:Qf) (b:List Qk):Int :=
 if !Qu c.1 then 1 else if !Qak c.1 b then 2 else if Qn c=0∨4<Qn c then 3 else if !m_in c.2.2.1 1 2 then 4
 else if (c.2.2.2.1.length:Int)≠Qn c then 5 else if !QdD c then 6 else if !QcU c b.length then 7 else 0
def QfA (st s mi:Int):Bool:=m_in st 1 4&&m_in s 0 (st-1)&&m_in mi 1 5
def Qo8 (ds st s mi:Int):Int:=if QfA st s mi then (if ds=2 then iMin mi (st-1-s) else mi) else 0
def Qg4 (st s m:Int):List TIns:=(if 0<s then [(1,m)] else [])++[(2,m)]++(if s<st-1 then [(3,m)] else [])
def QkY (st s m:Int) (redo:Bool):List TIns:=(if s<st-1 then [(4,m)] else [])++(if redo then [(5,m)] else [])++[(6,m)]++(if 0<s then [(7,m)] else [])
def Qly (ds st s mi:Int) (redo:Bool):List TIns :=
 if m_in ds 1 2&&QfA st s mi then
  (let w:=(Qo8 ds st s mi).toNat
   ((List.range w).flatMap fun m:Nat=>Qg4 st s (m:Int))++((List.range mi.toNat).flatMap fun m:Nat=>(if (m:Int)+w<mi then Qg4 st s ((m:Int)+w) else [])++QkY st s (m:Int) redo)++[(8,0)])
 else []
end Go.Proofs.Ytephkbajoofeoaa.Am
namespace Go.Proofs.Ytephkbajoofeoaa.Am
open Go Sz
theorem QgJ {α:Type} (d:α) {l:List α} {c p:α→Bool} {Q:Bool→Prop} {A:Int→Prop} {e:Bool} (hb:l.length≤9223372036854775807) (hc:∀ x,c x = !p x)
  (hA:∀ (i:Int),((decide (i<(l.length:Int))=true→(((0:Int)≤i∧Int.toNat i<l.length)∧((c (gtd d l (Int.toNat i))=true→Q false)∧(c (gtd d l (Int.toNat i))=false→A (w64 (i+(1:Int)))))))∧(decide (i<(l.length:Int))=false→Q e))→A i)
  (hq:Q (l.all p&&e)):A 0:=by
 have key:(l.drop 0).all p=l.all p→A (0:Nat):=by
  refine JH l (fun r k=>r.all p=l.all p→A k) ?_ ?_
  ·intro he
   refine hA _ ⟨fun h=>by simp at h,fun _=>?_⟩
   rw [← he] at hq
   simpa using hq
  ·intro k x r hk hlt hg ih he
   refine hA _ ⟨fun _=>?_,fun h=>by simp at h;omega⟩
   rw [Int.toNat_natCast,hg,Qi (by omega) (by omega)]
   refine ⟨⟨by omega,hlt⟩,fun h=>?_,fun h=>ih ?_⟩
   ·have hp:p x=false:=by simpa [hc] using h
    have:l.all p=false:=by rw [← he,List.all_cons,hp];rfl
    rw [this] at hq
    exact hq
   ·have hp:p x=true:=by simpa [hc] using h
    rw [← he,List.all_cons,hp]
    rfl
 exact key rfl
end Go.Proofs.Ytephkbajoofeoaa.Am

