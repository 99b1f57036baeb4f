/- -/
import Derived.Test.YtdplaepmjogjjaaGreatVBG5
import Derived.Test.YtdplaepmjogjjaaGreatProg
set_option linter.all false
namespace Go.Proofs.YtdplaepmjogjjaaGreat.Am
open Go Go.RowKit Go.Proofs.YtdplaepmjogjjaaGreat
abbrev TI:CT:=.int .i64
abbrev w64 (x:Int):Int:=IntKind.i64.wrap x
def Loop (Γ:TTab) (nl:Nat) (L:List (Nat × Md)) (x:TCode) (Q:Qb) (s:TSt):Prop :=
 Lfp (fun R s=>tawp Γ nl x (Qseq (fun s'=>R (gc nl L s')) Q) s) s
theorem QyZ {Γ:TTab} {nl:Nat} {L:List (Nat × Md)} {x:TCode} {Q:Qb} {s:TSt}
  (h:tawp Γ nl x (Qseq (fun s'=>Loop Γ nl L x Q (gc nl L s')) Q) s):Loop Γ nl L x Q s:=Qz9 h
structure Hold (p:Prop):Prop where
 h:p
theorem Hold.of {p F:Prop} (e:F=p) (h:F):Hold p:=⟨e ▸ h⟩
theorem Loop.of {Γ:TTab} {nl:Nat} {L:List (Nat × Md)} {x:TCode} {Q:Qb} {s:TSt} {F:Prop}
  (e:F=tawp Γ nl x (Qseq (fun s'=>Loop Γ nl L x Q (gc nl L s')) Q) s) (h:F):Loop Γ nl L x Q s:=QyZ (e ▸ h)
def gtd {α:Type} (d:α) (l:List α) (i:Nat):α:=l.getD i d
@[reducible] def Sh.den:Sh→Type
 | .c t=>t.den
 | .a ts=>Tup ts
 | .b ts=>Tup ts
 | .o _ ts=>List (Tup ts)
 | .d ts=>List (Tup ts)
 | .s ts=>Tup ts
@[reducible] def DenL:List Sh→Type
 | []=>Unit
 | s::ss=>s.den × DenL ss
def Qra:(t:CT)→t.den→TV
 | .sl us,l=>.ow 0 us dw l
 | .int k,x=>.c (.int k) x
 | .bool,x=>.c .bool x
 | .str,x=>.c .str x
 | .nilp,x=>.c .nilp x
def Tup.cellsO:(ts:List CT)→Tup ts→List TV
 | [],_=>[]
 | t::ts,x=>Qra t (hd ts x)::Tup.cellsO ts (tl ts x)
def Sh.val:(s:Sh)→s.den→TV
 | .c t,x=>.c t x
 | .a ts,x=>.a (Tup.cells ts x)
 | .b ts,x=>.bx (Tup.cells ts x)
 | .o e ts,x=>.ow e ts .ow x
 | .d ts,x=>.ow 0 ts dw x
 | .s ts,x=>.a (Tup.cellsO ts x)
def valL:(ss:List Sh)→DenL ss→List TV
 | [],_=>[]
 | s::ss,x=>s.val x.1::valL ss x.2
def decD (t:CT):TV→Option t.den
 | .c t' x=>if e:t'.beq t=true then some (QdL e x) else none
 | _=>none
def decT:(ts:List CT)→List TV→Option (Tup ts)
 | [],xs=>match xs with
  | []=>some ()
  | _=>none
 | t::ts,xs=>match xs with
  | x::xs=>match decD t x,decT ts xs with
   | some a,some b=>some (mkT ts a b)
   | _,_=>none
  | []=>none
def isOw:Mo→Bool
 | .ow=>true
 | _=>false
def decW (m0:Mo→Bool) (e:TypeId) (ts:List CT):TV→Option (List (Tup ts))
 | .ow e' ts' m es=>if q:CT.beqL ts' ts=true then (bif Nat.beq e' e&&m0 m then some (QaS q es) else none) else none
 | _=>none
def decO:(t:CT)→TV→Option t.den
 | .sl us,x=>decW isDw 0 us x
 | .int k,x=>decD (.int k) x
 | .bool,x=>decD .bool x
 | .str,x=>decD .str x
 | .nilp,x=>decD .nilp x
def decS:(ts:List CT)→List TV→Option (Tup ts)
 | [],xs=>match xs with
  | []=>some ()
  | _=>none
 | t::ts,xs=>match xs with
  | x::xs=>match decO t x,decS ts xs with
   | some a,some b=>some (mkT ts a b)
   | _,_=>none
  | []=>none
def Sh.dec:(s:Sh)→TV→Option s.den
 | .c t,x=>decD t x
 | .a ts,x=>match x with
  | .a cs=>decT ts cs
  | _=>none
 | .b ts,x=>match x with
  | .bx cs=>decT ts cs
  | _=>none
 | .o e ts,x=>decW isOw e ts x
 | .d ts,x=>decW isDw 0 ts x
 | .s ts,x=>match x with
  | .a cs=>decS ts cs
  | _=>none
def decL:(ss:List Sh)→List TV→Option (DenL ss)
 | [],xs=>match xs with
  | []=>some ()
  | _=>none
 | s::ss,xs=>match xs with
  | x::xs=>match s.dec x,decL ss xs with
   | some a,some b=>some (a,b)
   | _,_=>none
  | []=>none
theorem Qh9 {t:CT} {v:TV} {x:t.den} (h:decD t v=some x):v = .c t x:=by
 cases v with
 | c t' y =>
  simp only [decD] at h
  split at h
  ·rename_i e
   have e':=CT.beq_eq _ _ e
   subst e'
   cases h
   rfl
  ·cases h
 | _=>simp [decD] at h
theorem Qh5:∀ {ts:List CT} {vs:List TV} {x:Tup ts},decT ts vs=some x→vs=Tup.cells ts x
 | [],vs,x,h=>by
  cases vs with
  | nil=>rfl
  | cons v vs=>simp [decT] at h
 | t::ts,vs,x,h=>by
  cases vs with
  | nil=>simp [decT] at h
  | cons v vs =>
   simp only [decT] at h
   split at h
   rotate_left
   ·cases h
   rename_i a b h1 h2
   cases h
   rw [Tup.cells,Qh9 h1,Qh5 h2,Qcl,Qbl]
theorem QEL {m:Mo} (h:isOw m=true):m = .ow:=by
 cases m <;> first | rfl | cases h
theorem Qe4 {m0:Mo→Bool} {m1:Mo} (hm:∀ m,m0 m=true→m=m1) {e:TypeId} {ts:List CT} {v:TV} {x:List (Tup ts)} (h:decW m0 e ts v=some x):v = .ow e ts m1 x:=by
 cases v with
 | ow e' ts' m es =>
  simp only [decW] at h
  split at h
  ·rename_i q
   have q':=CT.beqL_eq _ _ q
   subst q'
   cases hb:Nat.beq e' e&&m0 m with
   | false=>rw [hb] at h;cases h
   | true =>
    rw [hb] at h
    cases h
    rw [Bool.and_eq_true] at hb
    have:=Nat.eq_of_beq_eq_true hb.1
    subst this
    rw [hm m hb.2]
    rfl
  ·cases h
 | _=>simp [decW] at h
theorem QsQ {t:CT} {v:TV} {x:t.den} (h:decO t v=some x):v=Qra t x:=by
 cases t with
 | sl us=>exact Qe4 (fun _=>QdO) h
 | _=>exact Qh9 h
theorem QiV:∀ {ts:List CT} {vs:List TV} {x:Tup ts},decS ts vs=some x→vs=Tup.cellsO ts x
 | [],vs,x,h=>by
  cases vs with
  | nil=>rfl
  | cons v vs=>simp [decS] at h
 | t::ts,vs,x,h=>by
  cases vs with
  | nil=>simp [decS] at h
  | cons v vs =>
   simp only [decS] at h
   split at h
   rotate_left
   ·cases h
   rename_i a b h1 h2
   cases h
   rw [Tup.cellsO,QsQ h1,QiV h2,Qcl,Qbl]
theorem QBi {s:Sh} {v:TV} {x:s.den} (h:s.dec v=some x):v=s.val x:=by
 cases s with
 | c t=>exact Qh9 h
 | a ts =>
  cases v with
  | a cs=>exact congrArg TV.a (Qh5 h)
  | _=>simp [Sh.dec] at h
 | b ts =>
  cases v with
  | bx cs=>exact congrArg TV.bx (Qh5 h)
  | _=>simp [Sh.dec] at h
 | o e ts=>exact Qe4 (fun _=>QEL) h
 | d ts=>exact Qe4 (fun _=>QdO) h
 | s ts =>
  cases v with
  | a cs=>exact congrArg TV.a (QiV h)
  | _=>simp [Sh.dec] at h
theorem Qjd:∀ {ss:List Sh} {vs:List TV} {x:DenL ss},decL ss vs=some x→vs=valL ss x
 | [],vs,x,h=>by
  cases vs with
  | nil=>rfl
  | cons v vs=>simp [decL] at h
 | s::ss,vs,x,h=>by
  cases vs with
  | nil=>simp [decL] at h
  | cons v vs =>
   simp only [decL] at h
   split at h
   rotate_left
   ·cases h
   rename_i a b h1 h2
   cases h
   rw [valL,QBi h1,Qjd h2]
def Qi (f:FuncId) (sg:List Sh) (g:DenL sg→Option Prop × TRes):TRow:=⟨f,sg,fun vs=>match decL sg vs with
 | some x=>some (g x)
 | none=>none⟩
theorem Qn {P:Program} {f:FuncId} {sg:List Sh} {g:DenL sg→Option Prop × TRes} (h:∀ x:DenL sg,holds (g x).1→TCon P f (valL sg x) (g x).2):Qj P (Qi f sg g):=by
 intro vs pre r hf hr hp
 simp only [Qi] at hr
 split at hr
 ·rename_i x hx
  rw [Qjd hx]
  cases hg:g x with
  | mk p r' =>
   rw [hg] at hr
   cases hr
   have:=h x
   rw [hg] at this
   exact this hp
 ·cases hr
theorem QCW {P:Program} {Γ:TTab} {f:FuncId} {tc:TCode} {rs:List (ARv × Md)} {n nb no:Nat} {xs:List TV} {r:TRes} {sg:List Sh} (hm:P.follows .mixedOrders=true) (hΓ:TOk P Γ) (hs:Qeu P f=some (tc.er,rs.map Prod.fst,n))
  (hfit:Q7 sg xs=true) (hN:Nat.ble xs.length n=true) (hnl:tbxs xs=nb) (hno:tows xs=no) (h:Hold (tawp Γ (nb+no) tc (TQ nb no rs (fun r'=>r'=r)) (Qg xs))):TCon P f xs r:=by
 subst hnl
 subst hno
 exact QD7 hm hΓ hs hfit (Nat.le_of_ble_eq_true hN) h.h
theorem Ql:Tryz.prog.follows .mixedOrders=true:=by kernel_rfl
end Go.Proofs.YtdplaepmjogjjaaGreat.Am
namespace Go.Proofs.YtdplaepmjogjjaaGreat.Am
open Go Go.RowKit Go.Proofs.YtdplaepmjogjjaaGreat
theorem Qw {x:Int} (h1:-9223372036854775808≤x) (h2:x<9223372036854775808):w64 x=x:=IntWalk.i64_in x (by omega)
theorem Jh {α:Type} {l r:List α} {x:α} {k:Nat} (h:l.drop k=x::r) (d:α):gtd d l k=x:=by
 unfold gtd
 have:l[k]? = some x:=by
  have:=congrArg List.head? h
  simpa [List.head?_drop] using this
 rw [List.getD_eq_getElem?_getD,this];rfl
theorem QdG {α:Type} {l r:List α} {x:α} {k:Nat} (h:l.drop k=x::r):k<l.length:=by
 apply Classical.byContradiction
 intro hn
 rw [List.drop_eq_nil_of_le (by omega)] at h
 cases h
theorem Jm {α:Type} {l r:List α} {x:α} {k:Nat} (h:l.drop k=x::r):l.drop (k+1)=r:=by
 have:=congrArg List.tail h
 simpa [List.tail_drop] using this
theorem Zp {α:Type} (l:List α) (P:List α→Nat→Prop) (h0:P [] l.length) (hs:∀ (k:Nat) (x:α) (r:List α),l.drop k=x::r→k<l.length→(∀ d,gtd d l k=x)→P r (k+1)→P (x::r) k):P l 0:=by
 suffices ∀ (r:List α) (k:Nat),l.drop k=r→k≤l.length→P r k from this l 0 rfl (Nat.zero_le _)
 intro r
 induction r with
 | nil =>
  intro k hk hle
  have:l.length≤k:=by simpa using hk
  rw [show k=l.length by omega]
  exact h0
 | cons x r ih =>
  intro k hk hle
  have hlt:=QdG hk
  exact hs k x r hk hlt (Jh hk) (ih (k+1) (Jm hk) hlt)
theorem Qo1 (n:Nat) (P:Nat→Prop) (h0:P n) (hs:∀ k,k<n→P (k+1)→P k):P 0:=by
 suffices ∀ j k,k+j=n→P k from this n 0 (by omega)
 intro j
 induction j with
 | zero=>intro k hk;rw [show k=n by omega];exact h0
 | succ j ih=>intro k hk;exact hs k (by omega) (ih (k+1) (by omega))
class Sz (α:Type) where
 sz:α→Nat
instance:Sz Int:=⟨fun _=>0⟩
instance:Sz Bool:=⟨fun _=>0⟩
instance:Sz ByteArray:=⟨fun _=>0⟩
instance {α β:Type} [Sz α] [Sz β]:Sz (α × β):=⟨fun x=>Sz.sz x.1+Sz.sz x.2⟩
def szL {α:Type} [Sz α]:List α→Nat
 | []=>0
 | x::r=>1+Sz.sz x+szL r
instance {α:Type} [Sz α]:Sz (List α):=⟨szL⟩
open Sz
@[simp] theorem QE (x:Int):sz x=0:=rfl
@[simp] theorem QK (x:Bool):sz x=0:=rfl
@[simp] theorem QgX {α β:Type} [Sz α] [Sz β] (x:α) (y:β):sz (x,y)=sz x+sz y:=rfl
theorem QD {α β:Type} [Sz α] [Sz β] (x:α × β):sz x=sz x.1+sz x.2:=rfl
@[simp] theorem QFN {α:Type} [Sz α]:sz ([]:List α)=0:=rfl
@[simp] theorem QjK {α:Type} [Sz α] (x:α) (r:List α):sz (x::r)=1+sz x+sz r:=rfl
@[simp] theorem QFP {α:Type} [Sz α] (l r:List α):sz (l++r)=sz l+sz r:=by
 induction l with
 | nil=>simp
 | cons x l ih=>simp [ih];omega
theorem QaW {α:Type} [Sz α] (l:List α):l.length≤sz l:=by
 induction l with
 | nil=>simp
 | cons x l ih=>simp;omega
theorem QDc (l:List Int):sz l=l.length:=by
 induction l with
 | nil=>rfl
 | cons x l ih=>simp [ih];omega
theorem Qwo {α:Type} [Sz α] {l:List α} {x:α} (h:x∈l):sz x<sz l:=by
 induction l with
 | nil=>cases h
 | cons y l ih =>
  rcases List.mem_cons.1 h with rfl | h
  ·simp;omega
  ·have:=ih h;simp;omega
theorem QEU {α:Type} [Sz α] {l r:List α} {x:α} {k:Nat} (h:l.drop k=x::r):sz x<sz l:=Qwo (List.mem_of_mem_drop (by rw [h];exact List.mem_cons_self))
theorem QsB:(big:Nat)=4294967296:=rfl
theorem bigI:((big:Nat):Int)=4294967296:=rfl
theorem R_eq {α:Type} {R:α→TRes} {x y:α} (h:x=y):R x=R y:=by rw [h]
end Go.Proofs.YtdplaepmjogjjaaGreat.Am
namespace Go.Proofs.YtdplaepmjogjjaaGreat.Am
open Go Go.RowKit
instance (n:Nat):OfNat TOpd n:=⟨.s n⟩
abbrev zci (n:Int):TV:=.c TI n
abbrev zcb (b:Bool):TV:=.c .bool b
abbrev zcs (ts:List CT) (x:List (Tup ts)):TV:=.c (.sl ts) x
def zki (n:Int):TOpd:=.k (.c TI n)
def zkb (b:Bool):TOpd:=.k (.c .bool b)
def zop (d:Nat) (x:TOp):TStm:=.op (some d) x
def zmv (d:Nat) (x:TOpd):TStm:=.op (some d) (.mov x)
def zld (d:Nat) (x:TOpd) (n:Nat):TStm:=.op (some d) (.load x n false)
def zLd (d:Nat) (x:TOpd) (n:Nat):TStm:=.op (some d) (.load x n true)
def zfa (d:Nat) (x:TOpd) (o:Nat):TStm:=.op (some d) (.fad x o)
def zle (d:Nat) (x:TOpd):TStm:=.op (some d) (.len x)
def zbi (d:Nat) (o:BinOp) (x y:TOpd):TStm:=.op (some d) (.bin o x y)
def zst (x v:TOpd) (n:Nat):TStm:=.op none (.store x v n)
def zca (d:Nat) (f:FuncId) (l:List TOpd):TStm:=.op (some d) (.call f l)
def zia (d:Nat) (x i:TOpd) (ts:List CT):TStm:=.op (some d) (.iad x i ts)
def zno (d:Nat) (x:TOpd):TStm:=.op (some d) (.not x)
def zsq:List TCode→TCode
 | []=>.skip
 | [x]=>x
 | x::y::r=>.seq x (zsq (y::r))
def z01:CT→TV
 | .int k=>.c (.int k) (0:Int)
 | .bool=>.c .bool false
 | .str=>.c .str ⟨#[]⟩
 | .nilp=>.c .nilp ()
 | .sl ts=>.n ts
def z0s:List CT→List TV
 | []=>[]
 | t::ts=>z01 t::z0s ts
abbrev zif (c:Bool) (A B:Prop):Prop:=(c=true→A)∧(c=false→B)
def zdl (l:List Nat):List (Nat × Md):=l.map fun i=>(i,.one .d)
def zds (n:Nat):List Md1:=List.replicate n .d
@[reducible] def zre (v:TV):TRes:=⟨v,[],[],false,[]⟩
@[reducible] def zra (v:TV):TRes:=⟨v,[],[],true,[]⟩
theorem tcg {P:Program} {Γ:TTab} {f:FuncId} {tc:TCode} {rs:List (ARv × Md)} {n nb no:Nat} {xs:List TV} {r:TRes} {sg:List Sh} (hm:P.follows .mixedOrders=true) (hΓ:TOk P Γ) (hs:Qeu P f=some (tc.er,rs.map Prod.fst,n))
  (hq:((Q7 sg xs&&Nat.ble xs.length n)&&(Nat.beq (tbxs xs) nb&&Nat.beq (tows xs) no))=true) (h:Hold (tawp Γ (nb+no) tc (TQ nb no rs (fun r'=>r'=r)) (Qg xs))):TCon P f xs r:=by
 simp only [Bool.and_eq_true] at hq
 exact QCW hm hΓ hs hq.1.1 hq.1.2 (Nat.eq_of_beq_eq_true hq.2.1) (Nat.eq_of_beq_eq_true hq.2.2) h
end Go.Proofs.YtdplaepmjogjjaaGreat.Am
namespace Go.Proofs.YtdplaepmjogjjaaGreat.Am
open Sz
abbrev TIns:=Int × Int
abbrev Qe:=Int × List Int
abbrev TOp':=Int × Int × Int × List Int
abbrev Qr:=Int × List (List Int)
abbrev Qh:=List Int × List Int
abbrev Qf:=Int × List Qe
abbrev QT:=List (List Int) × Int × Bool
def Qhc {α:Type} (_:α):Bool:=true
def QvP {α β:Type} (_:α) (_:β):Bool:=true
def QzD {α β γ:Type} (_:α) (_:β) (_:γ):Bool:=true
def QDf {α β γ δ:Type} (_:α) (_:β) (_:γ) (_:δ):Bool:=true
def QxM {α β γ δ ε:Type} (_:α) (_:β) (_:γ) (_:δ) (_:ε):Bool:=true
def Za (n:Nat) (left:Int):Int:=if (n:Int)≤left then left-n else -1
def m_sz {α:Type} [Sz α] (x:α) (left:Int):Int:=Za (sz x) left
def pl (left:Int):Prop:=-1≤left∧left≤1048576
def p_sz {α:Type} [Sz α] (_:α) (left:Int):Prop:=pl left
def m_eq {α:Type} [DecidableEq α] (x y:α):Bool:=decide (x=y)
def p_to {α:Type} [Sz α] (x:α):Prop:=sz x≤1048576
def m_in (x a b:Int):Bool:=decide (a≤x)&&decide (x≤b)
def Zq (x:Int):Bool:=decide (-2147483647≤x)&&decide (x≤2147483647)
def Z6 (v:List Int):Bool:=v.all Zq
def QS (v:List Int):Bool:=m_in v.length 1 6&&Z6 v
def Ym (x:Qe):Bool:=QS x.2&&decide (0≤x.1)&&decide (x.1<5)
def QJ (q:Qf):Bool:=decide (1≤q.1)&&decide (q.1≤5)&&decide ((q.2.length:Int)≤q.1)&&q.2.all Ym
end Go.Proofs.YtdplaepmjogjjaaGreat.Am
namespace Go.Proofs.YtdplaepmjogjjaaGreat.Am
open Go Sz
abbrev QY:=List TOp'
abbrev Qc:=Int × List TIns × List TOp' × Bool × Bool × List Qr × List (List Int) × List Int × List Int × List Int × List Int × List (List Int) × Int × Bool
abbrev QW:=List TOp' × List Int × Int × List Bool × List Int × List Int
abbrev Qp:=List Qh × List Qc × List Qf × List Qf
abbrev TMat:=Int × Int × List Int
abbrev dOp:TOp':=(0,0,0,[])
abbrev dIns:TIns:=(0,0)
abbrev QV:Qr:=(0,[])
abbrev QZ:Qh:=([],[])
abbrev QC:Qf:=(0,[])
abbrev Qv:Qc:=(0,[],[],false,false,[],[],[],[],[],[],[],0,false)
abbrev Qz:List CT:=[.int .i64,.int .i64]
abbrev Qu:List CT:=[.int .i64,.sl [.int .i64]]
abbrev ctOp:List CT:=[.int .i64,.int .i64,.int .i64,.sl [.int .i64]]
abbrev QB:List CT:=[.int .i64,.sl [.sl [.int .i64]]]
abbrev QA:List CT:=[.sl [.int .i64],.sl [.int .i64]]
abbrev Qt:List CT:=[.int .i64,.sl Qu]
abbrev ZA:List CT:=[.sl [.sl [.int .i64]],.int .i64,.bool]
abbrev Qo:List CT:=[.int .i64,.sl Qz,.sl ctOp,.bool,.bool,.sl QB,.sl [.sl [.int .i64]],.sl [.int .i64],.sl [.int .i64],.sl [.int .i64],.sl [.int .i64],.sl [.sl [.int .i64]],.int .i64,.bool]
abbrev Qx:List CT:=[.sl QA,.sl Qo,.sl Qt,.sl Qt]
set_option synthInstance.maxSize 2000
set_option synthInstance.maxHeartbeats 200000
instance:DecidableEq TOp':=inferInstance
instance:DecidableEq Qr:=inferInstance
instance:DecidableEq Qf:=inferInstance
abbrev TSt4:=List Int × List Int × List Int × List Int × QT
abbrev TSt3:=List Qr × List (List Int) × TSt4
abbrev TSt2:=List TOp' × Bool × Bool × TSt3
instance:DecidableEq QT:=inferInstance
instance:DecidableEq TSt4:=inferInstance
instance:DecidableEq TSt3:=inferInstance
instance:DecidableEq TSt2:=inferInstance
instance:DecidableEq Qc:=(inferInstance:DecidableEq (Int × List TIns × TSt2))
instance:DecidableEq QW:=inferInstance
instance:DecidableEq Qp:=inferInstance
instance:Sz Qc:=inferInstance
instance:Sz QW:=inferInstance
instance:Sz Qp:=inferInstance
abbrev sPc (s:Qc):=s.1
abbrev QyD (s:Qc):=s.2.1
abbrev sOps (s:Qc):=s.2.2.1
abbrev Qv2 (s:Qc):=s.2.2.2.1
abbrev QBu (s:Qc):=s.2.2.2.2.1
abbrev QzQ (s:Qc):=s.2.2.2.2.2.1
abbrev QyR (s:Qc):=s.2.2.2.2.2.2.1
abbrev sX (s:Qc):=s.2.2.2.2.2.2.2.1
abbrev sY (s:Qc):=s.2.2.2.2.2.2.2.2.1
abbrev sG (s:Qc):=s.2.2.2.2.2.2.2.2.2.1
abbrev sD (s:Qc):=s.2.2.2.2.2.2.2.2.2.2.1
abbrev QCO (s:Qc):=s.2.2.2.2.2.2.2.2.2.2.2.1
abbrev QFg (s:Qc):=s.2.2.2.2.2.2.2.2.2.2.2.2.1
abbrev sSat (s:Qc):=s.2.2.2.2.2.2.2.2.2.2.2.2.2
abbrev Yk (c:QW):=c.1
abbrev Yh (c:QW):=c.2.1
abbrev cDs (c:QW):=c.2.2.1
abbrev Qqv (c:QW):=c.2.2.2.1
abbrev QDa (c:QW):=c.2.2.2.2.1
abbrev Qq3 (p:Qp):=p.1
abbrev Qb9 (p:Qp):=p.2.1
abbrev Qof (p:Qp):=p.2.2.1
abbrev Qi6 (p:Qp):=p.2.2.2
abbrev Ys (s:Qc):QY:=s.2.2.1
def Q2 (v:List Int) (n:Int):Bool:=QS v&&((v.length:Int)==n)
def Zi (v:List Int) (n:Int):Bool:=((v.length:Int)==0)||Q2 v n
def Zw (o:TOp'):Int :=
 if m_in o.2.1 1 6&&m_in o.2.2.1 1 6 then (if o.1=1∨o.1=5 then o.2.1*o.2.2.1 else if o.1=2 then o.2.1 else if o.1=4 then 1 else 0) else 0
def Zj (o:TOp'):Bool :=
 m_in o.1 1 5&&m_in o.2.1 1 6&&m_in o.2.2.1 1 6&&(o.1==1||o.2.1==o.2.2.1)&&((o.2.2.2.length:Int)==Zw o)&&Z6 o.2.2.2
def Zt:Option Int→List TOp'→Bool
 | _,[]=>true
 | p,o::r=>Zj o&&(match p with | none=>true | some q=>q==o.2.1)&&Zt (some o.2.2.1) r
def QL (m:QY):Bool:=m_in m.length 1 8&&Zt none m
def Z9 (m:QY):Int:=if QL m then (gtd dOp m 0).2.1 else 0
def Z8 (m:QY):Int:=if QL m then (gtd dOp m (m.length-1)).2.2.1 else 0
def Qrs (m:QY) (p:Qh):Bool:=QL m&&Q2 p.1 (Z9 m)&&Q2 p.2 (Z8 m)
def QEW (m:QY) (b:List Qh):Bool:=QL m&&m_in b.length 1 5&&b.all (Qrs m)
def Qqh (n:Int):Option Int→List Int→Bool
 | _,[]=>true
 | p,c::r=>m_in c 1 n&&(match p with | none=>true | some q=>decide (q<c))&&Qqh n (some c) r
def Qav (m:QY) (cuts:List Int):Bool:=QL m&&Qqh (m.length-1) none cuts
def Qpr (m:QY) (cuts:List Int) (s:Int):Int × Int :=
 if Qav m cuts&&m_in s 0 cuts.length then (if 0<s then gtd 0 cuts (s.toNat-1) else 0,if s<cuts.length then gtd 0 cuts s.toNat else m.length) else (0,0)
def slice {α:Type} (l:List α) (a b:Int):List α:=(l.drop a.toNat).take (b.toNat-a.toNat)
def Qeh (c:QW):Int:=if Qav c.1 c.2.1 then w64 (c.2.1.length+1) else 0
def QoE (c:QW) (s:Int):Int :=
 let r:=Qpr c.1 c.2.1 s
 w64 (((slice c.1 r.1 r.2).map fun o=>o.2.1).sum+if r.1<r.2 then (gtd dOp c.1 (r.2.toNat-1)).2.2.1 else 0)
def Qno (c:QW) (s:Int):Bool:=decide (0≤s)&&decide (s<c.2.2.2.1.length)&&gtd false c.2.2.2.1 s.toNat
def Qi4 (c:QW) (s:Int):Int × Int :=
 let r:=Qpr c.1 c.2.1 s
 if r.1=r.2 then (0,0) else ((gtd dOp c.1 r.1.toNat).2.1,(gtd dOp c.1 (r.2.toNat-1)).2.2.1)
def Qux (c:QW) (s:Int):Int:=if Qno c s then (Qi4 c s).1 else QoE c s
def iMin (a b:Int):Int:=if b<a then b else a
def iMax (a b:Int):Int:=if a<b then b else a
def QzJ (c:QW) (s micro:Int):Int :=
 if m_in s 0 (Qeh c-1)&&m_in micro 1 5&&decide (Qeh c≤4) then
  (let k:=if c.2.2.1=2 then iMin micro (Qeh c-s) else micro
   let z:=Qi4 c s
   w64 (w64 (w64 (k*Qux c s)+iMax z.1 z.2)+if Qno c s then QoE c s else 0))
 else 0
def QtL (c:QW):Bool:=(c.2.2.2.2.1.length==c.2.1.length)&&c.2.2.2.2.1.all fun n=>m_in n 1 5
def Qou (c:QW) (micro:Int):List Int→Int→Bool
 | [],_=>true
 | n::r,s=>m_in n (QzJ c s micro) 100000&&Qou c micro r (s+1)
def QzI (c:QW) (micro:Int):Bool:=((c.2.2.2.2.2.length:Int)==Qeh c)&&Qou c micro c.2.2.2.2.2 0
def QqD (st s mi:Int):Bool:=m_in st 1 4&&m_in s 0 (st-1)&&m_in mi 1 5
def QA7 (ds st s mi:Int):Int:=if QqD st s mi then (if ds=2 then iMin mi (st-1-s) else mi) else 0
def QmU (st s m:Int):List TIns:=(if 0<s then [(1,m)] else [])++[(2,m)]++(if s<st-1 then [(3,m)] else [])
def Qwi (st s m:Int) (redo:Bool):List TIns:=(if s<st-1 then [(4,m)] else [])++(if redo then [(5,m)] else [])++[(6,m)]++(if 0<s then [(7,m)] else [])
def QCZ (ds st s mi:Int) (redo:Bool):List TIns :=
 if m_in ds 1 2&&QqD st s mi then
  (let w:=(QA7 ds st s mi).toNat
   ((List.range w).flatMap fun m:Nat=>QmU st s (m:Int))++((List.range mi.toNat).flatMap fun m:Nat=>(if (m:Int)+w<mi then QmU st s ((m:Int)+w) else [])++Qwi st s (m:Int) redo)++[(8,0)])
 else []
def Yt:List TOp'→List (List Int)→Bool
 | o::os,r::rs=>(r.length==o.2.2.2.length)&&Yt os rs
 | _,_=>true
def Zv (m:QY) (rows:List (List Int)):Bool:=(rows.length==m.length)&&Yt m rows
def Z3 (ops:List TOp') (k:Nat):Int:=if k<ops.length then (gtd dOp ops k).2.1 else (gtd dOp ops (ops.length-1)).2.2.1
def Yg (ops:List TOp'):Nat→List (List Int)→Bool
 | _,[]=>true
 | k,r::rs=>Q2 r (Z3 ops k)&&Yg ops (k+1) rs
def Z2 (ops:List TOp') (rows:List (List Int)) (n:Int):Bool:=Yg ops 0 (rows.take n.toNat)
def Qh6 (ops:List TOp') (rows:List (List Int)) (n:Int):Prop:=1≤ops.length∧0≤n∧n≤rows.length
def Q0 (s:Qc):Int:=if s.2.2.2.2.1 then 1 else s.2.2.1.length+1
def Zr (s:Qc) (x:Qr):Bool:=((x.2.length:Int)==Q0 s)&&Z2 s.2.2.1 x.2 (Q0 s)
def QM (s:Qc):Bool :=
 QL s.2.2.1&&m_in s.1 0 s.2.1.length&&Zv s.2.2.1 s.2.2.2.2.2.2.2.2.2.2.2.1&&s.2.2.2.2.2.1.all (Zr s) &&
  (Zi s.2.2.2.2.2.2.2.1 (Z9 s.2.2.1)&&Zi s.2.2.2.2.2.2.2.2.2.2.1 (Z9 s.2.2.1)&&Zi s.2.2.2.2.2.2.2.2.1 (Z8 s.2.2.1)&&Zi s.2.2.2.2.2.2.2.2.2.1 (Z8 s.2.2.1))
def Qbq (s:Qc):TIns:=if m_in s.1 0 (s.2.1.length-1) then gtd dIns s.2.1 s.1.toNat else (0,0)
def QG (p:Qp) (s:Int):TIns:=if m_in s 0 (p.2.1.length-1) then Qbq (gtd Qv p.2.1 s.toNat) else (0,0)
def ZY (x:Qh):Bool:=QS x.1&&QS x.2
def Ya (nb:Int):List Qc→Bool
 | []=>true
 | s::r=>QM s&&(s.2.2.2.1==decide (r.length=0))&&s.2.1.all (fun x=>m_in x.2 0 (nb-1))&&Ya nb r
def QF (p:Qp):Bool :=
 m_in p.2.1.length 1 4&&(p.2.2.1.length+1==p.2.1.length)&&(p.2.2.2.length+1==p.2.1.length)&&m_in p.1.length 1 5 &&
  (p.1.all ZY&&(p.2.2.1.all QJ&&p.2.2.2.all QJ)&&Ya p.1.length p.2.1)
def Jp (q:Qf):Bool:=decide ((q.2.length:Int)<q.1)
def ZJ (s:Qc):Bool:=decide ((s.2.1.length:Int)-1≤s.1)
def Yl (p:Qp):Bool:=p.2.1.all ZJ
def Yj (p:Qp) (s kind:Int):Bool :=
 let n:Int:=p.2.1.length
 if kind=1 then decide (0<s)&&decide (0<(gtd QC p.2.2.1 (s.toNat-1)).2.length)
 else if kind=3 then decide (s<n-1)&&Jp (gtd QC p.2.2.1 s.toNat)
 else if kind=4 then decide (s<n-1)&&decide (0<(gtd QC p.2.2.2 s.toNat).2.length)
 else if kind=7 then decide (0<s)&&Jp (gtd QC p.2.2.2 (s.toNat-1))
 else if kind=2∨kind=5∨kind=6 then true
 else if kind=8 then Yl p else false
def QO (p:Qp) (s:Int):Bool:=QF p&&m_in s 0 (p.2.1.length-1)&&Yj p s (QG p s).1
end Go.Proofs.YtdplaepmjogjjaaGreat.Am
namespace Go.Proofs.YtdplaepmjogjjaaGreat.Am
open Go Sz
theorem pl_0:pl 1048576:=⟨by omega,by omega⟩
theorem ZU {n:Nat} {left:Int} (h:pl left):pl (Za n left):=by
 unfold Za pl at *
 split <;> omega
theorem ZW {α β:Type} [Sz α] [Sz β] {x:α} {y:β} {left:Int} (hl:0≤m_sz x left):m_sz y (m_sz x left)=m_sz (x,y) left:=by
 unfold m_sz Za at *
 rw [QgX]
 split at hl
 ·rename_i h1
  rw [if_pos h1]
  split <;> split <;> omega
 ·omega
theorem Q6 {α γ:Type} [Sz α] [Sz γ] {x:α} {z:γ} {left:Int} (hl:m_sz x left<0) (h:sz x≤sz z) (hp:-1≤left):-1=m_sz z left:=by
 unfold m_sz Za at *
 split at hl
 ·omega
 ·rw [if_neg (by omega)]
theorem QDS {α:Type} [Sz α] {x:α} {left:Int} (h:¬ m_sz x left<0) (hl:left≤1048576):p_to x:=by
 unfold m_sz Za at h
 unfold p_to
 split at h <;> omega
theorem QvC {α:Type} [Sz α] (l:List α) (h:∀ x:α,sz x=0):sz l=l.length:=by
 induction l with
 | nil=>rfl
 | cons x l ih=>simp [ih,h];omega
theorem Qm4 {α:Type} [Sz α] {a:List α} {left:Int} (h:p_sz a left) (hb:a.length≤9223372036854775807):w64 (left-(a.length:Int))=left-a.length:=by
 unfold p_sz pl at h
 exact Qw (by omega) (by omega)
theorem QjX {α:Type} [Sz α] {a:List α} {left:Int} {Q:Int→Prop} (hf:∀ x:α,sz x=0) (h:p_sz a left) (hb:a.length≤9223372036854775807) (hq:Q (m_sz a left)) :
  ((decide (w64 (left-(a.length:Int))<(0:Int))=true→Q (-1))∧(decide (w64 (left-(a.length:Int))<(0:Int))=false→Q (w64 (left-(a.length:Int))))):=by
 rw [Qm4 h hb]
 unfold m_sz Za at hq
 rw [QvC a hf] at hq
 constructor
 ·intro h1
  simp only [decide_eq_true_eq] at h1
  rw [if_neg (by omega)] at hq
  exact hq
 ·intro h1
  simp only [decide_eq_false_iff_not] at h1
  rw [if_pos (by omega)] at hq
  exact hq
theorem JM {α:Type} [Sz α] (d:α) {a:List α} {left:Int} {Q:Int→Prop} {A:Int→Int→Prop} (h:p_sz a left) (hb:a.length≤9223372036854775807)
  (hA:∀ (l i:Int),((decide (i<(a.length:Int))=true→((((0:Int)≤i∧Int.toNat i<a.length)∧(p_sz (gtd d a (Int.toNat i)) l))∧((decide (m_sz (gtd d a (Int.toNat i)) l<(0:Int))=true→Q (-1))∧(decide (m_sz (gtd d a (Int.toNat i)) l<(0:Int))=false→A (m_sz (gtd d a (Int.toNat i)) l) (w64 (i+(1:Int)))))))∧(decide (i<(a.length:Int))=false→Q l))→A l i)
  (hq:Q (m_sz a left)) :
  ((decide (w64 (left-(a.length:Int))<(0:Int))=true→Q (-1))∧(decide (w64 (left-(a.length:Int))<(0:Int))=false→A (w64 (left-(a.length:Int))) 0)):=by
 rw [Qm4 h hb]
 constructor
 ·intro h1
  simp only [decide_eq_true_eq] at h1
  have hle:=QaW a
  rw [m_sz,Za,if_neg (by omega)] at hq
  exact hq
 ·intro h1
  simp only [decide_eq_false_iff_not] at h1
  have key:∀ l:Int,0≤l→l≤1048576→(if (sz a-a.length:Int)≤l then l-(sz a-a.length:Int) else -1)=m_sz a left→A l (0:Nat):=by
   refine Zp a (fun r k=>∀ l:Int,0≤l→l≤1048576→(if (sz r-r.length:Int)≤l then l-(sz r-r.length:Int) else -1)=m_sz a left→A l k) ?_ ?_
   ·intro l hl hl2 he
    refine hA l _ ⟨fun hc=>by simp at hc,fun _=>?_⟩
    have e0:((sz ([]:List α):Nat):Int)-(([]:List α).length:Nat)=0:=rfl
    rw [e0,if_pos hl] at he
    rw [← he] at hq
    simpa using hq
   ·intro k x r hk hlt hg ih l hl hl2 he
    have hr:=QaW r
    have e1:((sz (x::r):Nat):Int)-((x::r).length:Nat)=sz x+(sz r-r.length):=by
     rw [QjK,List.length_cons];omega
    rw [e1] at he
    refine hA l _ ⟨fun _=>?_,fun hc=>by simp at hc;omega⟩
    rw [Int.toNat_natCast,hg d]
    refine ⟨⟨⟨by omega,hlt⟩,by unfold p_sz pl;omega⟩,fun h2=>?_,fun h2=>?_⟩
    ·simp only [decide_eq_true_eq] at h2
     unfold m_sz Za at h2
     split at h2
     ·omega
     ·rw [if_neg (by omega)] at he;rw [he];exact hq
    ·simp only [decide_eq_false_iff_not] at h2
     unfold m_sz Za at h2 ⊢
     split at h2
     rotate_left
     ·omega
     rw [if_pos (by assumption),Qw (by omega) (by omega),show (k:Int)+1=(k+1:Nat) by omega]
     refine ih _ (by omega) (by omega) ?_
     rw [← he]
     split <;> split <;> omega
  have:=key (left-a.length) (by omega) (by unfold p_sz pl at h;omega) (by
   unfold m_sz Za
   split <;> split <;> omega)
  exact this
theorem YH {α:Type} [DecidableEq α] (d:α) {a b:List α} {Q:Bool→Prop} {A:Int→Prop} {E:α→α→Bool} (hE:∀ x y,E x y=decide (x=y)) (hb:a.length≤9223372036854775807)
  (hA:∀ (i:Int),((decide (i<(a.length:Int))=true→((((0:Int)≤i∧Int.toNat i<a.length)∧((0:Int)≤i∧Int.toNat i<b.length))∧(((!(E (gtd d a (Int.toNat i)) (gtd d b (Int.toNat i))))=true→Q false)∧((!(E (gtd d a (Int.toNat i)) (gtd d b (Int.toNat i))))=false→A (w64 (i+(1:Int)))))))∧(decide (i<(a.length:Int))=false→Q true))→A i)
  (hq:Q (m_eq a b)):((((a.length:Int) != (b.length:Int))=true→Q false)∧(((a.length:Int) != (b.length:Int))=false→A 0)):=by
 constructor
 ·intro h
  have:a≠b:=by rintro rfl;simp at h
  simpa [m_eq,this] using hq
 ·intro h
  have hl:a.length=b.length:=by
   have h:((a.length:Int)==(b.length:Int))=true:=by simpa [bne] using h
   have:=of_decide_eq_true (by simpa using h:decide ((a.length:Int)=b.length)=true)
   omega
  have key:m_eq (a.drop 0) (b.drop 0)=m_eq a b→A (0:Nat):=by
   refine Zp a (fun r k=>m_eq r (b.drop k)=m_eq a b→A k) ?_ ?_
   ·intro he
    refine hA _ ⟨fun hc=>by simp at hc,fun _=>?_⟩
    rw [← he] at hq
    simpa [m_eq,hl] using hq
   ·intro k x r hk hlt hg ih he
    refine hA _ ⟨fun _=>?_,fun hc=>by simp at hc;omega⟩
    obtain ⟨y,s,hbk⟩:∃ y s,b.drop k=y::s:=by
     cases hbk:b.drop k with
     | nil=>have:=congrArg List.length hbk;simp at this;omega
     | cons y s=>exact ⟨y,s,rfl⟩
    rw [Int.toNat_natCast,hg d,Jh hbk d,hE]
    refine ⟨⟨⟨by omega,hlt⟩,by omega,by omega⟩,fun h1=>?_,fun h1=>?_⟩
    ·have hne:x≠y:=by simpa using h1
     rw [← he,hbk] at hq
     simpa [m_eq,hne] using hq
    ·have hxy:x=y:=by simpa using h1
     rw [Qw (by omega) (by omega),show (k:Int)+1=(k+1:Nat) by omega]
     refine ih ?_
     rw [← he,hbk,Jm hbk]
     simp [m_eq,hxy]
  exact key rfl
theorem QDH {a b:List Int} {Q:Bool→Prop} {A:Int→Prop} (hb:a.length≤9223372036854775807)
  (hA:∀ (i:Int),((decide (i<(a.length:Int))=true→((((0:Int)≤i∧Int.toNat i<a.length)∧((0:Int)≤i∧Int.toNat i<b.length))∧((((gtd (0:Int) a (Int.toNat i)) != (gtd (0:Int) b (Int.toNat i)))=true→Q false)∧(((gtd (0:Int) a (Int.toNat i)) != (gtd (0:Int) b (Int.toNat i)))=false→A (w64 (i+(1:Int)))))))∧(decide (i<(a.length:Int))=false→Q true))→A i)
  (hq:Q (m_eq a b)):((((a.length:Int) != (b.length:Int))=true→Q false)∧(((a.length:Int) != (b.length:Int))=false→A 0)) :=
 YH (0:Int) (E:=fun x y=>x==y) (fun x y=>by rw [Bool.eq_iff_iff];simp) hb (fun i h=>hA i h) hq
theorem Qac {α:Type} (d:α) {l:List α} {c p:α→Bool} {Q:Bool→Prop} {A:Int→Prop} {e:Bool} (hb:l.length≤9223372036854775807) (hc:∀ x,c x = !p x)
  (hA:∀ (i:Int),((decide (i<(l.length:Int))=true→(((0:Int)≤i∧Int.toNat i<l.length)∧((c (gtd d l (Int.toNat i))=true→Q false)∧(c (gtd d l (Int.toNat i))=false→A (w64 (i+(1:Int)))))))∧(decide (i<(l.length:Int))=false→Q e))→A i)
  (hq:Q (l.all p&&e)):A 0:=by
 have key:(l.drop 0).all p=l.all p→A (0:Nat):=by
  refine Zp l (fun r k=>r.all p=l.all p→A k) ?_ ?_
  ·intro he
   refine hA _ ⟨fun h=>by simp at h,fun _=>?_⟩
   rw [← he] at hq
   simpa using hq
  ·intro k x r hk hlt hg ih he
   refine hA _ ⟨fun _=>?_,fun h=>by simp at h;omega⟩
   rw [Int.toNat_natCast,hg,Qw (by omega) (by omega)]
   refine ⟨⟨by omega,hlt⟩,fun h=>?_,fun h=>ih ?_⟩
   ·have hp:p x=false:=by simpa [hc] using h
    have:l.all p=false:=by rw [← he,List.all_cons,hp];rfl
    rw [this] at hq
    exact hq
   ·have hp:p x=true:=by simpa [hc] using h
    rw [← he,List.all_cons,hp]
    rfl
 exact key rfl
end Go.Proofs.YtdplaepmjogjjaaGreat.Am

