/- -/
import Derived.Test.YtdplaepmjogjjaaGreatVEG5
import Derived.Test.YtdplaepmjogjjaaGreatProg
set_option linter.all false
namespace Go.Proofs.YtdplaepmjogjjaaGreat.Am
open Go Go.RowKit Go.Proofs.YtdplaepmjogjjaaGreat
abbrev TI:CT:=.int .i64
abbrev w64 (x:Int):Int:=IntKind.i64.wrap x
def Loop (Γ:TTab) (nl:Nat) (L:List (Nat × Md)) (x:TCode) (Q:Qb) (s:TSt):Prop :=
 Lfp (fun R s=>tawp Γ nl x (Qseq (fun s'=>R (gc nl L s')) Q) s) s
theorem QDh {Γ:TTab} {nl:Nat} {L:List (Nat × Md)} {x:TCode} {Q:Qb} {s:TSt}
  (h:tawp Γ nl x (Qseq (fun s'=>Loop Γ nl L x Q (gc nl L s')) Q) s):Loop Γ nl L x Q s:=QAs h
structure Hold (p:Prop):Prop where
 h:p
theorem Hold.of {p F:Prop} (e:F=p) (h:F):Hold p:=⟨e ▸ h⟩
theorem Loop.of {Γ:TTab} {nl:Nat} {L:List (Nat × Md)} {x:TCode} {Q:Qb} {s:TSt} {F:Prop}
  (e:F=tawp Γ nl x (Qseq (fun s'=>Loop Γ nl L x Q (gc nl L s')) Q) s) (h:F):Loop Γ nl L x Q s:=QDh (e ▸ h)
def gtd {α:Type} (d:α) (l:List α) (i:Nat):α:=l.getD i d
@[reducible] def Sh.den:Sh→Type
 | .c t=>t.den
 | .a ts=>Tup ts
 | .b ts=>Tup ts
 | .o _ ts=>List (Tup ts)
 | .d ts=>List (Tup ts)
 | .s ts=>Tup ts
@[reducible] def DenL:List Sh→Type
 | []=>Unit
 | s::ss=>s.den × DenL ss
def QuK:(t:CT)→t.den→TV
 | .sl us,l=>.ow 0 us dw l
 | .int k,x=>.c (.int k) x
 | .bool,x=>.c .bool x
 | .str,x=>.c .str x
 | .nilp,x=>.c .nilp x
def Tup.cellsO:(ts:List CT)→Tup ts→List TV
 | [],_=>[]
 | t::ts,x=>QuK t (hd ts x)::Tup.cellsO ts (tl ts x)
def Sh.val:(s:Sh)→s.den→TV
 | .c t,x=>.c t x
 | .a ts,x=>.a (Tup.cells ts x)
 | .b ts,x=>.bx (Tup.cells ts x)
 | .o e ts,x=>.ow e ts .ow x
 | .d ts,x=>.ow 0 ts dw x
 | .s ts,x=>.a (Tup.cellsO ts x)
def valL:(ss:List Sh)→DenL ss→List TV
 | [],_=>[]
 | s::ss,x=>s.val x.1::valL ss x.2
def decD (t:CT):TV→Option t.den
 | .c t' x=>if e:t'.beq t=true then some (Qgr e x) else none
 | _=>none
def decT:(ts:List CT)→List TV→Option (Tup ts)
 | [],xs=>match xs with
  | []=>some ()
  | _=>none
 | t::ts,xs=>match xs with
  | x::xs=>match decD t x,decT ts xs with
   | some a,some b=>some (mkT ts a b)
   | _,_=>none
  | []=>none
def isOw:Mo→Bool
 | .ow=>true
 | _=>false
def decW (m0:Mo→Bool) (e:TypeId) (ts:List CT):TV→Option (List (Tup ts))
 | .ow e' ts' m es=>if q:CT.beqL ts' ts=true then (bif Nat.beq e' e&&m0 m then some (QbB q es) else none) else none
 | _=>none
def decO:(t:CT)→TV→Option t.den
 | .sl us,x=>decW isDw 0 us x
 | .int k,x=>decD (.int k) x
 | .bool,x=>decD .bool x
 | .str,x=>decD .str x
 | .nilp,x=>decD .nilp x
def decS:(ts:List CT)→List TV→Option (Tup ts)
 | [],xs=>match xs with
  | []=>some ()
  | _=>none
 | t::ts,xs=>match xs with
  | x::xs=>match decO t x,decS ts xs with
   | some a,some b=>some (mkT ts a b)
   | _,_=>none
  | []=>none
def Sh.dec:(s:Sh)→TV→Option s.den
 | .c t,x=>decD t x
 | .a ts,x=>match x with
  | .a cs=>decT ts cs
  | _=>none
 | .b ts,x=>match x with
  | .bx cs=>decT ts cs
  | _=>none
 | .o e ts,x=>decW isOw e ts x
 | .d ts,x=>decW isDw 0 ts x
 | .s ts,x=>match x with
  | .a cs=>decS ts cs
  | _=>none
def decL:(ss:List Sh)→List TV→Option (DenL ss)
 | [],xs=>match xs with
  | []=>some ()
  | _=>none
 | s::ss,xs=>match xs with
  | x::xs=>match s.dec x,decL ss xs with
   | some a,some b=>some (a,b)
   | _,_=>none
  | []=>none
theorem QgT {t:CT} {v:TV} {x:t.den} (h:decD t v=some x):v = .c t x:=by
 cases v with
 | c t' y =>
  simp only [decD] at h
  split at h
  ·rename_i e
   have e':=CT.beq_eq _ _ e
   subst e'
   cases h
   rfl
  ·cases h
 | _=>simp [decD] at h
theorem QjC:∀ {ts:List CT} {vs:List TV} {x:Tup ts},decT ts vs=some x→vs=Tup.cells ts x
 | [],vs,x,h=>by
  cases vs with
  | nil=>rfl
  | cons v vs=>simp [decT] at h
 | t::ts,vs,x,h=>by
  cases vs with
  | nil=>simp [decT] at h
  | cons v vs =>
   simp only [decT] at h
   split at h
   rotate_left
   ·cases h
   rename_i a b h1 h2
   cases h
   rw [Tup.cells,QgT h1,QjC h2,Qcd,Qc8]
theorem QHo {m:Mo} (h:isOw m=true):m = .ow:=by
 cases m <;> first | rfl | cases h
theorem QgH {m0:Mo→Bool} {m1:Mo} (hm:∀ m,m0 m=true→m=m1) {e:TypeId} {ts:List CT} {v:TV} {x:List (Tup ts)} (h:decW m0 e ts v=some x):v = .ow e ts m1 x:=by
 cases v with
 | ow e' ts' m es =>
  simp only [decW] at h
  split at h
  ·rename_i q
   have q':=CT.beqL_eq _ _ q
   subst q'
   cases hb:Nat.beq e' e&&m0 m with
   | false=>rw [hb] at h;cases h
   | true =>
    rw [hb] at h
    cases h
    rw [Bool.and_eq_true] at hb
    have:=Nat.eq_of_beq_eq_true hb.1
    subst this
    rw [hm m hb.2]
    rfl
  ·cases h
 | _=>simp [decW] at h
theorem QBD {t:CT} {v:TV} {x:t.den} (h:decO t v=some x):v=QuK t x:=by
 cases t with
 | sl us=>exact QgH (fun _=>QfW) h
 | _=>exact QgT h
theorem Qlz:∀ {ts:List CT} {vs:List TV} {x:Tup ts},decS ts vs=some x→vs=Tup.cellsO ts x
 | [],vs,x,h=>by
  cases vs with
  | nil=>rfl
  | cons v vs=>simp [decS] at h
 | t::ts,vs,x,h=>by
  cases vs with
  | nil=>simp [decS] at h
  | cons v vs =>
   simp only [decS] at h
   split at h
   rotate_left
   ·cases h
   rename_i a b h1 h2
   cases h
   rw [Tup.cellsO,QBD h1,Qlz h2,Qcd,Qc8]
theorem QFq {s:Sh} {v:TV} {x:s.den} (h:s.dec v=some x):v=s.val x:=by
 cases s with
 | c t=>exact QgT h
 | a ts =>
  cases v with
  | a cs=>exact congrArg TV.a (QjC h)
  | _=>simp [Sh.dec] at h
 | b ts =>
  cases v with
  | bx cs=>exact congrArg TV.bx (QjC h)
  | _=>simp [Sh.dec] at h
 | o e ts=>exact QgH (fun _=>QHo) h
 | d ts=>exact QgH (fun _=>QfW) h
 | s ts =>
  cases v with
  | a cs=>exact congrArg TV.a (Qlz h)
  | _=>simp [Sh.dec] at h
theorem Qnl:∀ {ss:List Sh} {vs:List TV} {x:DenL ss},decL ss vs=some x→vs=valL ss x
 | [],vs,x,h=>by
  cases vs with
  | nil=>rfl
  | cons v vs=>simp [decL] at h
 | s::ss,vs,x,h=>by
  cases vs with
  | nil=>simp [decL] at h
  | cons v vs =>
   simp only [decL] at h
   split at h
   rotate_left
   ·cases h
   rename_i a b h1 h2
   cases h
   rw [valL,QFq h1,Qnl h2]
def Qg (f:FuncId) (sg:List Sh) (g:DenL sg→Option Prop × TRes):TRow:=⟨f,sg,fun vs=>match decL sg vs with
 | some x=>some (g x)
 | none=>none⟩
theorem Qm {P:Program} {f:FuncId} {sg:List Sh} {g:DenL sg→Option Prop × TRes} (h:∀ x:DenL sg,holds (g x).1→TCon P f (valL sg x) (g x).2):Qi P (Qg f sg g):=by
 intro vs pre r hf hr hp
 simp only [Qg] at hr
 split at hr
 ·rename_i x hx
  rw [Qnl hx]
  cases hg:g x with
  | mk p r' =>
   rw [hg] at hr
   cases hr
   have:=h x
   rw [hg] at this
   exact this hp
 ·cases hr
theorem Qzw {P:Program} {Γ:TTab} {f:FuncId} {tc:TCode} {rs:List (ARv × Md)} {n nb no:Nat} {xs:List TV} {r:TRes} {sg:List Sh} (hm:P.follows .mixedOrders=true) (hΓ:TOk P Γ) (hs:Qfi P f=some (tc.er,rs.map Prod.fst,n))
  (hfit:Zi sg xs=true) (hN:Nat.ble xs.length n=true) (hnl:tbxs xs=nb) (hno:tows xs=no) (h:Hold (tawp Γ (nb+no) tc (TQ nb no rs (fun r'=>r'=r)) (Qe xs))):TCon P f xs r:=by
 subst hnl
 subst hno
 exact Qyc hm hΓ hs hfit (Nat.le_of_ble_eq_true hN) h.h
theorem Qk:Tryz.prog.follows .mixedOrders=true:=by kernel_rfl
end Go.Proofs.YtdplaepmjogjjaaGreat.Am
namespace Go.Proofs.YtdplaepmjogjjaaGreat.Am
open Go Go.RowKit Go.Proofs.YtdplaepmjogjjaaGreat
theorem Qx {x:Int} (h1:-9223372036854775808≤x) (h2:x<9223372036854775808):w64 x=x:=IntWalk.i64_in x (by omega)
theorem Qiq {α:Type} {l r:List α} {x:α} {k:Nat} (h:l.drop k=x::r) (d:α):gtd d l k=x:=by
 unfold gtd
 have:l[k]? = some x:=by
  have:=congrArg List.head? h
  simpa [List.head?_drop] using this
 rw [List.getD_eq_getElem?_getD,this];rfl
theorem QAc {α:Type} {l r:List α} {x:α} {k:Nat} (h:l.drop k=x::r):k<l.length:=by
 apply Classical.byContradiction
 intro hn
 rw [List.drop_eq_nil_of_le (by omega)] at h
 cases h
theorem Qix {α:Type} {l r:List α} {x:α} {k:Nat} (h:l.drop k=x::r):l.drop (k+1)=r:=by
 have:=congrArg List.tail h
 simpa [List.tail_drop] using this
theorem Zy {α:Type} (l:List α) (P:List α→Nat→Prop) (h0:P [] l.length) (hs:∀ (k:Nat) (x:α) (r:List α),l.drop k=x::r→k<l.length→(∀ d,gtd d l k=x)→P r (k+1)→P (x::r) k):P l 0:=by
 suffices ∀ (r:List α) (k:Nat),l.drop k=r→k≤l.length→P r k from this l 0 rfl (Nat.zero_le _)
 intro r
 induction r with
 | nil =>
  intro k hk hle
  have:l.length≤k:=by simpa using hk
  rw [show k=l.length by omega]
  exact h0
 | cons x r ih =>
  intro k hk hle
  have hlt:=QAc hk
  exact hs k x r hk hlt (Qiq hk) (ih (k+1) (Qix hk) hlt)
theorem Qbv (n:Nat) (P:Nat→Prop) (h0:P n) (hs:∀ k,k<n→P (k+1)→P k):P 0:=by
 suffices ∀ j k,k+j=n→P k from this n 0 (by omega)
 intro j
 induction j with
 | zero=>intro k hk;rw [show k=n by omega];exact h0
 | succ j ih=>intro k hk;exact hs k (by omega) (ih (k+1) (by omega))
class Sz (α:Type) where
 sz:α→Nat
instance:Sz Int:=⟨fun _=>0⟩
instance:Sz Bool:=⟨fun _=>0⟩
instance:Sz ByteArray:=⟨fun _=>0⟩
instance {α β:Type} [Sz α] [Sz β]:Sz (α × β):=⟨fun x=>Sz.sz x.1+Sz.sz x.2⟩
def szL {α:Type} [Sz α]:List α→Nat
 | []=>0
 | x::r=>1+Sz.sz x+szL r
instance {α:Type} [Sz α]:Sz (List α):=⟨szL⟩
open Sz
@[simp] theorem QS (x:Int):sz x=0:=rfl
@[simp] theorem Za (x:Bool):sz x=0:=rfl
@[simp] theorem QcN {α β:Type} [Sz α] [Sz β] (x:α) (y:β):sz (x,y)=sz x+sz y:=rfl
theorem QM {α β:Type} [Sz α] [Sz β] (x:α × β):sz x=sz x.1+sz x.2:=rfl
@[simp] theorem QJE {α:Type} [Sz α]:sz ([]:List α)=0:=rfl
@[simp] theorem Qai {α:Type} [Sz α] (x:α) (r:List α):sz (x::r)=1+sz x+sz r:=rfl
@[simp] theorem Qla {α:Type} [Sz α] (l r:List α):sz (l++r)=sz l+sz r:=by
 induction l with
 | nil=>simp
 | cons x l ih=>simp [ih];omega
theorem Qav {α:Type} [Sz α] (l:List α):l.length≤sz l:=by
 induction l with
 | nil=>simp
 | cons x l ih=>simp;omega
theorem J5 (l:List Int):sz l=l.length:=by
 induction l with
 | nil=>rfl
 | cons x l ih=>simp [ih];omega
theorem Qzb {α:Type} [Sz α] {l:List α} {x:α} (h:x∈l):sz x<sz l:=by
 induction l with
 | nil=>cases h
 | cons y l ih =>
  rcases List.mem_cons.1 h with rfl | h
  ·simp;omega
  ·have:=ih h;simp;omega
theorem Qjv {α:Type} [Sz α] {l r:List α} {x:α} {k:Nat} (h:l.drop k=x::r):sz x<sz l:=Qzb (List.mem_of_mem_drop (by rw [h];exact List.mem_cons_self))
theorem Qpj {α:Type} [Sz α] (l:List α) (k:Nat):sz (l.take k)+sz (l.drop k)=sz l:=by
 rw [← Qla,List.take_append_drop]
theorem QoI {α:Type} [Sz α] (l:List α) (k:Nat):sz (l.take k)≤sz l:=by have:=Qpj l k;omega
theorem Qp8 {α:Type} [Sz α] (l:List α) (k:Nat):sz (l.drop k)≤sz l:=by have:=Qpj l k;omega
theorem Q3:(big:Nat)=4294967296:=rfl
theorem bigI:((big:Nat):Int)=4294967296:=rfl
theorem R_eq {α:Type} {R:α→TRes} {x y:α} (h:x=y):R x=R y:=by rw [h]
end Go.Proofs.YtdplaepmjogjjaaGreat.Am
namespace Go.Proofs.YtdplaepmjogjjaaGreat.Am
open Go Go.RowKit
instance (n:Nat):OfNat TOpd n:=⟨.s n⟩
abbrev zci (n:Int):TV:=.c TI n
abbrev zcb (b:Bool):TV:=.c .bool b
abbrev zcs (ts:List CT) (x:List (Tup ts)):TV:=.c (.sl ts) x
def zki (n:Int):TOpd:=.k (.c TI n)
def zkb (b:Bool):TOpd:=.k (.c .bool b)
def zop (d:Nat) (x:TOp):TStm:=.op (some d) x
def zmv (d:Nat) (x:TOpd):TStm:=.op (some d) (.mov x)
def zld (d:Nat) (x:TOpd) (n:Nat):TStm:=.op (some d) (.load x n false)
def zLd (d:Nat) (x:TOpd) (n:Nat):TStm:=.op (some d) (.load x n true)
def zfa (d:Nat) (x:TOpd) (o:Nat):TStm:=.op (some d) (.fad x o)
def zle (d:Nat) (x:TOpd):TStm:=.op (some d) (.len x)
def zbi (d:Nat) (o:BinOp) (x y:TOpd):TStm:=.op (some d) (.bin o x y)
def zst (x v:TOpd) (n:Nat):TStm:=.op none (.store x v n)
def zca (d:Nat) (f:FuncId) (l:List TOpd):TStm:=.op (some d) (.call f l)
def zia (d:Nat) (x i:TOpd) (ts:List CT):TStm:=.op (some d) (.iad x i ts)
def zno (d:Nat) (x:TOpd):TStm:=.op (some d) (.not x)
def zex (d:Nat) (x:TOpd) (i:Nat):TStm:=.op (some d) (.ext x i)
def zsq:List TCode→TCode
 | []=>.skip
 | [x]=>x
 | x::y::r=>.seq x (zsq (y::r))
def z01:CT→TV
 | .int k=>.c (.int k) (0:Int)
 | .bool=>.c .bool false
 | .str=>.c .str ⟨#[]⟩
 | .nilp=>.c .nilp ()
 | .sl ts=>.n ts
def z0s:List CT→List TV
 | []=>[]
 | t::ts=>z01 t::z0s ts
abbrev zif (c:Bool) (A B:Prop):Prop:=(c=true→A)∧(c=false→B)
def zdl (l:List Nat):List (Nat × Md):=l.map fun i=>(i,.one .d)
def zds (n:Nat):List Md1:=List.replicate n .d
@[reducible] def zre (v:TV):TRes:=⟨v,[],[],false,[]⟩
@[reducible] def zra (v:TV):TRes:=⟨v,[],[],true,[]⟩
theorem tcg {P:Program} {Γ:TTab} {f:FuncId} {tc:TCode} {rs:List (ARv × Md)} {n nb no:Nat} {xs:List TV} {r:TRes} {sg:List Sh} (hm:P.follows .mixedOrders=true) (hΓ:TOk P Γ) (hs:Qfi P f=some (tc.er,rs.map Prod.fst,n))
  (hq:((Zi sg xs&&Nat.ble xs.length n)&&(Nat.beq (tbxs xs) nb&&Nat.beq (tows xs) no))=true) (h:Hold (tawp Γ (nb+no) tc (TQ nb no rs (fun r'=>r'=r)) (Qe xs))):TCon P f xs r:=by
 simp only [Bool.and_eq_true] at hq
 exact Qzw hm hΓ hs hq.1.1 hq.1.2 (Nat.eq_of_beq_eq_true hq.2.1) (Nat.eq_of_beq_eq_true hq.2.2) h
end Go.Proofs.YtdplaepmjogjjaaGreat.Am
namespace Go.Proofs.YtdplaepmjogjjaaGreat.Am
open Sz
abbrev TIns:=Int × Int
abbrev Qy:=Int × List Int
abbrev TOp':=Int × Int × Int × List Int
abbrev QA:=Int × List (List Int)
abbrev Qc:=List Int × List Int
abbrev Qp:=Int × List Qy
abbrev Z0:=List (List Int) × Int × Bool
def Qwe {α:Type} (_:α):Bool:=true
def Qhr {α β:Type} (_:α) (_:β):Bool:=true
def QCV {α β γ:Type} (_:α) (_:β) (_:γ):Bool:=true
def QHS {α β γ δ:Type} (_:α) (_:β) (_:γ) (_:δ):Bool:=true
def QxU {α β γ δ ε:Type} (_:α) (_:β) (_:γ) (_:δ) (_:ε):Bool:=true
def ZG (n:Nat) (left:Int):Int:=if (n:Int)≤left then left-n else -1
def m_sz {α:Type} [Sz α] (x:α) (left:Int):Int:=ZG (sz x) left
def pl (left:Int):Prop:=-1≤left∧left≤1048576
def p_sz {α:Type} [Sz α] (_:α) (left:Int):Prop:=pl left
def m_eq {α:Type} [DecidableEq α] (x y:α):Bool:=decide (x=y)
def p_to {α:Type} [Sz α] (x:α):Prop:=sz x≤1048576
def m_in (x a b:Int):Bool:=decide (a≤x)&&decide (x≤b)
def ZB (x:Int):Bool:=decide (-2147483647≤x)&&decide (x≤2147483647)
def Yz (v:List Int):Bool:=v.all ZB
def Q5 (v:List Int):Bool:=m_in v.length 1 6&&Yz v
end Go.Proofs.YtdplaepmjogjjaaGreat.Am
namespace Go.Proofs.YtdplaepmjogjjaaGreat.Am
open Go Sz
abbrev QN:=List TOp'
abbrev Qr:=Int × List TIns × List TOp' × Bool × Bool × List QA × List (List Int) × List Int × List Int × List Int × List Int × List (List Int) × Int × Bool
abbrev Qf:=List TOp' × List Int × Int × List Bool × List Int × List Int
abbrev QO:=List Qc × List Qr × List Qp × List Qp
abbrev TMat:=Int × Int × List Int
abbrev dOp:TOp':=(0,0,0,[])
abbrev dIns:TIns:=(0,0)
abbrev Z5:QA:=(0,[])
abbrev QC:Qc:=([],[])
abbrev Z7:Qp:=(0,[])
abbrev Zq:Qr:=(0,[],[],false,false,[],[],[],[],[],[],[],0,false)
abbrev Qd:List CT:=[.int .i64,.int .i64]
abbrev QW:List CT:=[.int .i64,.sl [.int .i64]]
abbrev ctOp:List CT:=[.int .i64,.int .i64,.int .i64,.sl [.int .i64]]
abbrev QZ:List CT:=[.int .i64,.sl [.sl [.int .i64]]]
abbrev Qj:List CT:=[.sl [.int .i64],.sl [.int .i64]]
abbrev Qw:List CT:=[.int .i64,.sl QW]
abbrev ZM:List CT:=[.sl [.sl [.int .i64]],.int .i64,.bool]
abbrev Qt:List CT:=[.int .i64,.sl Qd,.sl ctOp,.bool,.bool,.sl QZ,.sl [.sl [.int .i64]],.sl [.int .i64],.sl [.int .i64],.sl [.int .i64],.sl [.int .i64],.sl [.sl [.int .i64]],.int .i64,.bool]
abbrev Qv:List CT:=[.sl ctOp,.sl [.int .i64],.int .i64,.sl [.bool],.sl [.int .i64],.sl [.int .i64]]
abbrev Zd:List CT:=[.sl Qj,.sl Qt,.sl Qw,.sl Qw]
set_option synthInstance.maxSize 2000
set_option synthInstance.maxHeartbeats 200000
instance:DecidableEq TOp':=inferInstance
instance:DecidableEq QA:=inferInstance
instance:DecidableEq Qp:=inferInstance
abbrev TSt4:=List Int × List Int × List Int × List Int × Z0
abbrev TSt3:=List QA × List (List Int) × TSt4
abbrev TSt2:=List TOp' × Bool × Bool × TSt3
instance:DecidableEq Z0:=inferInstance
instance:DecidableEq TSt4:=inferInstance
instance:DecidableEq TSt3:=inferInstance
instance:DecidableEq TSt2:=inferInstance
instance:DecidableEq Qr:=(inferInstance:DecidableEq (Int × List TIns × TSt2))
instance:DecidableEq Qf:=inferInstance
instance:DecidableEq QO:=inferInstance
instance:Sz Qr:=inferInstance
instance:Sz Qf:=inferInstance
instance:Sz QO:=inferInstance
abbrev sPc (s:Qr):=s.1
abbrev Qey (s:Qr):=s.2.1
abbrev sOps (s:Qr):=s.2.2.1
abbrev Qli (s:Qr):=s.2.2.2.1
abbrev Qro (s:Qr):=s.2.2.2.2.1
abbrev QdQ (s:Qr):=s.2.2.2.2.2.1
abbrev Qgo (s:Qr):=s.2.2.2.2.2.2.1
abbrev sX (s:Qr):=s.2.2.2.2.2.2.2.1
abbrev sY (s:Qr):=s.2.2.2.2.2.2.2.2.1
abbrev sG (s:Qr):=s.2.2.2.2.2.2.2.2.2.1
abbrev sD (s:Qr):=s.2.2.2.2.2.2.2.2.2.2.1
abbrev QeH (s:Qr):=s.2.2.2.2.2.2.2.2.2.2.2.1
abbrev QqJ (s:Qr):=s.2.2.2.2.2.2.2.2.2.2.2.2.1
abbrev sSat (s:Qr):=s.2.2.2.2.2.2.2.2.2.2.2.2.2
abbrev ZA (c:Qf):=c.1
abbrev Ze (c:Qf):=c.2.1
abbrev cDs (c:Qf):=c.2.2.1
abbrev JI (c:Qf):=c.2.2.2.1
abbrev YM (c:Qf):=c.2.2.2.2.1
abbrev Qes (p:QO):=p.1
abbrev Qf8 (p:QO):=p.2.1
abbrev Qed (p:QO):=p.2.2.1
abbrev Qet (p:QO):=p.2.2.2
def ZH (v:List Int) (n:Int):Bool:=Q5 v&&((v.length:Int)==n)
def ZC (o:TOp'):Int :=
 if m_in o.2.1 1 6&&m_in o.2.2.1 1 6 then (if o.1=1∨o.1=5 then o.2.1*o.2.2.1 else if o.1=2 then o.2.1 else if o.1=4 then 1 else 0) else 0
def Q2 (o:TOp'):Bool :=
 m_in o.1 1 5&&m_in o.2.1 1 6&&m_in o.2.2.1 1 6&&(o.1==1||o.2.1==o.2.2.1)&&((o.2.2.2.length:Int)==ZC o)&&Yz o.2.2.2
def ZO:Option Int→List TOp'→Bool
 | _,[]=>true
 | p,o::r=>Q2 o&&(match p with | none=>true | some q=>q==o.2.1)&&ZO (some o.2.2.1) r
def QB (m:QN):Bool:=m_in m.length 1 8&&ZO none m
def Z9 (m:QN):Int:=if QB m then (gtd dOp m 0).2.1 else 0
def Yt (m:QN):Int:=if QB m then (gtd dOp m (m.length-1)).2.2.1 else 0
def Ya (m:QN) (p:Qc):Bool:=QB m&&ZH p.1 (Z9 m)&&ZH p.2 (Yt m)
def Q9 (m:QN) (b:List Qc):Bool:=QB m&&m_in b.length 1 5&&b.all (Ya m)
def Zx (n:Int):Option Int→List Int→Bool
 | _,[]=>true
 | p,c::r=>m_in c 1 n&&(match p with | none=>true | some q=>decide (q<c))&&Zx n (some c) r
def QE (m:QN) (cuts:List Int):Bool:=QB m&&Zx (m.length-1) none cuts
def Qo (m:QN) (cuts:List Int) (s:Int):Int × Int :=
 if QE m cuts&&m_in s 0 cuts.length then (if 0<s then gtd 0 cuts (s.toNat-1) else 0,if s<cuts.length then gtd 0 cuts s.toNat else m.length) else (0,0)
def slice {α:Type} (l:List α) (a b:Int):List α:=(l.drop a.toNat).take (b.toNat-a.toNat)
def Qs (c:Qf):Int:=if QE c.1 c.2.1 then w64 (c.2.1.length+1) else 0
def Zb (c:Qf) (s:Int):Int :=
 let r:=Qo c.1 c.2.1 s
 w64 (((slice c.1 r.1 r.2).map fun o=>o.2.1).sum+if r.1<r.2 then (gtd dOp c.1 (r.2.toNat-1)).2.2.1 else 0)
def ZI (c:Qf) (s:Int):Bool:=decide (0≤s)&&decide (s<c.2.2.2.1.length)&&gtd false c.2.2.2.1 s.toNat
def Q4 (c:Qf) (s:Int):Int × Int :=
 let r:=Qo c.1 c.2.1 s
 if r.1=r.2 then (0,0) else ((gtd dOp c.1 r.1.toNat).2.1,(gtd dOp c.1 (r.2.toNat-1)).2.2.1)
def ZN (c:Qf) (s:Int):Int:=if ZI c s then (Q4 c s).1 else Zb c s
def iMin (a b:Int):Int:=if b<a then b else a
def iMax (a b:Int):Int:=if a<b then b else a
def Zr (c:Qf) (s micro:Int):Int :=
 if m_in s 0 (Qs c-1)&&m_in micro 1 5&&decide (Qs c≤4) then
  (let k:=if c.2.2.1=2 then iMin micro (Qs c-s) else micro
   let z:=Q4 c s
   w64 (w64 (w64 (k*ZN c s)+iMax z.1 z.2)+if ZI c s then Zb c s else 0))
 else 0
def Zm (c:Qf):Bool:=(c.2.2.2.2.1.length==c.2.1.length)&&c.2.2.2.2.1.all fun n=>m_in n 1 5
def YF (c:Qf) (micro:Int):List Int→Int→Bool
 | [],_=>true
 | n::r,s=>m_in n (Zr c s micro) 100000&&YF c micro r (s+1)
def Zs (c:Qf) (micro:Int):Bool:=((c.2.2.2.2.2.length:Int)==Qs c)&&YF c micro c.2.2.2.2.2 0
def QK (c:Qf) (b:List Qc):Int :=
 if !QB c.1 then 1 else if !Q9 c.1 b then 2 else if Qs c=0∨4<Qs c then 3 else if !m_in c.2.2.1 1 2 then 4
 else if (c.2.2.2.1.length:Int)≠Qs c then 5 else if !Zm c then 6 else if !Zs c b.length then 7 else 0
def QV (st s mi:Int):Bool:=m_in st 1 4&&m_in s 0 (st-1)&&m_in mi 1 5
def QU (ds st s mi:Int):Int:=if QV st s mi then (if ds=2 then iMin mi (st-1-s) else mi) else 0
def Q0 (st s m:Int):List TIns:=(if 0<s then [(1,m)] else [])++[(2,m)]++(if s<st-1 then [(3,m)] else [])
def Q7 (st s m:Int) (redo:Bool):List TIns:=(if s<st-1 then [(4,m)] else [])++(if redo then [(5,m)] else [])++[(6,m)]++(if 0<s then [(7,m)] else [])
def QT (ds st s mi:Int) (redo:Bool):List TIns :=
 if m_in ds 1 2&&QV st s mi then
  (let w:=(QU ds st s mi).toNat
   ((List.range w).flatMap fun m:Nat=>Q0 st s (m:Int))++((List.range mi.toNat).flatMap fun m:Nat=>(if (m:Int)+w<mi then Q0 st s ((m:Int)+w) else [])++Q7 st s (m:Int) redo)++[(8,0)])
 else []
def Qbn:List TOp'→List (List Int)→Bool
 | o::os,r::rs=>(r.length==o.2.2.2.length)&&Qbn os rs
 | _,_=>true
end Go.Proofs.YtdplaepmjogjjaaGreat.Am
namespace Go.Proofs.YtdplaepmjogjjaaGreat.Am
open Go Sz
theorem pl_0:pl 1048576:=⟨by omega,by omega⟩
theorem QbJ {n:Nat} {left:Int} (h:pl left):pl (ZG n left):=by
 unfold ZG pl at *
 split <;> omega
theorem Qdh {α β:Type} [Sz α] [Sz β] {x:α} {y:β} {left:Int} (hl:0≤m_sz x left):m_sz y (m_sz x left)=m_sz (x,y) left:=by
 unfold m_sz ZG at *
 rw [QcN]
 split at hl
 ·rename_i h1
  rw [if_pos h1]
  split <;> split <;> omega
 ·omega
theorem Y6 {α γ:Type} [Sz α] [Sz γ] {x:α} {z:γ} {left:Int} (hl:m_sz x left<0) (h:sz x≤sz z) (hp:-1≤left):-1=m_sz z left:=by
 unfold m_sz ZG at *
 split at hl
 ·omega
 ·rw [if_neg (by omega)]
theorem QsS {α:Type} [Sz α] {x:α} {left:Int} (h:¬ m_sz x left<0) (hl:left≤1048576):p_to x:=by
 unfold m_sz ZG at h
 unfold p_to
 split at h <;> omega
theorem Qw0 {α:Type} [Sz α] {x:α} {left:Int} (h:¬ m_sz x left<0) (hl:left≤1048576):m_sz x left≤1048576:=by
 unfold m_sz ZG at *
 split at h <;> split <;> omega
theorem QuA {α:Type} [Sz α] (l:List α) (h:∀ x:α,sz x=0):sz l=l.length:=by
 induction l with
 | nil=>rfl
 | cons x l ih=>simp [ih,h];omega
theorem Qru {α:Type} [Sz α] {a:List α} {left:Int} (h:p_sz a left) (hb:a.length≤9223372036854775807):w64 (left-(a.length:Int))=left-a.length:=by
 unfold p_sz pl at h
 exact Qx (by omega) (by omega)
theorem QpR {α:Type} [Sz α] {a:List α} {left:Int} {Q:Int→Prop} (hf:∀ x:α,sz x=0) (h:p_sz a left) (hb:a.length≤9223372036854775807) (hq:Q (m_sz a left)) :
  ((decide (w64 (left-(a.length:Int))<(0:Int))=true→Q (-1))∧(decide (w64 (left-(a.length:Int))<(0:Int))=false→Q (w64 (left-(a.length:Int))))):=by
 rw [Qru h hb]
 unfold m_sz ZG at hq
 rw [QuA a hf] at hq
 constructor
 ·intro h1
  simp only [decide_eq_true_eq] at h1
  rw [if_neg (by omega)] at hq
  exact hq
 ·intro h1
  simp only [decide_eq_false_iff_not] at h1
  rw [if_pos (by omega)] at hq
  exact hq
theorem QpV {α:Type} [Sz α] (d:α) {a:List α} {left:Int} {Q:Int→Prop} {A:Int→Int→Prop} (h:p_sz a left) (hb:a.length≤9223372036854775807)
  (hA:∀ (l i:Int),((decide (i<(a.length:Int))=true→((((0:Int)≤i∧Int.toNat i<a.length)∧(p_sz (gtd d a (Int.toNat i)) l))∧((decide (m_sz (gtd d a (Int.toNat i)) l<(0:Int))=true→Q (-1))∧(decide (m_sz (gtd d a (Int.toNat i)) l<(0:Int))=false→A (m_sz (gtd d a (Int.toNat i)) l) (w64 (i+(1:Int)))))))∧(decide (i<(a.length:Int))=false→Q l))→A l i)
  (hq:Q (m_sz a left)) :
  ((decide (w64 (left-(a.length:Int))<(0:Int))=true→Q (-1))∧(decide (w64 (left-(a.length:Int))<(0:Int))=false→A (w64 (left-(a.length:Int))) 0)):=by
 rw [Qru h hb]
 constructor
 ·intro h1
  simp only [decide_eq_true_eq] at h1
  have hle:=Qav a
  rw [m_sz,ZG,if_neg (by omega)] at hq
  exact hq
 ·intro h1
  simp only [decide_eq_false_iff_not] at h1
  have key:∀ l:Int,0≤l→l≤1048576→(if (sz a-a.length:Int)≤l then l-(sz a-a.length:Int) else -1)=m_sz a left→A l (0:Nat):=by
   refine Zy a (fun r k=>∀ l:Int,0≤l→l≤1048576→(if (sz r-r.length:Int)≤l then l-(sz r-r.length:Int) else -1)=m_sz a left→A l k) ?_ ?_
   ·intro l hl hl2 he
    refine hA l _ ⟨fun hc=>by simp at hc,fun _=>?_⟩
    have e0:((sz ([]:List α):Nat):Int)-(([]:List α).length:Nat)=0:=rfl
    rw [e0,if_pos hl] at he
    rw [← he] at hq
    simpa using hq
   ·intro k x r hk hlt hg ih l hl hl2 he
    have hr:=Qav r
    have e1:((sz (x::r):Nat):Int)-((x::r).length:Nat)=sz x+(sz r-r.length):=by
     rw [Qai,List.length_cons];omega
    rw [e1] at he
    refine hA l _ ⟨fun _=>?_,fun hc=>by simp at hc;omega⟩
    rw [Int.toNat_natCast,hg d]
    refine ⟨⟨⟨by omega,hlt⟩,by unfold p_sz pl;omega⟩,fun h2=>?_,fun h2=>?_⟩
    ·simp only [decide_eq_true_eq] at h2
     unfold m_sz ZG at h2
     split at h2
     ·omega
     ·rw [if_neg (by omega)] at he;rw [he];exact hq
    ·simp only [decide_eq_false_iff_not] at h2
     unfold m_sz ZG at h2 ⊢
     split at h2
     rotate_left
     ·omega
     rw [if_pos (by assumption),Qx (by omega) (by omega),show (k:Int)+1=(k+1:Nat) by omega]
     refine ih _ (by omega) (by omega) ?_
     rw [← he]
     split <;> split <;> omega
  have:=key (left-a.length) (by omega) (by unfold p_sz pl at h;omega) (by
   unfold m_sz ZG
   split <;> split <;> omega)
  exact this
theorem YI {α:Type} [DecidableEq α] (d:α) {a b:List α} {Q:Bool→Prop} {A:Int→Prop} {E:α→α→Bool} (hE:∀ x y,E x y=decide (x=y)) (hb:a.length≤9223372036854775807)
  (hA:∀ (i:Int),((decide (i<(a.length:Int))=true→((((0:Int)≤i∧Int.toNat i<a.length)∧((0:Int)≤i∧Int.toNat i<b.length))∧(((!(E (gtd d a (Int.toNat i)) (gtd d b (Int.toNat i))))=true→Q false)∧((!(E (gtd d a (Int.toNat i)) (gtd d b (Int.toNat i))))=false→A (w64 (i+(1:Int)))))))∧(decide (i<(a.length:Int))=false→Q true))→A i)
  (hq:Q (m_eq a b)):((((a.length:Int) != (b.length:Int))=true→Q false)∧(((a.length:Int) != (b.length:Int))=false→A 0)):=by
 constructor
 ·intro h
  have:a≠b:=by rintro rfl;simp at h
  simpa [m_eq,this] using hq
 ·intro h
  have hl:a.length=b.length:=by
   have h:((a.length:Int)==(b.length:Int))=true:=by simpa [bne] using h
   have:=of_decide_eq_true (by simpa using h:decide ((a.length:Int)=b.length)=true)
   omega
  have key:m_eq (a.drop 0) (b.drop 0)=m_eq a b→A (0:Nat):=by
   refine Zy a (fun r k=>m_eq r (b.drop k)=m_eq a b→A k) ?_ ?_
   ·intro he
    refine hA _ ⟨fun hc=>by simp at hc,fun _=>?_⟩
    rw [← he] at hq
    simpa [m_eq,hl] using hq
   ·intro k x r hk hlt hg ih he
    refine hA _ ⟨fun _=>?_,fun hc=>by simp at hc;omega⟩
    obtain ⟨y,s,hbk⟩:∃ y s,b.drop k=y::s:=by
     cases hbk:b.drop k with
     | nil=>have:=congrArg List.length hbk;simp at this;omega
     | cons y s=>exact ⟨y,s,rfl⟩
    rw [Int.toNat_natCast,hg d,Qiq hbk d,hE]
    refine ⟨⟨⟨by omega,hlt⟩,by omega,by omega⟩,fun h1=>?_,fun h1=>?_⟩
    ·have hne:x≠y:=by simpa using h1
     rw [← he,hbk] at hq
     simpa [m_eq,hne] using hq
    ·have hxy:x=y:=by simpa using h1
     rw [Qx (by omega) (by omega),show (k:Int)+1=(k+1:Nat) by omega]
     refine ih ?_
     rw [← he,hbk,Qix hbk]
     simp [m_eq,hxy]
  exact key rfl
theorem QxO {a b:List Int} {Q:Bool→Prop} {A:Int→Prop} (hb:a.length≤9223372036854775807)
  (hA:∀ (i:Int),((decide (i<(a.length:Int))=true→((((0:Int)≤i∧Int.toNat i<a.length)∧((0:Int)≤i∧Int.toNat i<b.length))∧((((gtd (0:Int) a (Int.toNat i)) != (gtd (0:Int) b (Int.toNat i)))=true→Q false)∧(((gtd (0:Int) a (Int.toNat i)) != (gtd (0:Int) b (Int.toNat i)))=false→A (w64 (i+(1:Int)))))))∧(decide (i<(a.length:Int))=false→Q true))→A i)
  (hq:Q (m_eq a b)):((((a.length:Int) != (b.length:Int))=true→Q false)∧(((a.length:Int) != (b.length:Int))=false→A 0)) :=
 YI (0:Int) (E:=fun x y=>x==y) (fun x y=>by rw [Bool.eq_iff_iff];simp) hb (fun i h=>hA i h) hq
theorem Qvq {a b:List Bool} {Q:Bool→Prop} {A:Int→Prop} (hb:a.length≤9223372036854775807)
  (hA:∀ (i:Int),((decide (i<(a.length:Int))=true→((((0:Int)≤i∧Int.toNat i<a.length)∧((0:Int)≤i∧Int.toNat i<b.length))∧(((!((gtd false a (Int.toNat i))==(gtd false b (Int.toNat i))))=true→Q false)∧((!((gtd false a (Int.toNat i))==(gtd false b (Int.toNat i))))=false→A (w64 (i+(1:Int)))))))∧(decide (i<(a.length:Int))=false→Q true))→A i)
  (hq:Q (m_eq a b)):((((a.length:Int) != (b.length:Int))=true→Q false)∧(((a.length:Int) != (b.length:Int))=false→A 0)) :=
 YI false (E:=fun x y=>x==y) (fun x y=>by rw [Bool.eq_iff_iff];simp) hb (fun i h=>hA i h) hq
theorem QcY {α:Type} (d:α) {l:List α} {c p:α→Bool} {Q:Bool→Prop} {A:Int→Prop} {e:Bool} (hb:l.length≤9223372036854775807) (hc:∀ x,c x = !p x)
  (hA:∀ (i:Int),((decide (i<(l.length:Int))=true→(((0:Int)≤i∧Int.toNat i<l.length)∧((c (gtd d l (Int.toNat i))=true→Q false)∧(c (gtd d l (Int.toNat i))=false→A (w64 (i+(1:Int)))))))∧(decide (i<(l.length:Int))=false→Q e))→A i)
  (hq:Q (l.all p&&e)):A 0:=by
 have key:(l.drop 0).all p=l.all p→A (0:Nat):=by
  refine Zy l (fun r k=>r.all p=l.all p→A k) ?_ ?_
  ·intro he
   refine hA _ ⟨fun h=>by simp at h,fun _=>?_⟩
   rw [← he] at hq
   simpa using hq
  ·intro k x r hk hlt hg ih he
   refine hA _ ⟨fun _=>?_,fun h=>by simp at h;omega⟩
   rw [Int.toNat_natCast,hg,Qx (by omega) (by omega)]
   refine ⟨⟨by omega,hlt⟩,fun h=>?_,fun h=>ih ?_⟩
   ·have hp:p x=false:=by simpa [hc] using h
    have:l.all p=false:=by rw [← he,List.all_cons,hp];rfl
    rw [this] at hq
    exact hq
   ·have hp:p x=true:=by simpa [hc] using h
    rw [← he,List.all_cons,hp]
    rfl
 exact key rfl
end Go.Proofs.YtdplaepmjogjjaaGreat.Am

