/- -/
import Derived.Test.YtephkbajoofeoaaYGG5
import Derived.Test.YtephkbajoofeoaaProg
set_option linter.all false
namespace Go.Proofs.Ytephkbajoofeoaa.Am
open Go Go.RowKit Go.Proofs.Ytephkbajoofeoaa
abbrev TI:CT:=.int .i64
abbrev w64 (x:Int):Int:=IntKind.i64.wrap x
def Loop (Γ:List TRow) (nl:Nat) (L:List (Nat × Md)) (x:TCode) (Q:Qd) (s:TSt):Prop :=
 Lfp (fun R s=>tawp Γ nl x (Qseq (fun s'=>R (gc nl L s')) Q) s) s
theorem Qm5 {Γ:List TRow} {nl:Nat} {L:List (Nat × Md)} {x:TCode} {Q:Qd} {s:TSt}
  (h:tawp Γ nl x (Qseq (fun s'=>Loop Γ nl L x Q (gc nl L s')) Q) s):Loop Γ nl L x Q s:=QkF h
structure Hold (p:Prop):Prop where
 h:p
theorem Hold.of {p F:Prop} (e:F=p) (h:F):Hold p:=⟨e ▸ h⟩
theorem Loop.of {Γ:List TRow} {nl:Nat} {L:List (Nat × Md)} {x:TCode} {Q:Qd} {s:TSt} {F:Prop}
  (e:F=tawp Γ nl x (Qseq (fun s'=>Loop Γ nl L x Q (gc nl L s')) Q) s) (h:F):Loop Γ nl L x Q s:=Qm5 (e ▸ h)
def gtd {α:Type} (d:α) (l:List α) (i:Nat):α:=l.getD i d
@[reducible] def Sh.den:Sh→Type
 | .c t=>t.den
 | .a ts=>Tup ts
 | .b ts=>Tup ts
 | .o _ ts=>List (Tup ts)
@[reducible] def DenL:List Sh→Type
 | []=>Unit
 | s::ss=>s.den × DenL ss
def Sh.val:(s:Sh)→s.den→TV
 | .c t,x=>.c t x
 | .a ts,x=>.a (Tup.cells ts x)
 | .b ts,x=>.bx (Tup.cells ts x)
 | .o e ts,x=>.ow e ts x
def valL:(ss:List Sh)→DenL ss→List TV
 | [],_=>[]
 | s::ss,x=>s.val x.1::valL ss x.2
def decD (t:CT):TV→Option t.den
 | .c t' x=>if e:t'.beq t=true then some (Qaf e x) else none
 | _=>none
def decT:(ts:List CT)→List TV→Option (Tup ts)
 | [],xs=>match xs with
  | []=>some ()
  | _=>none
 | t::ts,xs=>match xs with
  | x::xs=>match decD t x,decT ts xs with
   | some a,some b=>some (mkT ts a b)
   | _,_=>none
  | []=>none
def Sh.dec:(s:Sh)→TV→Option s.den
 | .c t,x=>decD t x
 | .a ts,x=>match x with
  | .a cs=>decT ts cs
  | _=>none
 | .b ts,x=>match x with
  | .bx cs=>decT ts cs
  | _=>none
 | .o e ts,x=>match x with
  | .ow e' ts' es=>if q:CT.beqL ts' ts=true then (bif Nat.beq e' e then some (JY q es) else none) else none
  | _=>none
def decL:(ss:List Sh)→List TV→Option (DenL ss)
 | [],xs=>match xs with
  | []=>some ()
  | _=>none
 | s::ss,xs=>match xs with
  | x::xs=>match s.dec x,decL ss xs with
   | some a,some b=>some (a,b)
   | _,_=>none
  | []=>none
theorem Qe4 {t:CT} {v:TV} {x:t.den} (h:decD t v=some x):v = .c t x:=by
 cases v with
 | c t' y =>
  simp only [decD] at h
  split at h
  ·rename_i e
   have e':=CT.beq_eq _ _ e
   subst e'
   cases h
   rfl
  ·cases h
 | _=>simp [decD] at h
theorem Qba:∀ {ts:List CT} {vs:List TV} {x:Tup ts},decT ts vs=some x→vs=Tup.cells ts x
 | [],vs,x,h=>by
  cases vs with
  | nil=>rfl
  | cons v vs=>simp [decT] at h
 | t::ts,vs,x,h=>by
  cases vs with
  | nil=>simp [decT] at h
  | cons v vs =>
   simp only [decT] at h
   split at h
   rotate_left
   ·cases h
   rename_i a b h1 h2
   cases h
   rw [Tup.cells,Qe4 h1,Qba h2,JP,J2]
theorem Qms {s:Sh} {v:TV} {x:s.den} (h:s.dec v=some x):v=s.val x:=by
 cases s with
 | c t=>exact Qe4 h
 | a ts =>
  cases v with
  | a cs=>exact congrArg TV.a (Qba h)
  | _=>simp [Sh.dec] at h
 | b ts =>
  cases v with
  | bx cs=>exact congrArg TV.bx (Qba h)
  | _=>simp [Sh.dec] at h
 | o e ts =>
  cases v with
  | ow e' ts' es =>
   simp only [Sh.dec] at h
   split at h
   ·rename_i q
    have q':=CT.beqL_eq _ _ q
    subst q'
    cases hb:Nat.beq e' e with
    | false=>rw [hb] at h;cases h
    | true =>
     rw [hb] at h
     cases h
     have:=Nat.eq_of_beq_eq_true hb
     subst this
     rfl
   ·cases h
  | _=>simp [Sh.dec] at h
theorem Qha:∀ {ss:List Sh} {vs:List TV} {x:DenL ss},decL ss vs=some x→vs=valL ss x
 | [],vs,x,h=>by
  cases vs with
  | nil=>rfl
  | cons v vs=>simp [decL] at h
 | s::ss,vs,x,h=>by
  cases vs with
  | nil=>simp [decL] at h
  | cons v vs =>
   simp only [decL] at h
   split at h
   rotate_left
   ·cases h
   rename_i a b h1 h2
   cases h
   rw [valL,Qms h1,Qha h2]
def Qj (f:FuncId) (sg:List Sh) (g:DenL sg→Option Prop × TRes):TRow:=⟨f,sg,fun vs=>match decL sg vs with
 | some x=>some (g x)
 | none=>none⟩
theorem Qn {P:Program} {f:FuncId} {sg:List Sh} {g:DenL sg→Option Prop × TRes} (h:∀ x:DenL sg,holds (g x).1→TCon P f (valL sg x) (g x).2):Qi P (Qj f sg g):=by
 intro vs pre r hf hr hp
 simp only [Qj] at hr
 split at hr
 ·rename_i x hx
  rw [Qha hx]
  cases hg:g x with
  | mk p r' =>
   rw [hg] at hr
   cases hr
   have:=h x
   rw [hg] at this
   exact this hp
 ·cases hr
theorem QmA {P:Program} {Γ:List TRow} {f:FuncId} {tc:TCode} {rs:List (ARv × Md)} {n nb no:Nat} {xs:List TV} {r:TRes} {sg:List Sh} (hm:P.follows .mixedOrders=true) (hΓ:TOk P Γ) (hs:Qaq P f=some (tc.er,rs.map Prod.fst,n))
  (hfit:QI sg xs=true) (hN:Nat.ble xs.length n=true) (hnl:tbxs xs=nb) (hno:tows xs=no) (h:Hold (tawp Γ (nb+no) tc (TQ nb no rs (fun r'=>r'=r)) (Qh xs))):TCon P f xs r:=by
 subst hnl
 subst hno
 exact QkQ hm hΓ hs hfit (Nat.le_of_ble_eq_true hN) h.h
theorem Qm:Try.prog.follows .mixedOrders=true:=by kernel_rfl
end Go.Proofs.Ytephkbajoofeoaa.Am
namespace Go.Proofs.Ytephkbajoofeoaa.Am
open Go Go.RowKit Go.Proofs.Ytephkbajoofeoaa
theorem Qz {x:Int} (h1:-9223372036854775808≤x) (h2:x<9223372036854775808):w64 x=x:=IntWalk.i64_in x (by omega)
theorem Qej {α:Type} {l r:List α} {x:α} {k:Nat} (h:l.drop k=x::r) (d:α):gtd d l k=x:=by
 unfold gtd
 have:l[k]? = some x:=by
  have:=congrArg List.head? h
  simpa [List.head?_drop] using this
 rw [List.getD_eq_getElem?_getD,this];rfl
theorem Qgg {α:Type} {l r:List α} {x:α} {k:Nat} (h:l.drop k=x::r):k<l.length:=by
 apply Classical.byContradiction
 intro hn
 rw [List.drop_eq_nil_of_le (by omega)] at h
 cases h
theorem QgJ {α:Type} {l r:List α} {x:α} {k:Nat} (h:l.drop k=x::r):l.drop (k+1)=r:=by
 have:=congrArg List.tail h
 simpa [List.tail_drop] using this
theorem ZT {α:Type} (l:List α) (P:List α→Nat→Prop) (h0:P [] l.length) (hs:∀ (k:Nat) (x:α) (r:List α),l.drop k=x::r→k<l.length→(∀ d,gtd d l k=x)→P r (k+1)→P (x::r) k):P l 0:=by
 suffices ∀ (r:List α) (k:Nat),l.drop k=r→k≤l.length→P r k from this l 0 rfl (Nat.zero_le _)
 intro r
 induction r with
 | nil =>
  intro k hk hle
  have:l.length≤k:=by simpa using hk
  rw [show k=l.length by omega]
  exact h0
 | cons x r ih =>
  intro k hk hle
  have hlt:=Qgg hk
  exact hs k x r hk hlt (Qej hk) (ih (k+1) (QgJ hk) hlt)
theorem YB (n:Nat) (P:Nat→Prop) (h0:P n) (hs:∀ k,k<n→P (k+1)→P k):P 0:=by
 suffices ∀ j k,k+j=n→P k from this n 0 (by omega)
 intro j
 induction j with
 | zero=>intro k hk;rw [show k=n by omega];exact h0
 | succ j ih=>intro k hk;exact hs k (by omega) (ih (k+1) (by omega))
class Sz (α:Type) where
 sz:α→Nat
instance:Sz Int:=⟨fun _=>0⟩
instance:Sz Bool:=⟨fun _=>0⟩
instance:Sz ByteArray:=⟨fun _=>0⟩
instance {α β:Type} [Sz α] [Sz β]:Sz (α × β):=⟨fun x=>Sz.sz x.1+Sz.sz x.2⟩
def szL {α:Type} [Sz α]:List α→Nat
 | []=>0
 | x::r=>1+Sz.sz x+szL r
instance {α:Type} [Sz α]:Sz (List α):=⟨szL⟩
open Sz
@[simp] theorem Q5 (x:Int):sz x=0:=rfl
@[simp] theorem Q4 (x:Bool):sz x=0:=rfl
@[simp] theorem QiS {α β:Type} [Sz α] [Sz β] (x:α) (y:β):sz (x,y)=sz x+sz y:=rfl
theorem Q1 {α β:Type} [Sz α] [Sz β] (x:α × β):sz x=sz x.1+sz x.2:=rfl
@[simp] theorem Qod {α:Type} [Sz α]:sz ([]:List α)=0:=rfl
@[simp] theorem QlM {α:Type} [Sz α] (x:α) (r:List α):sz (x::r)=1+sz x+sz r:=rfl
@[simp] theorem Qoe {α:Type} [Sz α] (l r:List α):sz (l++r)=sz l+sz r:=by
 induction l with
 | nil=>simp
 | cons x l ih=>simp [ih];omega
theorem Qb2 {α:Type} [Sz α] (l:List α):l.length≤sz l:=by
 induction l with
 | nil=>simp
 | cons x l ih=>simp;omega
theorem Qm6 {α:Type} [Sz α] {l:List α} {x:α} (h:x∈l):sz x<sz l:=by
 induction l with
 | nil=>cases h
 | cons y l ih =>
  rcases List.mem_cons.1 h with rfl | h
  ·simp;omega
  ·have:=ih h;simp;omega
theorem Qhw {α:Type} [Sz α] {l r:List α} {x:α} {k:Nat} (h:l.drop k=x::r):sz x<sz l:=Qm6 (List.mem_of_mem_drop (by rw [h];exact List.mem_cons_self))
theorem Q0:(big:Nat)=4294967296:=rfl
theorem bigI:((big:Nat):Int)=4294967296:=rfl
theorem R_eq {α:Type} {R:α→TRes} {x y:α} (h:x=y):R x=R y:=by rw [h]
end Go.Proofs.Ytephkbajoofeoaa.Am
namespace Go.Proofs.Ytephkbajoofeoaa.Am
open Go Go.RowKit
instance (n:Nat):OfNat TOpd n:=⟨.s n⟩
abbrev zci (n:Int):TV:=.c TI n
abbrev zcb (b:Bool):TV:=.c .bool b
abbrev zcs (ts:List CT) (x:List (Tup ts)):TV:=.c (.sl ts) x
def zki (n:Int):TOpd:=.k (.c TI n)
def zkb (b:Bool):TOpd:=.k (.c .bool b)
def zop (d:Nat) (x:TOp):TStm:=.op (some d) x
def zmv (d:Nat) (x:TOpd):TStm:=.op (some d) (.mov x)
def zld (d:Nat) (x:TOpd) (n:Nat):TStm:=.op (some d) (.load x n false)
def zLd (d:Nat) (x:TOpd) (n:Nat):TStm:=.op (some d) (.load x n true)
def zfa (d:Nat) (x:TOpd) (o:Nat):TStm:=.op (some d) (.fad x o)
def zle (d:Nat) (x:TOpd):TStm:=.op (some d) (.len x)
def zbi (d:Nat) (o:BinOp) (x y:TOpd):TStm:=.op (some d) (.bin o x y)
def zst (x v:TOpd) (n:Nat):TStm:=.op none (.store x v n)
def zca (d:Nat) (f:FuncId) (l:List TOpd):TStm:=.op (some d) (.call f l)
def zia (d:Nat) (x i:TOpd) (ts:List CT):TStm:=.op (some d) (.iad x i ts)
def zno (d:Nat) (x:TOpd):TStm:=.op (some d) (.not x)
def zsq:List TCode→TCode
 | []=>.skip
 | [x]=>x
 | x::y::r=>.seq x (zsq (y::r))
def z01:CT→TV
 | .int k=>.c (.int k) (0:Int)
 | .bool=>.c .bool false
 | .str=>.c .str ⟨#[]⟩
 | .nilp=>.c .nilp ()
 | .sl ts=>.n ts
def z0s:List CT→List TV
 | []=>[]
 | t::ts=>z01 t::z0s ts
abbrev zif (c:Bool) (A B:Prop):Prop:=(c=true→A)∧(c=false→B)
def zdl (l:List Nat):List (Nat × Md):=l.map fun i=>(i,.one .d)
def zds (n:Nat):List Md1:=List.replicate n .d
@[reducible] def zre (v:TV):TRes:=⟨v,[],[],false,[]⟩
@[reducible] def zra (v:TV):TRes:=⟨v,[],[],true,[]⟩
theorem tcg {P:Program} {Γ:List TRow} {f:FuncId} {tc:TCode} {rs:List (ARv × Md)} {n nb no:Nat} {xs:List TV} {r:TRes} {sg:List Sh} (hm:P.follows .mixedOrders=true) (hΓ:TOk P Γ) (hs:Qaq P f=some (tc.er,rs.map Prod.fst,n))
  (hq:((QI sg xs&&Nat.ble xs.length n)&&(Nat.beq (tbxs xs) nb&&Nat.beq (tows xs) no))=true) (h:Hold (tawp Γ (nb+no) tc (TQ nb no rs (fun r'=>r'=r)) (Qh xs))):TCon P f xs r:=by
 simp only [Bool.and_eq_true] at hq
 exact QmA hm hΓ hs hq.1.1 hq.1.2 (Nat.eq_of_beq_eq_true hq.2.1) (Nat.eq_of_beq_eq_true hq.2.2) h
end Go.Proofs.Ytephkbajoofeoaa.Am
namespace Go.Proofs.Ytephkbajoofeoaa.Am
open Sz
abbrev TIns:=Int × Int
abbrev QjD:=Int × List Int
abbrev TOp':=Int × Int × Int × List Int
abbrev Qcm:=Int × List (List Int)
abbrev Qla:=List Int × List Int
abbrev Qa1:=Int × List QjD
abbrev QeZ:=List (List Int) × Int × Bool
def Qi6 {α:Type} (_:α):Bool:=true
def QbX {α β:Type} (_:α) (_:β):Bool:=true
def Qhg {α β γ:Type} (_:α) (_:β) (_:γ):Bool:=true
def QlQ {α β γ δ:Type} (_:α) (_:β) (_:γ) (_:δ):Bool:=true
def Qiz {α β γ δ ε:Type} (_:α) (_:β) (_:γ) (_:δ) (_:ε):Bool:=true
def QU (n:Nat) (left:Int):Int:=if (n:Int)≤left then left-n else -1
def m_sz {α:Type} [Sz α] (x:α) (left:Int):Int:=QU (sz x) left
def pl (left:Int):Prop:=-1≤left∧left≤1048576
def p_sz {α:Type} [Sz α] (_:α) (left:Int):Prop:=pl left
def m_eq {α:Type} [DecidableEq α] (x y:α):Bool:=decide (x=y)
def p_to {α:Type} [Sz α] (x:α):Prop:=sz x≤1048576
def m_in (x a b:Int):Bool:=decide (a≤x)&&decide (x≤b)
def Zk (x:Int):Bool:=decide (-2147483647≤x)&&decide (x≤2147483647)
def Yh (v:List Int):Bool:=v.all Zk
end Go.Proofs.Ytephkbajoofeoaa.Am
namespace Go.Proofs.Ytephkbajoofeoaa.Am
open Go Sz
abbrev YS:=List TOp'
abbrev Qbv:=Int × List TIns × List TOp' × Bool × Bool × List Qcm × List (List Int) × List Int × List Int × List Int × List Int × List (List Int) × Int × Bool
abbrev Qg:=List TOp' × List Int × Int × List Bool × List Int × List Int
abbrev Qe1:=List Qla × List Qbv × List Qa1 × List Qa1
abbrev dOp:TOp':=(0,0,0,[])
abbrev Qc:List CT:=[.int .i64,.int .i64]
abbrev ctOp:List CT:=[.int .i64,.int .i64,.int .i64,.sl [.int .i64]]
abbrev Qq:List CT:=[.sl ctOp,.sl [.int .i64],.int .i64,.sl [.bool],.sl [.int .i64],.sl [.int .i64]]
set_option synthInstance.maxSize 2000
set_option synthInstance.maxHeartbeats 200000
instance:DecidableEq TOp':=inferInstance
instance:DecidableEq Qcm:=inferInstance
instance:DecidableEq Qa1:=inferInstance
abbrev TSt4:=List Int × List Int × List Int × List Int × QeZ
abbrev TSt3:=List Qcm × List (List Int) × TSt4
abbrev TSt2:=List TOp' × Bool × Bool × TSt3
instance:DecidableEq QeZ:=inferInstance
instance:DecidableEq TSt4:=inferInstance
instance:DecidableEq TSt3:=inferInstance
instance:DecidableEq TSt2:=inferInstance
instance:DecidableEq Qbv:=(inferInstance:DecidableEq (Int × List TIns × TSt2))
instance:DecidableEq Qg:=inferInstance
instance:DecidableEq Qe1:=inferInstance
instance:Sz Qbv:=inferInstance
instance:Sz Qg:=inferInstance
instance:Sz Qe1:=inferInstance
def QR (o:TOp'):Int :=
 if m_in o.2.1 1 6&&m_in o.2.2.1 1 6 then (if o.1=1∨o.1=5 then o.2.1*o.2.2.1 else if o.1=2 then o.2.1 else if o.1=4 then 1 else 0) else 0
def QP (o:TOp'):Bool :=
 m_in o.1 1 5&&m_in o.2.1 1 6&&m_in o.2.2.1 1 6&&(o.1==1||o.2.1==o.2.2.1)&&((o.2.2.2.length:Int)==QR o)&&Yh o.2.2.2
def Zg:Option Int→List TOp'→Bool
 | _,[]=>true
 | p,o::r=>QP o&&(match p with | none=>true | some q=>q==o.2.1)&&Zg (some o.2.2.1) r
def QE (m:YS):Bool:=m_in m.length 1 8&&Zg none m
def QX (n:Int):Option Int→List Int→Bool
 | _,[]=>true
 | p,c::r=>m_in c 1 n&&(match p with | none=>true | some q=>decide (q<c))&&QX n (some c) r
def QC (m:YS) (cuts:List Int):Bool:=QE m&&QX (m.length-1) none cuts
def slice {α:Type} (l:List α) (a b:Int):List α:=(l.drop a.toNat).take (b.toNat-a.toNat)
def QH (c:Qg):Int:=if QC c.1 c.2.1 then w64 (c.2.1.length+1) else 0
def iMin (a b:Int):Int:=if b<a then b else a
def Qv (st s mi:Int):Bool:=m_in st 1 4&&m_in s 0 (st-1)&&m_in mi 1 5
def Qt (ds st s mi:Int):Int:=if Qv st s mi then (if ds=2 then iMin mi (st-1-s) else mi) else 0
def QA (st s m:Int):List TIns:=(if 0<s then [(1,m)] else [])++[(2,m)]++(if s<st-1 then [(3,m)] else [])
def QD (st s m:Int) (redo:Bool):List TIns:=(if s<st-1 then [(4,m)] else [])++(if redo then [(5,m)] else [])++[(6,m)]++(if 0<s then [(7,m)] else [])
def Qw (ds st s mi:Int) (redo:Bool):List TIns :=
 if m_in ds 1 2&&Qv st s mi then
  (let w:=(Qt ds st s mi).toNat
   ((List.range w).flatMap fun m:Nat=>QA st s (m:Int))++((List.range mi.toNat).flatMap fun m:Nat=>(if (m:Int)+w<mi then QA st s ((m:Int)+w) else [])++QD st s (m:Int) redo)++[(8,0)])
 else []
def ZY (c:Qg) (micro:Int):Nat→Int
 | 0=>0
 | k+1=>ZY c micro k+(Qw c.2.2.1 (QH c) k micro (gtd false c.2.2.2.1 k)).length
def Zj (c:Qg) (micro:Int):Int:=ZY c micro (min c.2.2.2.1.length (QH c).toNat)
end Go.Proofs.Ytephkbajoofeoaa.Am
namespace Go.Proofs.Ytephkbajoofeoaa.Am
open Go Sz
theorem pl_0:pl 1048576:=⟨by omega,by omega⟩
theorem JD {n:Nat} {left:Int} (h:pl left):pl (QU n left):=by
 unfold QU pl at *
 split <;> omega
theorem JR {α β:Type} [Sz α] [Sz β] {x:α} {y:β} {left:Int} (hl:0≤m_sz x left):m_sz y (m_sz x left)=m_sz (x,y) left:=by
 unfold m_sz QU at *
 rw [QiS]
 split at hl
 ·rename_i h1
  rw [if_pos h1]
  split <;> split <;> omega
 ·omega
theorem Ya {α γ:Type} [Sz α] [Sz γ] {x:α} {z:γ} {left:Int} (hl:m_sz x left<0) (h:sz x≤sz z) (hp:-1≤left):-1=m_sz z left:=by
 unfold m_sz QU at *
 split at hl
 ·omega
 ·rw [if_neg (by omega)]
theorem QnZ {α:Type} [Sz α] {x:α} {left:Int} (h:¬ m_sz x left<0) (hl:left≤1048576):p_to x:=by
 unfold m_sz QU at h
 unfold p_to
 split at h <;> omega
theorem QhI {α:Type} [Sz α] (l:List α) (h:∀ x:α,sz x=0):sz l=l.length:=by
 induction l with
 | nil=>rfl
 | cons x l ih=>simp [ih,h];omega
theorem Qe0 {α:Type} [Sz α] {a:List α} {left:Int} (h:p_sz a left) (hb:a.length≤9223372036854775807):w64 (left-(a.length:Int))=left-a.length:=by
 unfold p_sz pl at h
 exact Qz (by omega) (by omega)
theorem QgO {α:Type} [Sz α] {a:List α} {left:Int} {Q:Int→Prop} (hf:∀ x:α,sz x=0) (h:p_sz a left) (hb:a.length≤9223372036854775807) (hq:Q (m_sz a left)) :
  ((decide (w64 (left-(a.length:Int))<(0:Int))=true→Q (-1))∧(decide (w64 (left-(a.length:Int))<(0:Int))=false→Q (w64 (left-(a.length:Int))))):=by
 rw [Qe0 h hb]
 unfold m_sz QU at hq
 rw [QhI a hf] at hq
 constructor
 ·intro h1
  simp only [decide_eq_true_eq] at h1
  rw [if_neg (by omega)] at hq
  exact hq
 ·intro h1
  simp only [decide_eq_false_iff_not] at h1
  rw [if_pos (by omega)] at hq
  exact hq
theorem QnU {α:Type} [Sz α] (d:α) {a:List α} {left:Int} {Q:Int→Prop} {A:Int→Int→Prop} (h:p_sz a left) (hb:a.length≤9223372036854775807)
  (hA:∀ (l i:Int),((decide (i<(a.length:Int))=true→((((0:Int)≤i∧Int.toNat i<a.length)∧(p_sz (gtd d a (Int.toNat i)) l))∧((decide (m_sz (gtd d a (Int.toNat i)) l<(0:Int))=true→Q (-1))∧(decide (m_sz (gtd d a (Int.toNat i)) l<(0:Int))=false→A (m_sz (gtd d a (Int.toNat i)) l) (w64 (i+(1:Int)))))))∧(decide (i<(a.length:Int))=false→Q l))→A l i)
  (hq:Q (m_sz a left)) :
  ((decide (w64 (left-(a.length:Int))<(0:Int))=true→Q (-1))∧(decide (w64 (left-(a.length:Int))<(0:Int))=false→A (w64 (left-(a.length:Int))) 0)):=by
 rw [Qe0 h hb]
 constructor
 ·intro h1
  simp only [decide_eq_true_eq] at h1
  have hle:=Qb2 a
  rw [m_sz,QU,if_neg (by omega)] at hq
  exact hq
 ·intro h1
  simp only [decide_eq_false_iff_not] at h1
  have key:∀ l:Int,0≤l→l≤1048576→(if (sz a-a.length:Int)≤l then l-(sz a-a.length:Int) else -1)=m_sz a left→A l (0:Nat):=by
   refine ZT a (fun r k=>∀ l:Int,0≤l→l≤1048576→(if (sz r-r.length:Int)≤l then l-(sz r-r.length:Int) else -1)=m_sz a left→A l k) ?_ ?_
   ·intro l hl hl2 he
    refine hA l _ ⟨fun hc=>by simp at hc,fun _=>?_⟩
    have e0:((sz ([]:List α):Nat):Int)-(([]:List α).length:Nat)=0:=rfl
    rw [e0,if_pos hl] at he
    rw [← he] at hq
    simpa using hq
   ·intro k x r hk hlt hg ih l hl hl2 he
    have hr:=Qb2 r
    have e1:((sz (x::r):Nat):Int)-((x::r).length:Nat)=sz x+(sz r-r.length):=by
     rw [QlM,List.length_cons];omega
    rw [e1] at he
    refine hA l _ ⟨fun _=>?_,fun hc=>by simp at hc;omega⟩
    rw [Int.toNat_natCast,hg d]
    refine ⟨⟨⟨by omega,hlt⟩,by unfold p_sz pl;omega⟩,fun h2=>?_,fun h2=>?_⟩
    ·simp only [decide_eq_true_eq] at h2
     unfold m_sz QU at h2
     split at h2
     ·omega
     ·rw [if_neg (by omega)] at he;rw [he];exact hq
    ·simp only [decide_eq_false_iff_not] at h2
     unfold m_sz QU at h2 ⊢
     split at h2
     rotate_left
     ·omega
     rw [if_pos (by assumption),Qz (by omega) (by omega),show (k:Int)+1=(k+1:Nat) by omega]
     refine ih _ (by omega) (by omega) ?_
     rw [← he]
     split <;> split <;> omega
  have:=key (left-a.length) (by omega) (by unfold p_sz pl at h;omega) (by
   unfold m_sz QU
   split <;> split <;> omega)
  exact this
theorem Qi1 {α:Type} {out a:List α} {k:Nat} {x:α} {r:List α} (hk:a.drop k=x::r) (hl:out.length=a.length) (ht:out.take k=a.take k):(out.set k x).take (k+1)=a.take (k+1):=by
 have hlt:=Qgg hk
 have hx:a[k]? = some x:=by
  have:=congrArg List.head? hk
  simpa [List.head?_drop] using this
 apply List.ext_getElem?
 intro i
 simp only [List.getElem?_take,List.getElem?_set]
 split
 rotate_left
 ·rfl
 by_cases h1:k=i
 ·subst h1
  obtain ⟨_,hx2⟩:=List.getElem?_eq_some_iff.1 hx
  simp [hl,hlt]
  exact hx2.symm
 ·rw [if_neg h1]
  have:=congrArg (fun l=>l[i]?) ht
  simp only [List.getElem?_take] at this
  rw [if_pos (by omega),if_pos (by omega)] at this
  exact this
theorem QfO {α:Type} [Sz α] (d:α) {a:List α} {Q:List α→Prop} {A:Int→List α→Prop} (h:p_to a)
  (hA:∀ (i:Int) (out:List α),((decide (i<(a.length:Int))=true→((((0:Int)≤i∧Int.toNat i<a.length)∧(p_to (gtd d a (Int.toNat i))∧(((0:Int)≤i∧Int.toNat i<out.length)∧((0+(Int.toNat i))<out.length))))∧A (w64 (i+(1:Int))) (List.take out.length ((out).set (0+(Int.toNat i)) (gtd d a (Int.toNat i))))))∧(decide (i<(a.length:Int))=false→Q (List.take out.length (List.drop 0 out))))→A i out)
  (hq:Q a):(((0:Int)≤(a.length:Int)∧(a.length:Int)≤big)∧A 0 (List.take (Int.toNat (a.length:Int)) (List.replicate (Int.toNat (a.length:Int)) d))):=by
 have hle:=Qb2 a
 unfold p_to at h
 refine ⟨⟨by omega,by rw [bigI];omega⟩,?_⟩
 have key:∀ out:List α,out.length=a.length→out.take 0=a.take 0→A (0:Nat) out:=by
  refine ZT a (fun r k=>∀ out:List α,out.length=a.length→out.take k=a.take k→A k out) ?_ ?_
  ·intro out hl ht
   refine hA _ out ⟨fun hc=>by simp at hc,fun _=>?_⟩
   rw [← hl,List.take_length,hl,List.take_length] at ht
   rw [List.drop_zero,List.take_length,ht]
   exact hq
  ·intro k x r hk hlt hg ih out hl ht
   refine hA _ out ⟨fun _=>?_,fun hc=>by simp at hc;omega⟩
   rw [Int.toNat_natCast,hg d]
   have hx:=Qhw hk
   refine ⟨⟨⟨by omega,hlt⟩,by unfold p_to;omega,⟨by omega,by omega⟩,by omega⟩,?_⟩
   rw [Qz (by omega) (by omega),show (k:Int)+1=(k+1:Nat) by omega,Nat.zero_add]
   have e:List.take out.length (out.set k x)=out.set k x:=by rw [List.take_of_length_le];simp
   rw [e]
   exact ih _ (by simp [hl]) (Qi1 hk hl ht)
 refine key _ (by simp) (by simp)
theorem Qfh {α:Type} [Sz α] (d:α) {a:List α} {Q:List α→Prop} {A:Int→List α→Prop} (h:p_to a)
  (hA:∀ (i:Int) (out:List α),((decide (i<(a.length:Int))=true→((((0:Int)≤i∧Int.toNat i<a.length)∧(((0:Int)≤i∧Int.toNat i<out.length)∧((0+(Int.toNat i))<out.length)))∧A (w64 (i+(1:Int))) (List.take out.length ((out).set (0+(Int.toNat i)) (gtd d a (Int.toNat i))))))∧(decide (i<(a.length:Int))=false→Q (List.take out.length (List.drop 0 out))))→A i out)
  (hq:Q a):(((0:Int)≤(a.length:Int)∧(a.length:Int)≤big)∧A 0 (List.take (Int.toNat (a.length:Int)) (List.replicate (Int.toNat (a.length:Int)) d))) :=
 QfO d h (fun i out hh=>hA i out ⟨fun hc=>⟨⟨(hh.1 hc).1.1,(hh.1 hc).1.2.2⟩,(hh.1 hc).2⟩,hh.2⟩) hq
theorem QcA {α:Type} [DecidableEq α] (d:α) {a b:List α} {Q:Bool→Prop} {A:Int→Prop} {E:α→α→Bool} (hE:∀ x y,E x y=decide (x=y)) (hb:a.length≤9223372036854775807)
  (hA:∀ (i:Int),((decide (i<(a.length:Int))=true→((((0:Int)≤i∧Int.toNat i<a.length)∧((0:Int)≤i∧Int.toNat i<b.length))∧(((!(E (gtd d a (Int.toNat i)) (gtd d b (Int.toNat i))))=true→Q false)∧((!(E (gtd d a (Int.toNat i)) (gtd d b (Int.toNat i))))=false→A (w64 (i+(1:Int)))))))∧(decide (i<(a.length:Int))=false→Q true))→A i)
  (hq:Q (m_eq a b)):((((a.length:Int) != (b.length:Int))=true→Q false)∧(((a.length:Int) != (b.length:Int))=false→A 0)):=by
 constructor
 ·intro h
  have:a≠b:=by rintro rfl;simp at h
  simpa [m_eq,this] using hq
 ·intro h
  have hl:a.length=b.length:=by
   have h:((a.length:Int)==(b.length:Int))=true:=by simpa [bne] using h
   have:=of_decide_eq_true (by simpa using h:decide ((a.length:Int)=b.length)=true)
   omega
  have key:m_eq (a.drop 0) (b.drop 0)=m_eq a b→A (0:Nat):=by
   refine ZT a (fun r k=>m_eq r (b.drop k)=m_eq a b→A k) ?_ ?_
   ·intro he
    refine hA _ ⟨fun hc=>by simp at hc,fun _=>?_⟩
    rw [← he] at hq
    simpa [m_eq,hl] using hq
   ·intro k x r hk hlt hg ih he
    refine hA _ ⟨fun _=>?_,fun hc=>by simp at hc;omega⟩
    obtain ⟨y,s,hbk⟩:∃ y s,b.drop k=y::s:=by
     cases hbk:b.drop k with
     | nil=>have:=congrArg List.length hbk;simp at this;omega
     | cons y s=>exact ⟨y,s,rfl⟩
    rw [Int.toNat_natCast,hg d,Qej hbk d,hE]
    refine ⟨⟨⟨by omega,hlt⟩,by omega,by omega⟩,fun h1=>?_,fun h1=>?_⟩
    ·have hne:x≠y:=by simpa using h1
     rw [← he,hbk] at hq
     simpa [m_eq,hne] using hq
    ·have hxy:x=y:=by simpa using h1
     rw [Qz (by omega) (by omega),show (k:Int)+1=(k+1:Nat) by omega]
     refine ih ?_
     rw [← he,hbk,QgJ hbk]
     simp [m_eq,hxy]
  exact key rfl
theorem Qjv {a b:List Int} {Q:Bool→Prop} {A:Int→Prop} (hb:a.length≤9223372036854775807)
  (hA:∀ (i:Int),((decide (i<(a.length:Int))=true→((((0:Int)≤i∧Int.toNat i<a.length)∧((0:Int)≤i∧Int.toNat i<b.length))∧((((gtd (0:Int) a (Int.toNat i)) != (gtd (0:Int) b (Int.toNat i)))=true→Q false)∧(((gtd (0:Int) a (Int.toNat i)) != (gtd (0:Int) b (Int.toNat i)))=false→A (w64 (i+(1:Int)))))))∧(decide (i<(a.length:Int))=false→Q true))→A i)
  (hq:Q (m_eq a b)):((((a.length:Int) != (b.length:Int))=true→Q false)∧(((a.length:Int) != (b.length:Int))=false→A 0)) :=
 QcA (0:Int) (E:=fun x y=>x==y) (fun x y=>by rw [Bool.eq_iff_iff];simp) hb (fun i h=>hA i h) hq
theorem QmW {a b:List Bool} {Q:Bool→Prop} {A:Int→Prop} (hb:a.length≤9223372036854775807)
  (hA:∀ (i:Int),((decide (i<(a.length:Int))=true→((((0:Int)≤i∧Int.toNat i<a.length)∧((0:Int)≤i∧Int.toNat i<b.length))∧(((!((gtd false a (Int.toNat i))==(gtd false b (Int.toNat i))))=true→Q false)∧((!((gtd false a (Int.toNat i))==(gtd false b (Int.toNat i))))=false→A (w64 (i+(1:Int)))))))∧(decide (i<(a.length:Int))=false→Q true))→A i)
  (hq:Q (m_eq a b)):((((a.length:Int) != (b.length:Int))=true→Q false)∧(((a.length:Int) != (b.length:Int))=false→A 0)) :=
 QcA false (E:=fun x y=>x==y) (fun x y=>by rw [Bool.eq_iff_iff];simp) hb (fun i h=>hA i h) hq
theorem Qfy {α:Type} (d:α) {l:List α} {c p:α→Bool} {Q:Bool→Prop} {A:Int→Prop} {e:Bool} (hb:l.length≤9223372036854775807) (hc:∀ x,c x = !p x)
  (hA:∀ (i:Int),((decide (i<(l.length:Int))=true→(((0:Int)≤i∧Int.toNat i<l.length)∧((c (gtd d l (Int.toNat i))=true→Q false)∧(c (gtd d l (Int.toNat i))=false→A (w64 (i+(1:Int)))))))∧(decide (i<(l.length:Int))=false→Q e))→A i)
  (hq:Q (l.all p&&e)):A 0:=by
 have key:(l.drop 0).all p=l.all p→A (0:Nat):=by
  refine ZT l (fun r k=>r.all p=l.all p→A k) ?_ ?_
  ·intro he
   refine hA _ ⟨fun h=>by simp at h,fun _=>?_⟩
   rw [← he] at hq
   simpa using hq
  ·intro k x r hk hlt hg ih he
   refine hA _ ⟨fun _=>?_,fun h=>by simp at h;omega⟩
   rw [Int.toNat_natCast,hg,Qz (by omega) (by omega)]
   refine ⟨⟨by omega,hlt⟩,fun h=>?_,fun h=>ih ?_⟩
   ·have hp:p x=false:=by simpa [hc] using h
    have:l.all p=false:=by rw [← he,List.all_cons,hp];rfl
    rw [this] at hq
    exact hq
   ·have hp:p x=true:=by simpa [hc] using h
    rw [← he,List.all_cons,hp]
    rfl
 exact key rfl
end Go.Proofs.Ytephkbajoofeoaa.Am

