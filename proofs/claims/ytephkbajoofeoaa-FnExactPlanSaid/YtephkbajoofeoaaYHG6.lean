/- -/
import Derived.Test.YtephkbajoofeoaaYHG5
import Derived.Test.YtephkbajoofeoaaProg
set_option linter.all false
namespace Go.Proofs.Ytephkbajoofeoaa.Am
open Go Go.RowKit Go.Proofs.Ytephkbajoofeoaa
abbrev TI:CT:=.int .i64
abbrev w64 (x:Int):Int:=IntKind.i64.wrap x
def Loop (Γ:List TRow) (nl:Nat) (L:List (Nat × Md)) (x:TCode) (Q:Qg) (s:TSt):Prop :=
 Lfp (fun R s=>tawp Γ nl x (Qseq (fun s'=>R (gc nl L s')) Q) s) s
theorem Qg2 {Γ:List TRow} {nl:Nat} {L:List (Nat × Md)} {x:TCode} {Q:Qg} {s:TSt}
  (h:tawp Γ nl x (Qseq (fun s'=>Loop Γ nl L x Q (gc nl L s')) Q) s):Loop Γ nl L x Q s:=Qe6 h
structure Hold (p:Prop):Prop where
 h:p
theorem Hold.of {p F:Prop} (e:F=p) (h:F):Hold p:=⟨e ▸ h⟩
theorem Loop.of {Γ:List TRow} {nl:Nat} {L:List (Nat × Md)} {x:TCode} {Q:Qg} {s:TSt} {F:Prop}
  (e:F=tawp Γ nl x (Qseq (fun s'=>Loop Γ nl L x Q (gc nl L s')) Q) s) (h:F):Loop Γ nl L x Q s:=Qg2 (e ▸ h)
def gtd {α:Type} (d:α) (l:List α) (i:Nat):α:=l.getD i d
@[reducible] def Sh.den:Sh→Type
 | .c t=>t.den
 | .a ts=>Tup ts
 | .b ts=>Tup ts
 | .o _ ts=>List (Tup ts)
@[reducible] def DenL:List Sh→Type
 | []=>Unit
 | s::ss=>s.den × DenL ss
def Sh.val:(s:Sh)→s.den→TV
 | .c t,x=>.c t x
 | .a ts,x=>.a (Tup.cells ts x)
 | .b ts,x=>.bx (Tup.cells ts x)
 | .o e ts,x=>.ow e ts x
def valL:(ss:List Sh)→DenL ss→List TV
 | [],_=>[]
 | s::ss,x=>s.val x.1::valL ss x.2
def decD (t:CT):TV→Option t.den
 | .c t' x=>if e:t'.beq t=true then some (YT e x) else none
 | _=>none
def decT:(ts:List CT)→List TV→Option (Tup ts)
 | [],xs=>match xs with
  | []=>some ()
  | _=>none
 | t::ts,xs=>match xs with
  | x::xs=>match decD t x,decT ts xs with
   | some a,some b=>some (mkT ts a b)
   | _,_=>none
  | []=>none
def Sh.dec:(s:Sh)→TV→Option s.den
 | .c t,x=>decD t x
 | .a ts,x=>match x with
  | .a cs=>decT ts cs
  | _=>none
 | .b ts,x=>match x with
  | .bx cs=>decT ts cs
  | _=>none
 | .o e ts,x=>match x with
  | .ow e' ts' es=>if q:CT.beqL ts' ts=true then (bif Nat.beq e' e then some (YX q es) else none) else none
  | _=>none
def decL:(ss:List Sh)→List TV→Option (DenL ss)
 | [],xs=>match xs with
  | []=>some ()
  | _=>none
 | s::ss,xs=>match xs with
  | x::xs=>match s.dec x,decL ss xs with
   | some a,some b=>some (a,b)
   | _,_=>none
  | []=>none
theorem Qdb {t:CT} {v:TV} {x:t.den} (h:decD t v=some x):v = .c t x:=by
 cases v with
 | c t' y =>
  simp only [decD] at h
  split at h
  ·rename_i e
   have e':=CT.beq_eq _ _ e
   subst e'
   cases h
   rfl
  ·cases h
 | _=>simp [decD] at h
theorem QaW:∀ {ts:List CT} {vs:List TV} {x:Tup ts},decT ts vs=some x→vs=Tup.cells ts x
 | [],vs,x,h=>by
  cases vs with
  | nil=>rfl
  | cons v vs=>simp [decT] at h
 | t::ts,vs,x,h=>by
  cases vs with
  | nil=>simp [decT] at h
  | cons v vs =>
   simp only [decT] at h
   split at h
   rotate_left
   ·cases h
   rename_i a b h1 h2
   cases h
   rw [Tup.cells,Qdb h1,QaW h2,Y3,JJ]
theorem QeV {s:Sh} {v:TV} {x:s.den} (h:s.dec v=some x):v=s.val x:=by
 cases s with
 | c t=>exact Qdb h
 | a ts =>
  cases v with
  | a cs=>exact congrArg TV.a (QaW h)
  | _=>simp [Sh.dec] at h
 | b ts =>
  cases v with
  | bx cs=>exact congrArg TV.bx (QaW h)
  | _=>simp [Sh.dec] at h
 | o e ts =>
  cases v with
  | ow e' ts' es =>
   simp only [Sh.dec] at h
   split at h
   ·rename_i q
    have q':=CT.beqL_eq _ _ q
    subst q'
    cases hb:Nat.beq e' e with
    | false=>rw [hb] at h;cases h
    | true =>
     rw [hb] at h
     cases h
     have:=Nat.eq_of_beq_eq_true hb
     subst this
     rfl
   ·cases h
  | _=>simp [Sh.dec] at h
theorem Qdy:∀ {ss:List Sh} {vs:List TV} {x:DenL ss},decL ss vs=some x→vs=valL ss x
 | [],vs,x,h=>by
  cases vs with
  | nil=>rfl
  | cons v vs=>simp [decL] at h
 | s::ss,vs,x,h=>by
  cases vs with
  | nil=>simp [decL] at h
  | cons v vs =>
   simp only [decL] at h
   split at h
   rotate_left
   ·cases h
   rename_i a b h1 h2
   cases h
   rw [valL,QeV h1,Qdy h2]
def QD (f:FuncId) (sg:List Sh) (g:DenL sg→Option Prop × TRes):TRow:=⟨f,sg,fun vs=>match decL sg vs with
 | some x=>some (g x)
 | none=>none⟩
theorem QM {P:Program} {f:FuncId} {sg:List Sh} {g:DenL sg→Option Prop × TRes} (h:∀ x:DenL sg,holds (g x).1→TCon P f (valL sg x) (g x).2):QC P (QD f sg g):=by
 intro vs pre r hf hr hp
 simp only [QD] at hr
 split at hr
 ·rename_i x hx
  rw [Qdy hx]
  cases hg:g x with
  | mk p r' =>
   rw [hg] at hr
   cases hr
   have:=h x
   rw [hg] at this
   exact this hp
 ·cases hr
theorem QfW {P:Program} {Γ:List TRow} {f:FuncId} {tc:TCode} {rs:List (ARv × Md)} {n nb no:Nat} {xs:List TV} {r:TRes} {sg:List Sh} (hm:P.follows .mixedOrders=true) (hΓ:TOk P Γ) (hs:Y8 P f=some (tc.er,rs.map Prod.fst,n))
  (hfit:Qy sg xs=true) (hN:Nat.ble xs.length n=true) (hnl:tbxs xs=nb) (hno:tows xs=no) (h:Hold (tawp Γ (nb+no) tc (TQ nb no rs (fun r'=>r'=r)) (Qw xs))):TCon P f xs r:=by
 subst hnl
 subst hno
 exact QgS hm hΓ hs hfit (Nat.le_of_ble_eq_true hN) h.h
theorem QH:Try.prog.follows .mixedOrders=true:=by kernel_rfl
end Go.Proofs.Ytephkbajoofeoaa.Am
namespace Go.Proofs.Ytephkbajoofeoaa.Am
open Go Go.RowKit Go.Proofs.Ytephkbajoofeoaa
theorem QA {x:Int} (h1:-9223372036854775808≤x) (h2:x<9223372036854775808):w64 x=x:=IntWalk.i64_in x (by omega)
theorem QdL {α:Type} {l r:List α} {x:α} {k:Nat} (h:l.drop k=x::r) (d:α):gtd d l k=x:=by
 unfold gtd
 have:l[k]? = some x:=by
  have:=congrArg List.head? h
  simpa [List.head?_drop] using this
 rw [List.getD_eq_getElem?_getD,this];rfl
theorem Qfg {α:Type} {l r:List α} {x:α} {k:Nat} (h:l.drop k=x::r):k<l.length:=by
 apply Classical.byContradiction
 intro hn
 rw [List.drop_eq_nil_of_le (by omega)] at h
 cases h
theorem Qdv {α:Type} {l r:List α} {x:α} {k:Nat} (h:l.drop k=x::r):l.drop (k+1)=r:=by
 have:=congrArg List.tail h
 simpa [List.tail_drop] using this
theorem QbS {α:Type} (l:List α) (P:List α→Nat→Prop) (h0:P [] l.length) (hs:∀ (k:Nat) (x:α) (r:List α),l.drop k=x::r→k<l.length→(∀ d,gtd d l k=x)→P r (k+1)→P (x::r) k):P l 0:=by
 suffices ∀ (r:List α) (k:Nat),l.drop k=r→k≤l.length→P r k from this l 0 rfl (Nat.zero_le _)
 intro r
 induction r with
 | nil =>
  intro k hk hle
  have:l.length≤k:=by simpa using hk
  rw [show k=l.length by omega]
  exact h0
 | cons x r ih =>
  intro k hk hle
  have hlt:=Qfg hk
  exact hs k x r hk hlt (QdL hk) (ih (k+1) (Qdv hk) hlt)
theorem Jo (n:Nat) (P:Nat→Prop) (h0:P n) (hs:∀ k,k<n→P (k+1)→P k):P 0:=by
 suffices ∀ j k,k+j=n→P k from this n 0 (by omega)
 intro j
 induction j with
 | zero=>intro k hk;rw [show k=n by omega];exact h0
 | succ j ih=>intro k hk;exact hs k (by omega) (ih (k+1) (by omega))
class Sz (α:Type) where
 sz:α→Nat
instance:Sz Int:=⟨fun _=>0⟩
instance:Sz Bool:=⟨fun _=>0⟩
instance:Sz ByteArray:=⟨fun _=>0⟩
instance {α β:Type} [Sz α] [Sz β]:Sz (α × β):=⟨fun x=>Sz.sz x.1+Sz.sz x.2⟩
def szL {α:Type} [Sz α]:List α→Nat
 | []=>0
 | x::r=>1+Sz.sz x+szL r
instance {α:Type} [Sz α]:Sz (List α):=⟨szL⟩
open Sz
@[simp] theorem Qh8 (x:Int):sz x=0:=rfl
@[simp] theorem Qh6 (x:Bool):sz x=0:=rfl
@[simp] theorem Qh4 {α β:Type} [Sz α] [Sz β] (x:α) (y:β):sz (x,y)=sz x+sz y:=rfl
@[simp] theorem Qh5 {α:Type} [Sz α]:sz ([]:List α)=0:=rfl
@[simp] theorem Qh7 {α:Type} [Sz α] (x:α) (r:List α):sz (x::r)=1+sz x+sz r:=rfl
@[simp] theorem Qh3 {α:Type} [Sz α] (l r:List α):sz (l++r)=sz l+sz r:=by
 induction l with
 | nil=>simp
 | cons x l ih=>simp [ih];omega
theorem QT:(big:Nat)=4294967296:=rfl
theorem R_eq {α:Type} {R:α→TRes} {x y:α} (h:x=y):R x=R y:=by rw [h]
end Go.Proofs.Ytephkbajoofeoaa.Am
namespace Go.Proofs.Ytephkbajoofeoaa.Am
open Go Go.RowKit
instance (n:Nat):OfNat TOpd n:=⟨.s n⟩
abbrev zci (n:Int):TV:=.c TI n
abbrev zcb (b:Bool):TV:=.c .bool b
abbrev zcs (ts:List CT) (x:List (Tup ts)):TV:=.c (.sl ts) x
def zki (n:Int):TOpd:=.k (.c TI n)
def zkb (b:Bool):TOpd:=.k (.c .bool b)
def zop (d:Nat) (x:TOp):TStm:=.op (some d) x
def zmv (d:Nat) (x:TOpd):TStm:=.op (some d) (.mov x)
def zld (d:Nat) (x:TOpd) (n:Nat):TStm:=.op (some d) (.load x n false)
def zLd (d:Nat) (x:TOpd) (n:Nat):TStm:=.op (some d) (.load x n true)
def zfa (d:Nat) (x:TOpd) (o:Nat):TStm:=.op (some d) (.fad x o)
def zle (d:Nat) (x:TOpd):TStm:=.op (some d) (.len x)
def zbi (d:Nat) (o:BinOp) (x y:TOpd):TStm:=.op (some d) (.bin o x y)
def zst (x v:TOpd) (n:Nat):TStm:=.op none (.store x v n)
def zca (d:Nat) (f:FuncId) (l:List TOpd):TStm:=.op (some d) (.call f l)
def zia (d:Nat) (x i:TOpd) (ts:List CT):TStm:=.op (some d) (.iad x i ts)
def zno (d:Nat) (x:TOpd):TStm:=.op (some d) (.not x)
def zsq:List TCode→TCode
 | []=>.skip
 | [x]=>x
 | x::y::r=>.seq x (zsq (y::r))
def z01:CT→TV
 | .int k=>.c (.int k) (0:Int)
 | .bool=>.c .bool false
 | .str=>.c .str ⟨#[]⟩
 | .nilp=>.c .nilp ()
 | .sl ts=>.n ts
def z0s:List CT→List TV
 | []=>[]
 | t::ts=>z01 t::z0s ts
abbrev zif (c:Bool) (A B:Prop):Prop:=(c=true→A)∧(c=false→B)
def zdl (l:List Nat):List (Nat × Md):=l.map fun i=>(i,.one .d)
@[reducible] def zre (v:TV):TRes:=⟨v,[],[],false,[]⟩
theorem tcg {P:Program} {Γ:List TRow} {f:FuncId} {tc:TCode} {rs:List (ARv × Md)} {n nb no:Nat} {xs:List TV} {r:TRes} {sg:List Sh} (hm:P.follows .mixedOrders=true) (hΓ:TOk P Γ) (hs:Y8 P f=some (tc.er,rs.map Prod.fst,n))
  (hq:((Qy sg xs&&Nat.ble xs.length n)&&(Nat.beq (tbxs xs) nb&&Nat.beq (tows xs) no))=true) (h:Hold (tawp Γ (nb+no) tc (TQ nb no rs (fun r'=>r'=r)) (Qw xs))):TCon P f xs r:=by
 simp only [Bool.and_eq_true] at hq
 exact QfW hm hΓ hs hq.1.1 hq.1.2 (Nat.eq_of_beq_eq_true hq.2.1) (Nat.eq_of_beq_eq_true hq.2.2) h
end Go.Proofs.Ytephkbajoofeoaa.Am
namespace Go.Proofs.Ytephkbajoofeoaa.Am
open Sz
abbrev TIns:=Int × Int
abbrev QhL:=Int × List Int
abbrev TOp':=Int × Int × Int × List Int
abbrev QaP:=Int × List (List Int)
abbrev Qgj:=List Int × List Int
abbrev Qap:=Int × List QhL
abbrev QcW:=List (List Int) × Int × Bool
def QaQ {α β γ δ ε:Type} (_:α) (_:β) (_:γ) (_:δ) (_:ε):Bool:=true
def pl (left:Int):Prop:=-1≤left∧left≤1048576
def m_eq {α:Type} [DecidableEq α] (x y:α):Bool:=decide (x=y)
def m_in (x a b:Int):Bool:=decide (a≤x)&&decide (x≤b)
def QhN (x:Int):Bool:=decide (-2147483647≤x)&&decide (x≤2147483647)
def Qgk (v:List Int):Bool:=v.all QhN
end Go.Proofs.Ytephkbajoofeoaa.Am
namespace Go.Proofs.Ytephkbajoofeoaa.Am
open Go Sz
abbrev QaB:=Int × List TIns × List TOp' × Bool × Bool × List QaP × List (List Int) × List Int × List Int × List Int × List Int × List (List Int) × Int × Bool
abbrev Qb6:=List TOp' × List Int × Int × List Bool × List Int × List Int
abbrev Qb7:=List Qgj × List QaB × List Qap × List Qap
abbrev dIns:TIns:=(0,0)
abbrev Qb:List CT:=[.int .i64,.int .i64]
set_option synthInstance.maxSize 2000
set_option synthInstance.maxHeartbeats 200000
instance:DecidableEq TOp':=inferInstance
instance:DecidableEq QaP:=inferInstance
instance:DecidableEq Qap:=inferInstance
abbrev TSt4:=List Int × List Int × List Int × List Int × QcW
abbrev TSt3:=List QaP × List (List Int) × TSt4
abbrev TSt2:=List TOp' × Bool × Bool × TSt3
instance:DecidableEq QcW:=inferInstance
instance:DecidableEq TSt4:=inferInstance
instance:DecidableEq TSt3:=inferInstance
instance:DecidableEq TSt2:=inferInstance
instance:DecidableEq QaB:=(inferInstance:DecidableEq (Int × List TIns × TSt2))
instance:DecidableEq Qb6:=inferInstance
instance:DecidableEq Qb7:=inferInstance
instance:Sz QaB:=inferInstance
instance:Sz Qb6:=inferInstance
instance:Sz Qb7:=inferInstance
def QhJ (o:TOp'):Int :=
 if m_in o.2.1 1 6&&m_in o.2.2.1 1 6 then (if o.1=1∨o.1=5 then o.2.1*o.2.2.1 else if o.1=2 then o.2.1 else if o.1=4 then 1 else 0) else 0
def Qhg (o:TOp'):Bool :=
 m_in o.1 1 5&&m_in o.2.1 1 6&&m_in o.2.2.1 1 6&&(o.1==1||o.2.1==o.2.2.1)&&((o.2.2.2.length:Int)==QhJ o)&&Qgk o.2.2.2
def slice {α:Type} (l:List α) (a b:Int):List α:=(l.drop a.toNat).take (b.toNat-a.toNat)
def iMin (a b:Int):Int:=if b<a then b else a
def Qm (st s mi:Int):Bool:=m_in st 1 4&&m_in s 0 (st-1)&&m_in mi 1 5
def Qk (ds st s mi:Int):Int:=if Qm st s mi then (if ds=2 then iMin mi (st-1-s) else mi) else 0
def Qr (st s m:Int):List TIns:=(if 0<s then [(1,m)] else [])++[(2,m)]++(if s<st-1 then [(3,m)] else [])
def Qt (st s m:Int) (redo:Bool):List TIns:=(if s<st-1 then [(4,m)] else [])++(if redo then [(5,m)] else [])++[(6,m)]++(if 0<s then [(7,m)] else [])
def Qp (ds st s mi:Int) (redo:Bool):List TIns :=
 if m_in ds 1 2&&Qm st s mi then
  (let w:=(Qk ds st s mi).toNat
   ((List.range w).flatMap fun m:Nat=>Qr st s (m:Int))++((List.range mi.toNat).flatMap fun m:Nat=>(if (m:Int)+w<mi then Qr st s ((m:Int)+w) else [])++Qt st s (m:Int) redo)++[(8,0)])
 else []
end Go.Proofs.Ytephkbajoofeoaa.Am
namespace Go.Proofs.Ytephkbajoofeoaa.Am
open Go Sz
theorem QeB {α:Type} [DecidableEq α] (d:α) {a b:List α} {Q:Bool→Prop} {A:Int→Prop} {E:α→α→Bool} (hE:∀ x y,E x y=decide (x=y)) (hb:a.length≤9223372036854775807)
  (hA:∀ (i:Int),((decide (i<(a.length:Int))=true→((((0:Int)≤i∧Int.toNat i<a.length)∧((0:Int)≤i∧Int.toNat i<b.length))∧(((!(E (gtd d a (Int.toNat i)) (gtd d b (Int.toNat i))))=true→Q false)∧((!(E (gtd d a (Int.toNat i)) (gtd d b (Int.toNat i))))=false→A (w64 (i+(1:Int)))))))∧(decide (i<(a.length:Int))=false→Q true))→A i)
  (hq:Q (m_eq a b)):((((a.length:Int) != (b.length:Int))=true→Q false)∧(((a.length:Int) != (b.length:Int))=false→A 0)):=by
 constructor
 ·intro h
  have:a≠b:=by rintro rfl;simp at h
  simpa [m_eq,this] using hq
 ·intro h
  have hl:a.length=b.length:=by
   have h:((a.length:Int)==(b.length:Int))=true:=by simpa [bne] using h
   have:=of_decide_eq_true (by simpa using h:decide ((a.length:Int)=b.length)=true)
   omega
  have key:m_eq (a.drop 0) (b.drop 0)=m_eq a b→A (0:Nat):=by
   refine QbS a (fun r k=>m_eq r (b.drop k)=m_eq a b→A k) ?_ ?_
   ·intro he
    refine hA _ ⟨fun hc=>by simp at hc,fun _=>?_⟩
    rw [← he] at hq
    simpa [m_eq,hl] using hq
   ·intro k x r hk hlt hg ih he
    refine hA _ ⟨fun _=>?_,fun hc=>by simp at hc;omega⟩
    obtain ⟨y,s,hbk⟩:∃ y s,b.drop k=y::s:=by
     cases hbk:b.drop k with
     | nil=>have:=congrArg List.length hbk;simp at this;omega
     | cons y s=>exact ⟨y,s,rfl⟩
    rw [Int.toNat_natCast,hg d,QdL hbk d,hE]
    refine ⟨⟨⟨by omega,hlt⟩,by omega,by omega⟩,fun h1=>?_,fun h1=>?_⟩
    ·have hne:x≠y:=by simpa using h1
     rw [← he,hbk] at hq
     simpa [m_eq,hne] using hq
    ·have hxy:x=y:=by simpa using h1
     rw [QA (by omega) (by omega),show (k:Int)+1=(k+1:Nat) by omega]
     refine ih ?_
     rw [← he,hbk,Qdv hbk]
     simp [m_eq,hxy]
  exact key rfl
end Go.Proofs.Ytephkbajoofeoaa.Am

