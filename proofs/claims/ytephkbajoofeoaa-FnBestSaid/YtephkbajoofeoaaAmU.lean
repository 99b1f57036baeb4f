/-
  THE TYPED MACHINE: values with their types, so that what a code comes to is reckoned by unfolding alone. Its values, its operations, its code; and what it asks of a code. No program in sight.
-/
import Derived.Test.YtephkbajoofeoaaAmT
namespace Go.Proofs.Ytephkbajoofeoaa.Am
set_option linter.unusedSimpArgs false
set_option linter.unusedVariables false
open Go Go.RowKit

/-- The type of a cell. -/
inductive CT where
  | int (k : IntKind)
  | bool
  | str
  /-- nothing but the nil pointer -/
  | nilp
  | sl (ts : List CT)

def consT (A : Type) : List CT → Type → Type
  | [], _ => A
  | _ :: _, B => A × B

mutual
@[reducible] def CT.den : CT → Type
  | .int _ => Int
  | .bool => Bool
  | .str => ByteArray
  | .nilp => Unit
  | .sl ts => List (Tup ts)
@[reducible] def Tup : List CT → Type
  | [] => Unit
  | t :: ts => consT t.den ts (Tup ts)
end

def hd {A : Type} : (ts : List CT) → {B : Type} → consT A ts B → A
  | [], _, x => x
  | _ :: _, _, x => x.1
def tl {A : Type} : (ts : List CT) → consT A ts (Tup ts) → Tup ts
  | [], _ => ()
  | _ :: _, x => x.2
def mkT {A : Type} : (ts : List CT) → A → Tup ts → consT A ts (Tup ts)
  | [], a, _ => a
  | _ :: _, a, b => (a, b)

mutual
def enc : (t : CT) → t.den → D
  | .int k, x => .v (.int k x)
  | .bool, b => .v (.bool b)
  | .str, s => .v (.string s)
  | .nilp, _ => .v (.pointer none)
  | .sl ts, l => .sl ts.length (List.map (encs ts) l)
def encs : (ts : List CT) → Tup ts → List D
  | [], _ => []
  | t :: ts, x => enc t (hd ts x) :: encs ts (tl ts x)
end

mutual
def CT.beq : CT → CT → Bool
  | .int k, .int k' => decide (k = k')
  | .bool, .bool => true
  | .str, .str => true
  | .nilp, .nilp => true
  | .sl a, .sl b => CT.beqL a b
  | _, _ => false
def CT.beqL : List CT → List CT → Bool
  | [], [] => true
  | x :: xs, y :: ys => x.beq y && CT.beqL xs ys
  | _, _ => false
end

mutual
def CT.dft : (t : CT) → t.den
  | .int _ => (0 : Int)
  | .bool => false
  | .str => ⟨#[]⟩
  | .nilp => ()
  | .sl ts => ([] : List (Tup ts))
def Tup.dft : (ts : List CT) → Tup ts
  | [] => ()
  | t :: ts => mkT ts t.dft (Tup.dft ts)
end

mutual
theorem CT.beq_eq : ∀ (a b : CT), a.beq b = true → a = b
  | .int k, .int k', h => by simp [CT.beq] at h; rw [h]
  | .bool, .bool, _ => rfl
  | .str, .str, _ => rfl
  | .nilp, .nilp, _ => rfl
  | .sl a, .sl b, h => by simp only [CT.beq] at h; rw [CT.beqL_eq a b h]
  | .int _, .bool, h => by simp [CT.beq] at h
  | .int _, .str, h => by simp [CT.beq] at h
  | .int _, .sl _, h => by simp [CT.beq] at h
  | .bool, .int _, h => by simp [CT.beq] at h
  | .bool, .str, h => by simp [CT.beq] at h
  | .bool, .sl _, h => by simp [CT.beq] at h
  | .str, .int _, h => by simp [CT.beq] at h
  | .str, .bool, h => by simp [CT.beq] at h
  | .str, .sl _, h => by simp [CT.beq] at h
  | .sl _, .int _, h => by simp [CT.beq] at h
  | .sl _, .bool, h => by simp [CT.beq] at h
  | .sl _, .str, h => by simp [CT.beq] at h
  | .int _, .nilp, h => by simp [CT.beq] at h
  | .nilp, .int _, h => by simp [CT.beq] at h
  | .bool, .nilp, h => by simp [CT.beq] at h
  | .nilp, .bool, h => by simp [CT.beq] at h
  | .str, .nilp, h => by simp [CT.beq] at h
  | .nilp, .str, h => by simp [CT.beq] at h
  | .sl _, .nilp, h => by simp [CT.beq] at h
  | .nilp, .sl _, h => by simp [CT.beq] at h
theorem CT.beqL_eq : ∀ (a b : List CT), CT.beqL a b = true → a = b
  | [], [], _ => rfl
  | x :: xs, y :: ys, h => by simp only [CT.beqL, Bool.and_eq_true] at h; rw [CT.beq_eq x y h.1, CT.beqL_eq xs ys h.2]
  | [], _ :: _, h => by simp [CT.beqL] at h
  | _ :: _, [], h => by simp [CT.beqL] at h
end

/-- A typed abstract value. -/
inductive TV where
  | u
  | c (t : CT) (x : t.den)
  | n (ts : List CT)
  | r (ts : List CT) (id off len : Nat)
  | p (id i j : Nat)
  | q (ts : List CT) (x : Tup ts) (j : Nat)
  | a (cs : List TV)
  | tp (vs : List TV)
  | bx (cs : List TV)
  | ow (e : TypeId) (ts : List CT) (es : List (Tup ts))
  /-- this value, if the test holds; else the slot was not written -/
  | g (b : Bool) (v : TV)

inductive TBlk where
  | none
  | dead
  | box (cs : List TV)
  | sl (e : TypeId) (ts : List CT) (m : Bool) (es : List (Tup ts))

def TV.emb1 : TV → AV
  | .c t x => .c (enc t x)
  | .n ts => .n ts.length
  | .r ts id off len => .r ts.length id off len
  | .p id i j => .p id i j
  | .q ts x j => .q (encs ts x) j
  | .ow e ts es => .ow e ts.length (es.map (encs ts))
  | _ => .u

def TV.emb2 : TV → AV
  | .a cs => .a (cs.map TV.emb1)
  | x => x.emb1

def TV.emb : TV → AV
  | .tp vs => .t (vs.map TV.emb2)
  | .bx cs => .bx (cs.map TV.emb1)
  | .g b v => bif b then v.emb else .t []
  | x => x.emb2

def TBlk.emb : TBlk → Blk
  | .none => .none
  | .dead => .dead
  | .box cs => .box (cs.map TV.emb1)
  | .sl e ts m es => .sl e ts.length m (es.map (encs ts))

def lkT : List (Nat × TV) → Nat → TV
  | [], _ => .u
  | (j, x) :: r, i => bif Nat.beq i j then x else lkT r i

def lkB : List (Nat × TBlk) → Nat → TBlk
  | [], _ => .none
  | (j, x) :: r, i => bif Nat.beq i j then x else lkB r i

structure TSt where
  t : List (Nat × TV)
  h : List (Nat × TBlk)
  nx : Nat

def TSt.T (σ : TSt) : Nat → TV := lkT σ.t
def TSt.H (σ : TSt) : Nat → TBlk := lkB σ.h
def TSt.emb (σ : TSt) : St := ⟨fun s => (σ.T s).emb, fun i => (σ.H i).emb, σ.nx⟩

inductive TOpd where
  | s (i : Nat)
  | k (x : TV)

def TOpd.ev (T : Nat → TV) : TOpd → TV
  | .s i => T i
  | .k x => x

def TOpd.er : TOpd → Opd
  | .s i => .s i
  | .k x => .k x.emb

inductive TOp where
  | mov (x : TOpd)
  | pick (c x y : TOpd)
  | bin (op : BinOp) (x y : TOpd)
  | cmpa (n : Nat) (neg : Bool) (x y : TOpd)
  | eqb (neg : Bool) (x y : TOpd)
  | not (x : TOpd)
  | neg (x : TOpd)
  | new (e : TypeId) (zs : List TV)
  | box (e : TypeId) (x : TOpd) (n : Nat)
  | load (x : TOpd) (n : Nat) (agg : Bool)
  | store (x v : TOpd) (n : Nat)
  | fad (x : TOpd) (off : Nat)
  | iad (x i : TOpd) (ts : List CT)
  | fld (x : TOpd) (off n : Nat) (agg : Bool)
  | build (zs : List TV) (ps : List (Nat × Nat × TOpd))
  | bsl (e : TypeId) (ts : List CT) (ps : List TOpd)
  | mk (e : TypeId) (ts : List CT) (zs : List TV) (n : TOpd)
  | slc (x : TOpd) (lo hi : Option TOpd) (ts : List CT)
  | len (x : TOpd)
  | app (s x : TOpd) (e : TypeId) (ts : List CT)
  | mm (mx : Bool) (x y : TOpd)
  | call (f : FuncId) (args : List TOpd)
  | ext (x : TOpd) (i : Nat)
  | conv (k : IntKind) (x : TOpd)
  | nilc (x : TOpd)

def erP (p : Nat × Nat × TOpd) : Nat × Nat × Opd := (p.1, p.2.1, p.2.2.er)
def erO : Option TOpd → Option Opd
  | some x => some x.er
  | none => none

def TOp.er : TOp → AOp
  | .mov x => .mov x.er
  | .pick c x y => .pick c.er x.er y.er
  | .bin op x y => .bin op x.er y.er
  | .cmpa n g x y => .cmpa n g x.er y.er
  | .eqb g x y => .eqb g x.er y.er
  | .not x => .not x.er
  | .neg x => .neg x.er
  | .new e zs => .new e (zs.map TV.emb1)
  | .box e x n => .box e x.er n
  | .load x n agg => .load x.er n agg
  | .store x v n => .store x.er v.er n
  | .fad x off => .fad x.er off
  | .iad x i ts => .iad x.er i.er ts.length
  | .fld x off n agg => .fld x.er off n agg
  | .build zs ps => .build (zs.map TV.emb1) (ps.map erP)
  | .bsl e ts ps => .bsl e ts.length (ps.map TOpd.er)
  | .mk e ts zs n => .mk e ts.length (zs.map TV.emb1) n.er
  | .slc x lo hi ts => .slc x.er (erO lo) (erO hi) ts.length
  | .len x => .len x.er
  | .app s x e ts => .app s.er x.er e ts.length
  | .mm mx x y => .mm mx x.er y.er
  | .call f args => .call f (args.map TOpd.er)
  | .ext x i => .ext x.er i
  | .conv k x => .conv k x.er
  | .nilc x => .nilc x.er

/-- What an operation asks and does. -/
structure TE where
  pre : Option Prop
  val : TV
  blks : List (Nat × TBlk)

def andP : Option Prop → Prop → Prop
  | none, k => k
  | some p, k => p ∧ k

def holds : Option Prop → Prop
  | none => True
  | some p => p

/-- The shape of an argument. -/
inductive Sh where
  | c (t : CT)
  | a (ts : List CT)
  | b (ts : List CT)
  /-- an own slice that is handed over -/
  | o (e : TypeId) (ts : List CT)

def Sh.md : Sh → Bool
  | .o _ _ => true
  | _ => false

def mdOf (sg : List Sh) : List Bool := sg.map Sh.md

def ctL : List TV → Option (List CT)
  | [] => some []
  | .c t _ :: r => match ctL r with
    | some ts => some (t :: ts)
    | none => none
  | _ => none

def Sh.fits : Sh → TV → Bool
  | .c t, .c t' _ => t'.beq t
  | .a ts, .a cs => match ctL cs with
    | some ts' => CT.beqL ts' ts
    | none => false
  | .b ts, .bx cs => match ctL cs with
    | some ts' => CT.beqL ts' ts
    | none => false
  | .o e ts, .ow e' ts' _ => Nat.beq e' e && CT.beqL ts' ts
  | _, _ => false

def fitsL : List Sh → List TV → Bool
  | [], [] => true
  | s :: ss, x :: xs => s.fits x && fitsL ss xs
  | _, _ => false

/-- What a call comes to. -/
structure TRes where
  v : TV
  hb : List TBlk
  bx : List (List TV)
  al : Bool
  gv : List TBlk

/-- A row of a table of contracts. -/
structure TRow where
  f : FuncId
  sg : List Sh
  fn : List TV → Option (Option Prop × TRes)

def tlook : List TRow → FuncId → Option TRow
  | [], _ => none
  | r :: rs, f => bif Nat.beq r.f f then some r else tlook rs f

def castL {ts ts' : List CT} (e : CT.beqL ts ts' = true) (l : List (Tup ts)) : List (Tup ts') := CT.beqL_eq ts ts' e ▸ l
def castD {t t' : CT} (e : t.beq t' = true) (x : t.den) : t'.den := CT.beq_eq t t' e ▸ x

/-- A cell read as data of a type. -/
def TV.dat (h : Nat → TBlk) (t : CT) : TV → Option t.den
  | .c t' x => if e : t'.beq t = true then some (castD e x) else none
  | .n ts => match t with
    | .sl ts' => bif CT.beqL ts ts' then some ([] : List (Tup ts')) else none
    | _ => none
  | .r _ id off len => match t with
    | .sl ts' => match h id with
      | .sl _ ts _ es => if e : CT.beqL ts ts' = true then some (((castL e es).drop off).take len) else none
      | _ => none
    | _ => none
  | _ => none

def TV.datC (h : Nat → TBlk) : TV → Option TV
  | .c t x => some (.c t x)
  | .n ts => some (.c (.sl ts) [])
  | .r _ id off len => match h id with
    | .sl _ ts _ es => some (.c (.sl ts) ((es.drop off).take len))
    | _ => none
  | _ => none

def TV.datL (h : Nat → TBlk) : List TV → Option (List TV)
  | [] => some []
  | x :: xs => match x.datC h, TV.datL h xs with
    | some d, some ds => some (d :: ds)
    | _, _ => none

def Tup.cells : (ts : List CT) → Tup ts → List TV
  | [], _ => []
  | t :: ts, x => .c t (hd ts x) :: Tup.cells ts (tl ts x)

def Tup.of (h : Nat → TBlk) : (ts : List CT) → List TV → Option (Tup ts)
  | [], xs => match xs with
    | [] => some ()
    | _ => none
  | t :: ts, xs => match xs with
    | x :: xs => match x.dat h t, Tup.of h ts xs with
      | some a, some b => some (mkT ts a b)
      | _, _ => none
    | [] => none

def TV.cells : TV → List TV
  | .a cs => cs
  | x => [x]

def TV.one : TV → Bool
  | .c _ _ | .n _ | .r .. | .p .. | .q .. => true
  | _ => false

def TV.st : TV → Bool
  | .a _ => true
  | x => x.one

def TV.ref1 : TV → List Nat
  | .r _ id _ _ => [id]
  | _ => []

def TV.refsL : List TV → List Nat
  | [] => []
  | x :: xs => x.ref1 ++ TV.refsL xs

def TV.refs : TV → List Nat
  | .a cs => TV.refsL cs
  | .g b v => bif b then v.refs else []
  | x => x.ref1

def TV.lent : TV → List Nat
  | .p id _ _ => [id]
  | .g b v => bif b then v.lent else []
  | _ => []

def fzT : TBlk → TBlk
  | .sl e ts _ es => .sl e ts false es
  | b => b

def frzT (h : Nat → TBlk) : List Nat → List (Nat × TBlk)
  | [] => []
  | id :: ids => (id, fzT (h id)) :: frzT h ids

def tpacked (agg : Bool) (cs : List TV) : Option TV :=
  if agg then some (.a cs) else match cs with
    | [x] => bif x.one then some x else none
    | _ => none

def TBlk.alive : TBlk → Bool
  | .box _ => true
  | .sl .. => true
  | _ => false

def tintsOf : List TV → Option (List Int)
  | [] => some []
  | .c (.int .i64) x :: r => match tintsOf r with
    | some l => some (x :: l)
    | none => none
  | _ => none

def intOfTV : TV → Option Int
  | .c (.int _) x => some x
  | _ => none

def toptInt (T : Nat → TV) (m : Int) : Option TOpd → Option Int
  | some l => intOfTV (l.ev T)
  | none => some m

def targ (h : Nat → TBlk) : TV → Option TV
  | .a cs => match TV.datL h cs with
    | some ds => some (.a ds)
    | none => none
  | .p id 0 0 => match h id with
    | .box cs => match TV.refsL cs with
      | [] => match TV.datL h cs with
        | some ds => some (.bx ds)
        | none => none
      | _ => none
    | _ => none
  | x => x.datC h

def targL (h : Nat → TBlk) : List TV → Option (List TV)
  | [] => some []
  | x :: xs => match targ h x, targL h xs with
    | some d, some ds => some (d :: ds)
    | _, _ => none

/-- Both, where there are both. -/
def mixP : Option Prop → Option Prop → Option Prop
  | none, q => q
  | some p, none => some p
  | some p, some q => some (p ∧ q)

def targO (h : Nat → TBlk) : TV → Option (Option Prop × TV)
  | .r ts id 0 len => match h id with
    | .sl e ts' true es => bif CT.beqL ts' ts then some (some (len = es.length), .ow e ts' es) else none
    | _ => none
  | _ => none

def targM (h : Nat → TBlk) : List Bool → List TV → Option (Option Prop × List TV)
  | [], xs => match targL h xs with
    | some ds => some (none, ds)
    | none => none
  | m :: ms, xs => match xs with
    | [] => some (none, [])
    | x :: xs => match m with
      | true => match targO h x, targM h ms xs with
        | some (p, d), some (q, ds) => some (mixP p q, d :: ds)
        | _, _ => none
      | false => match targ h x, targM h ms xs with
        | some d, some (q, ds) => some (q, d :: ds)
        | _, _ => none

def towns : List Bool → List TV → List TV
  | [], _ => []
  | m :: ms, xs => match xs with
    | [] => []
    | x :: xs => bif m then x :: towns ms xs else towns ms xs

def tdats : List Bool → List TV → List TV
  | [], xs => xs
  | m :: ms, xs => match xs with
    | [] => []
    | x :: xs => bif m then tdats ms xs else x :: tdats ms xs

def thands : List Nat → List TBlk → List (Nat × TBlk)
  | id :: ids, x :: xs => (id, x) :: thands ids xs
  | _, _ => []

def apartB : List Nat → List Nat → Bool
  | [], _ => true
  | x :: xs, ys => (ys.all fun y => !Nat.beq x y) && apartB xs ys

def TV.sh1 (b : Nat) : TV → TV
  | .r ts id off len => .r ts (id + b) off len
  | .p id i j => .p (id + b) i j
  | .c t x => .c t x
  | .n ts => .n ts
  | .q ts x j => .q ts x j
  | _ => .u

def TV.sh2 (b : Nat) : TV → TV
  | .a cs => .a (cs.map (TV.sh1 b))
  | x => x.sh1 b

def TV.sh (b : Nat) : TV → TV
  | .tp vs => .tp (vs.map (TV.sh2 b))
  | .g d v => .g d (v.sh b)
  | x => x.sh2 b

def TBlk.sh (b : Nat) : TBlk → TBlk
  | .box cs => .box (cs.map (TV.sh1 b))
  | x => x

def tnumbered (b : Nat) : List TBlk → List (Nat × TBlk)
  | [] => []
  | x :: xs => (b, x) :: tnumbered (b + 1) xs

def tboxes : List Nat → List (List TV) → List (Nat × TBlk)
  | id :: ids, cs :: css => (id, .box cs) :: tboxes ids css
  | _, _ => []

def tpieces (T : Nat → TV) : List TV → List (Nat × Nat × TOpd) → Option (List TV)
  | cs, [] => some cs
  | cs, (off, n, x) :: r =>
    bif Nat.beq (x.ev T).cells.length n && Nat.ble (off + n) cs.length && (x.ev T).st then tpieces T (splice cs off (x.ev T).cells) r else none

def telems (h : Nat → TBlk) (T : Nat → TV) (ts : List CT) : List TOpd → Option (List (Tup ts))
  | [] => some []
  | x :: r => match Tup.of h ts (x.ev T).cells, telems h T ts r with
    | some e, some es => some (e :: es)
    | _, _ => none

def nodupB : List Nat → Bool
  | [] => true
  | x :: xs => !(xs.elem x) && nodupB xs

def tcut (l : List TV) (j n : Nat) : Option (List TV) := bif Nat.ble (j + n) l.length then some ((l.drop j).take n) else none

def tbin (op : BinOp) : TV → TV → Option TE
  | .c (.int k) x, .c (.int k') y =>
    match op with
    | .shl => some ⟨some ((0 : Int) ≤ y), .c (.int k) (k.wrap (x * 2 ^ (min (Int.toNat y) k.bits))), []⟩
    | .shr => some ⟨some ((0 : Int) ≤ y), .c (.int k) (Int.fdiv x (2 ^ (min (Int.toNat y) k.bits))), []⟩
    | op => if k = k' then (match op with
      | .add => some ⟨none, .c (.int k) (k.wrap (x + y)), []⟩
      | .sub => some ⟨none, .c (.int k) (k.wrap (x - y)), []⟩
      | .mul => some ⟨none, .c (.int k) (k.wrap (x * y)), []⟩
      | .quo => some ⟨some (¬ (y : Int) = 0), .c (.int k) (k.wrap (Int.tdiv x y)), []⟩
      | .rem => some ⟨some (¬ (y : Int) = 0), .c (.int k) (Int.tmod x y), []⟩
      | .and => some ⟨none, .c (.int k) (k.wrap ((BitVec.ofInt k.bits x &&& BitVec.ofInt k.bits y).toNat)), []⟩
      | .or => some ⟨none, .c (.int k) (k.wrap ((BitVec.ofInt k.bits x ||| BitVec.ofInt k.bits y).toNat)), []⟩
      | .xor => some ⟨none, .c (.int k) (k.wrap ((BitVec.ofInt k.bits x ^^^ BitVec.ofInt k.bits y).toNat)), []⟩
      | .eql => some ⟨none, .c .bool ((x : Int) == y), []⟩
      | .neq => some ⟨none, .c .bool ((x : Int) != y), []⟩
      | .lss => some ⟨none, .c .bool (decide ((x : Int) < y)), []⟩
      | .leq => some ⟨none, .c .bool (decide ((x : Int) ≤ y)), []⟩
      | .gtr => some ⟨none, .c .bool (decide ((x : Int) > y)), []⟩
      | .geq => some ⟨none, .c .bool (decide ((x : Int) ≥ y)), []⟩
      | _ => none) else none
  | .c .str x, .c .str y => match op with
    | .eql => some ⟨none, .c .bool (ByteArray.toList x == ByteArray.toList y), []⟩
    | .neq => some ⟨none, .c .bool (!(ByteArray.toList x == ByteArray.toList y)), []⟩
    | _ => none
  | _, _ => none

/-- One of two, by a test that is known. -/
def selB {α : Type} (b : Bool) (x y : α) : α := match b with
  | true => x
  | false => y

def gt (ts : List CT) (l : List (Tup ts)) (i : Nat) : Tup ts := l.getD i (Tup.dft ts)

def tdelta (Γ : List TRow) (T : Nat → TV) (h : Nat → TBlk) (b : Nat) : TOp → Option TE
  | .mov x => some ⟨none, x.ev T, []⟩
  | .pick c x y => match c.ev T, x.ev T, y.ev T with
    | .c .bool c, .c .bool x, .c .bool y => some ⟨none, .c .bool (bif c then x else y), []⟩
    | _, _, _ => none
  | .bin op x y => tbin op (x.ev T) (y.ev T)
  | .cmpa n neg x y => match x.ev T, y.ev T with
    | .a xs, .a ys => match tintsOf xs, tintsOf ys with
      | some l, some m => bif Nat.beq l.length n && Nat.beq m.length n then some ⟨none, .c .bool (selB neg (!decide (l = m)) (decide (l = m))), []⟩ else none
      | _, _ => none
    | _, _ => none
  | .eqb neg x y => match x.ev T, y.ev T with
    | .c .bool x, .c .bool y => some ⟨none, .c .bool (selB neg (!((x : Bool) == y)) ((x : Bool) == y)), []⟩
    | _, _ => none
  | .not x => match x.ev T with
    | .c .bool c => some ⟨none, .c .bool (!c), []⟩
    | _ => none
  | .neg x => match x.ev T with
    | .c (.int k) n => some ⟨none, .c (.int k) (k.wrap (0 - n)), []⟩
    | _ => none
  | .new _ zs => some ⟨none, .p b 0 0, [(b, .box zs)]⟩
  | .box _ x n => bif Nat.beq (x.ev T).cells.length n && (x.ev T).st then some ⟨none, .p b 0 0, [(b, .box (x.ev T).cells)]⟩ else none
  | .load x n agg => match x.ev T with
    | .p id i j => match h id with
      | .box cs => match i with
        | 0 => match tcut cs j n with
          | some l => match tpacked agg l with
            | some v => some ⟨none, v, []⟩
            | none => none
          | none => none
        | _ => none
      | .sl _ ts _ es => match tcut (Tup.cells ts (gt ts es i)) j n with
        | some l => match tpacked agg l with
          | some v => some ⟨some (i < es.length), v, []⟩
          | none => none
        | none => none
      | _ => none
    | .q ts x j => match tcut (Tup.cells ts x) j n with
      | some l => match tpacked agg l with
        | some v => some ⟨none, v, []⟩
        | none => none
      | none => none
    | _ => none
  | .store x v n => bif Nat.beq (v.ev T).cells.length n && (v.ev T).st then (match x.ev T with
    | .p id i j => match h id with
      | .box cs => match i with
        | 0 => bif Nat.ble (j + n) cs.length then some ⟨none, .u, [(id, .box (splice cs j (v.ev T).cells))]⟩ else none
        | _ => none
      | .sl e ts true es => match Tup.of h ts (splice (Tup.cells ts (gt ts es i)) j (v.ev T).cells) with
        | some x => bif Nat.ble (j + n) ts.length && !((v.ev T).refs.elem id) then some ⟨some (i < es.length), .u, (id, .sl e ts true (es.set i x)) :: frzT h (v.ev T).refs⟩ else none
        | none => none
      | _ => none
    | _ => none) else none
  | .fad x off => match x.ev T with
    | .p id i j => bif (h id).alive then some ⟨none, .p id i (j + off), []⟩ else none
    | .q ts x j => some ⟨none, .q ts x (j + off), []⟩
    | _ => none
  | .iad x i ts => match i.ev T with
    | .c (.int _) i => match x.ev T with
      | .c (.sl ts') l => bif CT.beqL ts' ts then some ⟨some ((0 : Int) ≤ i ∧ Int.toNat i < List.length l), .q ts' (gt ts' l (Int.toNat i)) 0, []⟩ else none
      | .r ts' id off len => bif CT.beqL ts' ts && (h id).alive then some ⟨some ((0 : Int) ≤ i ∧ Int.toNat i < len), .p id (off + Int.toNat i) 0, []⟩ else none
      | _ => none
    | _ => none
  | .fld x off n agg => match x.ev T with
    | .a cs => match tcut cs off n with
      | some l => match tpacked agg l with
        | some v => some ⟨none, v, []⟩
        | none => none
      | none => none
    | _ => none
  | .build zs ps => match tpieces T zs ps with
    | some cs => some ⟨none, .a cs, []⟩
    | none => none
  | .bsl e ts ps => match telems h T ts ps with
    | some es => some ⟨none, .r ts b 0 es.length, (b, .sl e ts true es) :: frzT h (ps.flatMap fun x => (x.ev T).refs)⟩
    | none => none
  | .mk e ts zs n => match n.ev T, Tup.of h ts zs with
    | .c (.int _) n, some z => some ⟨some ((0 : Int) ≤ n ∧ n ≤ big), .r ts b 0 (Int.toNat n), [(b, .sl e ts true (List.replicate (Int.toNat n) z))]⟩
    | _, _ => none
  | .slc x lo hi ts =>
    match toptInt T 0 lo with
    | some lo => match x.ev T with
      | .c (.sl ts') l => match toptInt T (List.length l) hi with
        | some hi => bif CT.beqL ts' ts then some ⟨some (0 ≤ lo ∧ lo ≤ hi ∧ hi ≤ List.length l), .c (.sl ts') (List.take (hi.toNat - lo.toNat) (List.drop lo.toNat l)), []⟩ else none
        | none => none
      | .r ts' id off len => match toptInt T len hi with
        | some hi => bif CT.beqL ts' ts && (h id).alive then some ⟨some (0 ≤ lo ∧ lo ≤ hi ∧ hi ≤ len), .r ts' id (off + lo.toNat) (hi.toNat - lo.toNat), []⟩ else none
        | none => none
      | .n _ => match toptInt T 0 hi with
        | some hi => some ⟨some (lo = 0 ∧ hi = 0), .n ts, []⟩
        | none => none
      | _ => none
    | none => none
  | .len x => match x.ev T with
    | .c (.sl _) l => some ⟨none, .c (.int .i64) (List.length l : Int), []⟩
    | .n _ => some ⟨none, .c (.int .i64) (0 : Int), []⟩
    | .r _ id _ len => bif (h id).alive then some ⟨none, .c (.int .i64) (len : Int), []⟩ else none
    | _ => none
  | .app s x e ts => match (x.ev T).dat h (.sl ts) with
    | some xs => match s.ev T with
      | .n _ => some ⟨some (List.length xs ≤ big), .r ts b 0 (List.length xs), [(b, .sl e ts true xs)]⟩
      | .r _ id 0 len => match h id with
        | .sl e' ts' true es => if q : CT.beqL ts' ts = true then (bif Nat.beq e' e then
            some ⟨some ((len = es.length ∨ len + List.length xs ≤ es.length) ∧ len + List.length xs ≤ big), .r ts b 0 (len + List.length xs), [(id, .dead), (b, .sl e ts true ((castL q es).take len ++ xs))]⟩ else none) else none
        | _ => none
      | _ => none
    | none => none
  | .mm mx x y => match x.ev T, y.ev T with
    | .c (.int k) x, .c (.int _) y => some ⟨none, .c (.int k) (selB mx (if (x : Int) < y then y else x) (if (y : Int) < x then y else x)), []⟩
    | _, _ => none
  | .call f args => match tlook Γ f with
    | some row => match targM h (mdOf row.sg) (args.map fun x => x.ev T) with
      | some (p0, vs) => bif fitsL row.sg vs then (match row.fn vs with
        | some (pre, r) => bif Nat.ble r.hb.length 16 && ((r.bx.isEmpty && r.gv.isEmpty) || r.al) && nodupB ((tdats (mdOf row.sg) (args.map fun x => x.ev T)).flatMap TV.lent) &&
              nodupB ((towns (mdOf row.sg) (args.map fun x => x.ev T)).flatMap TV.refs) && apartB ((towns (mdOf row.sg) (args.map fun x => x.ev T)).flatMap TV.refs) ((tdats (mdOf row.sg) (args.map fun x => x.ev T)).flatMap TV.refs) then
            some ⟨mixP p0 pre, r.v.sh b, tnumbered b (r.hb.map (TBlk.sh b)) ++ tboxes ((tdats (mdOf row.sg) (args.map fun x => x.ev T)).flatMap TV.lent) r.bx ++ thands ((towns (mdOf row.sg) (args.map fun x => x.ev T)).flatMap TV.refs) r.gv ++
              (if r.al then frzT h ((tdats (mdOf row.sg) (args.map fun x => x.ev T)).flatMap TV.refs) else [])⟩ else none
        | none => none) else none
      | none => none
    | none => none
  | .ext x i => match x.ev T with
    | .tp vs => match vs[i]? with
      | some v => bif v.st then some ⟨none, v, []⟩ else none
      | none => none
    | _ => none
  | .conv k x => match x.ev T with
    | .c (.int _) n => some ⟨none, .c (.int k) (k.wrap n), []⟩
    | _ => none
  | .nilc x => match x.ev T with
    | .p id i j => bif (h id).alive then some ⟨none, .p id i j, []⟩ else none
    | .q ts x j => some ⟨none, .q ts x j, []⟩
    | _ => none
end Go.Proofs.Ytephkbajoofeoaa.Am
