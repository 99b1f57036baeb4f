/-
  THE ABSTRACT MACHINE's OPERATIONS AND CODE, AND THE WEAKEST CONDITION UNDER WHICH A CODE COMES TO WHAT IS ASKED. No program in sight.
-/
import Derived.Test.YtephkbajoofeoaaAmA
namespace Go.Proofs.Ytephkbajoofeoaa.Am
set_option linter.unusedSimpArgs false
set_option linter.unusedVariables false
open Go Go.RowKit

inductive Opd where
  | s (i : Nat)
  | k (x : AV)

def Opd.ev (t : Nat → AV) : Opd → AV
  | .s i => t i
  | .k x => x

inductive AOp where
  | mov (x : Opd)
  | pick (c x y : Opd)
  | bin (op : BinOp) (x y : Opd)
  | cmpa (n : Nat) (neg : Bool) (x y : Opd)
  | eqb (neg : Bool) (x y : Opd)
  | not (x : Opd)
  | neg (x : Opd)
  | new (e : TypeId) (zs : List AV)
  | box (e : TypeId) (x : Opd) (n : Nat)
  | load (x : Opd) (n : Nat) (agg : Bool)
  | store (x v : Opd) (n : Nat)
  | fad (x : Opd) (off : Nat)
  | iad (x i : Opd) (sz : Nat)
  | fld (x : Opd) (off n : Nat) (agg : Bool)
  | build (zs : List AV) (ps : List (Nat × Nat × Opd))
  | bsl (e : TypeId) (sz : Nat) (ps : List Opd)
  | mk (e : TypeId) (sz : Nat) (zs : List AV) (n : Opd)
  | slc (x : Opd) (lo hi : Option Opd) (sz : Nat)
  | len (x : Opd)
  | app (s x : Opd) (e : TypeId) (sz : Nat)
  | mm (mx : Bool) (x y : Opd)
  | call (f : FuncId) (args : List Opd)
  | ext (x : Opd) (i : Nat)
  | conv (k : IntKind) (x : Opd)
  | nilc (x : Opd)

/-- An operation in its place: its slot, its guard (a slot, and what it must hold), the first of its sixteen numbers for new blocks. -/
structure AO where
  dst : Option Nat
  op : AOp
  gd : Option (Nat × Bool)
  off : Nat

/-- What a call comes to: the value, the new blocks (numbered from 0 in the value), what is in the lent boxes then, whether what is read in it may be of the arguments. -/
structure Res where
  v : AV
  hb : List Blk
  bx : List (List AV)
  al : Bool
  /-- what the slices are that were handed over -/
  gv : List Blk := []

/-- A table: which arguments are own slices that are handed over; what a call comes to. -/
structure Tab where
  md : FuncId → List Bool
  fn : FuncId → List AV → Option Res

instance : CoeFun Tab fun _ => FuncId → List AV → Option Res := ⟨Tab.fn⟩

/-- What an operation does: its value, and the blocks that it writes. -/
structure Eff where
  val : AV
  blks : List (Nat × Blk)

def AV.d (h : Nat → Blk) : AV → Option D
  | .c d => some d
  | .n sz => some (.sl sz [])
  | .r _ id off len => match h id with
    | .sl _ sz _ es => some (.sl sz ((es.drop off).take len))
    | _ => none
  | _ => none

def AV.ds (h : Nat → Blk) : List AV → Option (List D)
  | [] => some []
  | x :: xs => match x.d h, AV.ds h xs with
    | some d, some ds => some (d :: ds)
    | _, _ => none

def AV.cells : AV → List AV
  | .a cs => cs
  | x => [x]

/-- Is it a value of one cell? -/
def AV.one : AV → Bool
  | .c _ | .n _ | .r .. | .p .. | .q .. => true
  | _ => false

/-- Is it a value that can lie in memory? -/
def AV.st : AV → Bool
  | .a _ => true
  | x => x.one

def AV.ref1 : AV → List Nat
  | .r _ id _ _ => [id]
  | _ => []

def AV.refsL : List AV → List Nat
  | [] => []
  | x :: xs => x.ref1 ++ AV.refsL xs

def AV.refs : AV → List Nat
  | .a cs => AV.refsL cs
  | x => x.ref1

def fzB : Blk → Blk
  | .sl e sz _ es => .sl e sz false es
  | b => b

def frz (h : Nat → Blk) : List Nat → List (Nat × Blk)
  | [] => []
  | id :: ids => (id, fzB (h id)) :: frz h ids

def splice {α : Type} (l : List α) (j : Nat) (xs : List α) : List α := l.take j ++ xs ++ l.drop (j + xs.length)

/-- What stands at cell j, n cells. -/
def cut {α : Type} (l : List α) (j n : Nat) : Option (List α) := if j + n ≤ l.length then some ((l.drop j).take n) else none

def packed (agg : Bool) (cs : List AV) : Option AV :=
  if agg then some (.a cs) else match cs with
    | [x] => some x
    | _ => none

def big : Nat := 4294967296

def Blk.alive : Blk → Bool
  | .box _ => true
  | .sl .. => true
  | _ => false

def biv (op : BinOp) : Value → Value → Option Value
  | .int k x, .int k' y =>
    match op with
    | .shl => if y < 0 then none else some (.int k (k.wrap (x * 2 ^ (min y.toNat k.bits))))
    | .shr => if y < 0 then none else some (.int k (x.fdiv (2 ^ (min y.toNat k.bits))))
    | op => if k = k' then (match op with
      | .add => some (.int k (k.wrap (x + y)))
      | .sub => some (.int k (k.wrap (x - y)))
      | .mul => some (.int k (k.wrap (x * y)))
      | .quo => if y = 0 then none else some (.int k (k.wrap (x.tdiv y)))
      | .rem => if y = 0 then none else some (.int k (x.tmod y))
      | .and => some (.int k (k.wrap ((BitVec.ofInt k.bits x &&& BitVec.ofInt k.bits y).toNat)))
      | .or => some (.int k (k.wrap ((BitVec.ofInt k.bits x ||| BitVec.ofInt k.bits y).toNat)))
      | .xor => some (.int k (k.wrap ((BitVec.ofInt k.bits x ^^^ BitVec.ofInt k.bits y).toNat)))
      | .eql => some (.bool (x == y))
      | .neq => some (.bool (x != y))
      | .lss => some (.bool (decide (x < y)))
      | .leq => some (.bool (decide (x ≤ y)))
      | .gtr => some (.bool (decide (x > y)))
      | .geq => some (.bool (decide (x ≥ y)))
      | _ => none) else none
  | .string x, .string y => match op with
    | .eql => some (.bool (x.toList == y.toList))
    | .neq => some (.bool (!(x.toList == y.toList)))
    | _ => none
  | _, _ => none

def intsOf : List AV → Option (List Int)
  | [] => some []
  | .c (.v (.int .i64 x)) :: r => match intsOf r with
    | some l => some (x :: l)
    | none => none
  | _ => none

def intOfAV : AV → Option Int
  | .c (.v (.int _ x)) => some x
  | _ => none

def optInt (ev : Opd → AV) (m : Int) : Option Opd → Option Int
  | some l => intOfAV (ev l)
  | none => some m

/-- The elements of a slice, with elements of so many cells. -/
def AV.els (h : Nat → Blk) (sz : Nat) : AV → Option (List (List D))
  | .c (.sl sz' es) => if sz' = sz then some es else none
  | .n _ => some []
  | .r _ id off len => match h id with
    | .sl _ sz' _ es => if sz' = sz then some ((es.drop off).take len) else none
    | _ => none
  | _ => none

def AV.arg (h : Nat → Blk) : AV → Option AV
  | .c d => some (.c d)
  | .n sz => some (.c (.sl sz []))
  | .r sz id off len => match (AV.r sz id off len).d h with
    | some d => some (.c d)
    | none => none
  | .a cs => match AV.ds h cs with
    | some ds => some (.a (ds.map .c))
    | none => none
  | .p id 0 0 => match h id with
    | .box cs => if AV.refsL cs = [] then (match AV.ds h cs with
      | some ds => some (.bx (ds.map .c))
      | none => none) else none
    | _ => none
  | _ => none

def AV.argL (h : Nat → Blk) : List AV → Option (List AV)
  | [] => some []
  | x :: xs => match x.arg h, AV.argL h xs with
    | some d, some ds => some (d :: ds)
    | _, _ => none

def AV.argO (h : Nat → Blk) : AV → Option AV
  | .r sz id off len => match h id with
    | .sl e sz' true es => if sz' = sz ∧ off = 0 ∧ len = es.length then some (.ow e sz es) else none
    | _ => none
  | _ => none

def AV.argM (h : Nat → Blk) : List Bool → List AV → Option (List AV)
  | [], xs => AV.argL h xs
  | m :: ms, xs => match xs with
    | [] => some []
    | x :: xs => match (if m then x.argO h else x.arg h), AV.argM h ms xs with
      | some d, some ds => some (d :: ds)
      | _, _ => none

/-- The arguments that are handed over; the others. -/
def owns : List Bool → List AV → List AV
  | [], _ => []
  | m :: ms, xs => match xs with
    | [] => []
    | x :: xs => if m then x :: owns ms xs else owns ms xs

def dats : List Bool → List AV → List AV
  | [], xs => xs
  | m :: ms, xs => match xs with
    | [] => []
    | x :: xs => if m then dats ms xs else x :: dats ms xs

def AV.lent : AV → List Nat
  | .p id _ _ => [id]
  | _ => []

def AV.sh1 (b : Nat) : AV → AV
  | .r sz id off len => .r sz (id + b) off len
  | .p id i j => .p (id + b) i j
  | .c d => .c d
  | .n sz => .n sz
  | .q cs j => .q cs j
  | _ => .u

def AV.sh2 (b : Nat) : AV → AV
  | .a cs => .a (cs.map (AV.sh1 b))
  | x => x.sh1 b

def AV.sh (b : Nat) : AV → AV
  | .t vs => .t (vs.map (AV.sh2 b))
  | x => x.sh2 b

def Blk.sh (b : Nat) : Blk → Blk
  | .box cs => .box (cs.map (AV.sh1 b))
  | x => x

def numbered (b : Nat) : List Blk → List (Nat × Blk)
  | [] => []
  | x :: xs => (b, x) :: numbered (b + 1) xs

def boxes : List Nat → List (List AV) → List (Nat × Blk)
  | id :: ids, cs :: css => (id, .box cs) :: boxes ids css
  | _, _ => []

def hands : List Nat → List Blk → List (Nat × Blk)
  | id :: ids, x :: xs => (id, x) :: hands ids xs
  | _, _ => []

def pieces (ev : Opd → AV) : List AV → List (Nat × Nat × Opd) → Option (List AV)
  | cs, [] => some cs
  | cs, (off, n, x) :: r =>
    let v := (ev x).cells
    if v.length = n ∧ off + n ≤ cs.length ∧ (ev x).st = true then pieces ev (splice cs off v) r else none

def elems (h : Nat → Blk) (ev : Opd → AV) (sz : Nat) : List Opd → Option (List (List D))
  | [] => some []
  | x :: r => match AV.ds h (ev x).cells, elems h ev sz r with
    | some e, some es => if e.length = sz then some (e :: es) else none
    | _, _ => none

def delta (Γ : Tab) (ev : Opd → AV) (h : Nat → Blk) (b : Nat) : AOp → Option Eff
  | .mov x => some ⟨ev x, []⟩
  | .pick c x y => match ev c with
    | .c (.v (.bool true)) => some ⟨ev x, []⟩
    | .c (.v (.bool false)) => some ⟨ev y, []⟩
    | _ => none
  | .bin op x y => match ev x, ev y with
    | .c (.v x), .c (.v y) => match biv op x y with
      | some v => some ⟨.c (.v v), []⟩
      | none => none
    | _, _ => none
  | .cmpa n neg x y => match ev x, ev y with
    | .a xs, .a ys => match intsOf xs, intsOf ys with
      | some l, some m => if l.length = n ∧ m.length = n then some ⟨.c (.v (.bool (if neg then !decide (l = m) else decide (l = m)))), []⟩ else none
      | _, _ => none
    | _, _ => none
  | .eqb neg x y => match ev x, ev y with
    | .c (.v (.bool x)), .c (.v (.bool y)) => some ⟨.c (.v (.bool (if neg then !(x == y) else x == y))), []⟩
    | _, _ => none
  | .not x => match ev x with
    | .c (.v (.bool c)) => some ⟨.c (.v (.bool (!c))), []⟩
    | _ => none
  | .neg x => match ev x with
    | .c (.v (.int k n)) => some ⟨.c (.v (.int k (k.wrap (0 - n)))), []⟩
    | _ => none
  | .new _ zs => some ⟨.p b 0 0, [(b, .box zs)]⟩
  | .box _ x n => if (ev x).cells.length = n ∧ (ev x).st = true then some ⟨.p b 0 0, [(b, .box (ev x).cells)]⟩ else none
  | .load x n agg => match ev x with
    | .p id i j => match h id with
      | .box cs => if i = 0 then (match cut cs j n with
        | some l => match packed agg l with
          | some v => some ⟨v, []⟩
          | none => none
        | none => none) else none
      | .sl _ _ _ es => match es[i]? with
        | some e => match cut e j n with
          | some l => match packed agg (l.map .c) with
            | some v => some ⟨v, []⟩
            | none => none
          | none => none
        | none => none
      | _ => none
    | .q cs j => match cut cs j n with
      | some l => match packed agg (l.map .c) with
        | some v => some ⟨v, []⟩
        | none => none
      | none => none
    | _ => none
  | .store x v n => if (ev v).cells.length = n ∧ (ev v).st = true then (match ev x with
    | .p id i j => match h id with
      | .box cs => if i = 0 ∧ j + n ≤ cs.length then some ⟨.u, [(id, .box (splice cs j (ev v).cells))]⟩ else none
      | .sl e sz true es => match es[i]? with
        | some x => match AV.ds h (ev v).cells with
          | some ds => if j + n ≤ x.length ∧ id ∉ (ev v).refs then some ⟨.u, (id, .sl e sz true (es.set i (splice x j ds))) :: frz h (ev v).refs⟩ else none
          | none => none
        | none => none
      | _ => none
    | _ => none) else none
  | .fad x off => match ev x with
    | .p id i j => if (h id).alive then some ⟨.p id i (j + off), []⟩ else none
    | .q cs j => some ⟨.q cs (j + off), []⟩
    | _ => none
  | .iad x i sz => match intOfAV (ev i) with
    | some i => if 0 ≤ i then (match ev x with
      | .c (.sl sz' es) => if sz' = sz then (match es[i.toNat]? with
        | some e => some ⟨.q e 0, []⟩
        | none => none) else none
      | .r sz' id off len => if sz' = sz ∧ i.toNat < len ∧ (h id).alive = true then some ⟨.p id (off + i.toNat) 0, []⟩ else none
      | _ => none) else none
    | none => none
  | .fld x off n agg => match ev x with
    | .a cs => match cut cs off n with
      | some l => match packed agg l with
        | some v => some ⟨v, []⟩
        | none => none
      | none => none
    | _ => none
  | .build zs ps => match pieces ev zs ps with
    | some cs => some ⟨.a cs, []⟩
    | none => none
  | .bsl e sz ps => match elems h ev sz ps with
    | some es => some ⟨.r sz b 0 es.length, (b, .sl e sz true es) :: frz h (ps.flatMap fun x => (ev x).refs)⟩
    | none => none
  | .mk e sz zs n => match intOfAV (ev n), AV.ds h zs with
    | some n, some z => if 0 ≤ n ∧ n ≤ big ∧ z.length = sz then some ⟨.r sz b 0 n.toNat, [(b, .sl e sz true (List.replicate n.toNat z))]⟩ else none
    | _, _ => none
  | .slc x lo hi sz =>
    match optInt ev 0 lo with
    | some lo => match ev x with
      | .c (.sl sz' es) => match optInt ev es.length hi with
        | some hi => if sz' = sz ∧ 0 ≤ lo ∧ lo ≤ hi ∧ hi ≤ es.length then some ⟨.c (.sl sz ((es.drop lo.toNat).take (hi.toNat - lo.toNat))), []⟩ else none
        | none => none
      | .r sz' id off len => match optInt ev len hi with
        | some hi => if sz' = sz ∧ 0 ≤ lo ∧ lo ≤ hi ∧ hi ≤ len ∧ (h id).alive = true then some ⟨.r sz id (off + lo.toNat) (hi.toNat - lo.toNat), []⟩ else none
        | none => none
      | .n _ => match optInt ev 0 hi with
        | some hi => if lo = 0 ∧ hi = 0 then some ⟨.n sz, []⟩ else none
        | none => none
      | _ => none
    | none => none
  | .len x => match ev x with
    | .c (.sl _ es) => some ⟨.c (.v (.int .i64 es.length)), []⟩
    | .n _ => some ⟨.c (.v (.int .i64 0)), []⟩
    | .r _ id _ len => if (h id).alive then some ⟨.c (.v (.int .i64 len)), []⟩ else none
    | _ => none
  | .app s x e sz => match (ev x).els h sz with
    | some xs => match ev s with
      | .n _ => if xs.length ≤ big then some ⟨.r sz b 0 xs.length, [(b, .sl e sz true xs)]⟩ else none
      | .r _ id 0 len => match h id with
        | .sl e' sz' true es => if e' = e ∧ sz' = sz ∧ (len = es.length ∨ len + xs.length ≤ es.length) ∧ len + xs.length ≤ big then
            some ⟨.r sz b 0 (len + xs.length), [(id, .dead), (b, .sl e sz true (es.take len ++ xs))]⟩ else none
        | _ => none
      | _ => none
    | none => none
  | .mm mx x y => match ev x, ev y with
    | .c (.v (.int k x)), .c (.v (.int _ y)) => some ⟨.c (.v (.int k (if mx then (if x < y then y else x) else (if y < x then y else x)))), []⟩
    | _, _ => none
  | .call f args => match AV.argM h (Γ.md f) (args.map ev) with
    | some vs => match Γ f vs with
      | some r => if r.hb.length ≤ 16 ∧ ((r.bx.isEmpty && r.gv.isEmpty) || r.al) = true ∧ ((dats (Γ.md f) (args.map ev)).flatMap AV.lent).Nodup ∧ ((owns (Γ.md f) (args.map ev)).flatMap AV.refs).Nodup ∧
          (∀ id, id ∈ (owns (Γ.md f) (args.map ev)).flatMap AV.refs → id ∉ (dats (Γ.md f) (args.map ev)).flatMap AV.refs) then
          some ⟨r.v.sh b, numbered b (r.hb.map (Blk.sh b)) ++ boxes ((dats (Γ.md f) (args.map ev)).flatMap AV.lent) r.bx ++ hands ((owns (Γ.md f) (args.map ev)).flatMap AV.refs) r.gv ++
            (if r.al then frz h ((dats (Γ.md f) (args.map ev)).flatMap AV.refs) else [])⟩ else none
      | none => none
    | none => none
  | .ext x i => match ev x with
    | .t vs => match vs[i]? with
      | some v => some ⟨v, []⟩
      | none => none
    | _ => none
  | .conv k x => match ev x with
    | .c (.v (.int _ n)) => some ⟨.c (.v (.int k (k.wrap n))), []⟩
    | _ => none
  | .nilc x => match ev x with
    | .p id i j => if (h id).alive then some ⟨.p id i j, []⟩ else none
    | .q cs j => some ⟨.q cs j, []⟩
    | _ => none

def updL (h : Nat → Blk) : List (Nat × Blk) → Nat → Blk
  | [] => h
  | (i, x) :: r => updL (upd h i x) r

def putO (t : Nat → AV) : Option Nat → AV → Nat → AV
  | some d, x => upd t d x
  | none, _ => t

def St.app (σ : St) (d : Option Nat) (e : Eff) : St := ⟨putO σ.t d e.val, updL σ.h e.blks, σ.nx⟩

inductive ACode where
  | skip
  | reg (ops : List AO)
  | draw (ops : List AO) (U : List (Nat × Nat))
  | seq (x y : ACode)
  | cond (c : Opd) (x y : ACode)
  | block (id : Nat) (x : ACode)
  | loop (x : ACode)
  | exit (id : Nat)
  | ret

inductive AEx where
  | normal
  | exit (id : Nat)
  | ret

/-- The operations one after the other. -/
def regK (Γ : Tab) : List AO → (St → Prop) → St → Prop
  | [], K, σ => K σ
  | o :: r, K, σ => match o.gd with
    | none => match delta Γ (Opd.ev σ.t) σ.h (σ.nx + o.off) o.op with
      | some e => regK Γ r K (σ.app o.dst e)
      | none => False
    | some (s, w) => match σ.t s with
      | .c (.v (.bool c)) =>
        (c = w → match delta Γ (Opd.ev σ.t) σ.h (σ.nx + o.off) o.op with
          | some e => regK Γ r K (σ.app o.dst e)
          | none => False) ∧
        (c ≠ w → regK Γ r K ⟨putO σ.t o.dst (.t []), σ.h, σ.nx⟩)
      | .t [] => regK Γ r K ⟨putO σ.t o.dst (.t []), σ.h, σ.nx⟩
      | _ => False

/-- The numbers of the blocks that an operation looks at or writes. -/
def acc (ev : Opd → AV) : AOp → List Nat
  | .load x _ _ | .fad x _ | .nilc x => match ev x with | .p id _ _ => [id] | _ => []
  | .iad x _ _ | .slc x _ _ _ | .len x => (ev x).refs
  | .store x v _ => (match ev x with | .p id _ _ => [id] | _ => []) ++ (ev v).refs
  | .bsl _ _ ps => ps.flatMap fun x => (ev x).refs
  | .mk _ _ zs _ => AV.refsL zs
  | .app s x _ _ => (ev s).refs ++ (ev x).refs
  | .call _ args => (args.flatMap fun x => (ev x).refs) ++ (args.flatMap fun x => (ev x).lent)
  | _ => []

def keys (l : List (Nat × Blk)) : List Nat := l.map (·.1)

/-- One operation, and what it looked at and wrote. -/
def step1 (Γ : Tab) (o : AO) (σ : St) : Option (St × List Nat × List Nat) :=
  match o.gd with
  | none => match delta Γ (Opd.ev σ.t) σ.h (σ.nx + o.off) o.op with
    | some e => some (σ.app o.dst e, acc (Opd.ev σ.t) o.op, keys e.blks)
    | none => none
  | some (s, w) => match σ.t s with
    | .c (.v (.bool c)) => if c = w then (match delta Γ (Opd.ev σ.t) σ.h (σ.nx + o.off) o.op with
      | some e => some (σ.app o.dst e, acc (Opd.ev σ.t) o.op, keys e.blks)
      | none => none) else some (⟨putO σ.t o.dst (.t []), σ.h, σ.nx⟩, [], [])
    | .t [] => some (⟨putO σ.t o.dst (.t []), σ.h, σ.nx⟩, [], [])
    | _ => none

def drawF (Γ : Tab) : List AO → St → Option (St × List (List Nat × List Nat))
  | [], σ => some (σ, [])
  | o :: r, σ => match step1 Γ o σ with
    | some (σ', a, w) => match drawF Γ r σ' with
      | some (σ'', l) => some (σ'', (a, w) :: l)
      | none => none
    | none => none

def apartL (l m : List Nat) : Bool := l.all fun x => !(m.elem x)

/-- Operations that may stand in either order leave each other alone. -/
def noconf (log : List (List Nat × List Nat)) (U : List (Nat × Nat)) : Bool :=
  U.all fun (i, j) => match log[i]?, log[j]? with
    | some (a, w), some (a', w') => apartL w (a' ++ w') && apartL w' a
    | _, _ => true

def St.bump (σ : St) (n : Nat) : St := ⟨σ.t, σ.h, σ.nx + n⟩

def awp (Γ : Tab) : ACode → (AEx → St → Prop) → St → Prop
  | .skip, Q, σ => Q .normal σ
  | .reg ops, Q, σ => regK Γ ops (fun σ' => Q .normal (σ'.bump (16 * ops.length))) σ
  | .draw ops U, Q, σ => match drawF Γ ops σ with
    | some (σ', log) => noconf log U = true ∧ Q .normal (σ'.bump (16 * ops.length))
    | none => False
  | .seq x y, Q, σ => awp Γ x (fun e σ' => match e with | .normal => awp Γ y Q σ' | e => Q e σ') σ
  | .cond c x y, Q, σ => match c.ev σ.t with
    | .c (.v (.bool t)) => (t = true → awp Γ x Q σ) ∧ (t = false → awp Γ y Q σ)
    | _ => False
  | .block id x, Q, σ => awp Γ x (fun e σ' => match e with | .exit id' => if id' = id then Q .normal σ' else Q (.exit id') σ' | e => Q e σ') σ
  | .loop x, Q, σ => ∃ (I : St → Prop) (μ : St → Nat), I σ ∧ ∀ σ', I σ' → awp Γ x (fun e σ'' => match e with | .normal => I σ'' ∧ μ σ'' < μ σ' | e => Q e σ'') σ'
  | .exit id, Q, σ => Q (.exit id) σ
  | .ret, Q, σ => Q .ret σ

end Go.Proofs.Ytephkbajoofeoaa.Am
