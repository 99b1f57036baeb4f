/-
  FROM THE MODEL's CODE TO THE ABSTRACT MACHINE's: what the program's tables tell is looked up once; what the machine does not serve is refused ('none').
-/
import Derived.Test.YtephkbajoofeoaaAmB
namespace Go.Proofs.Ytephkbajoofeoaa.Am
set_option linter.unusedSimpArgs false
set_option linter.unusedVariables false
open Go Go.RowKit

def szOf (P : Program) (t : TypeId) : Option Nat := (P.info? t).map (·.size)

def aggOf (P : Program) (t : TypeId) : Option Bool :=
  match P.underlying t with
  | some (.struct _) => some true
  | some (.array _ _) => some true
  | some _ => some false
  | none => none

def elOf (P : Program) (t : TypeId) : Option TypeId :=
  match P.underlying t with
  | some (.slice e) => some e
  | _ => none

def cellTys (P : Program) : Nat → TypeId → List TypeId
  | 0, t => [t]
  | k + 1, t => match P.underlying t with
    | some (.struct fs) => fs.toList.flatMap fun f => cellTys P k f.type
    | _ => [t]

def av1 (P : Program) (t : TypeId) : Value → AV
  | .slice none 0 0 => .n (((elOf P t).bind (szOf P)).getD 0)
  | v => .c (.v v)

def avL (P : Program) (ts : List TypeId) : List Value → List AV
  | [] => []
  | v :: vs => av1 P (ts.headD 0) v :: avL P ts.tail vs

/-- A constant as an abstract value. -/
def avOf (P : Program) (t : TypeId) : Value → Option AV
  | .agg cs => if cs.toList.all (·.oneCell') then some (.a (avL P (cellTys P 8 t) cs.toList)) else none
  | v => if v.oneCell' then some (av1 P t v) else none

def cO (P : Program) (t : TypeId) : Operand → Option Opd
  | .tmp i => some (.s i)
  | .const v => (avOf P t v).map .k
  | _ => none

def cOopt (P : Program) : Option Operand → Option (Option Opd)
  | some l => (cO P 0 l).map some
  | none => some none

def cOs (P : Program) : List TypeId → List Operand → Option (List Opd)
  | _, [] => some []
  | ts, x :: xs => match cO P (ts.headD 0) x, cOs P ts.tail xs with
    | some y, some ys => some (y :: ys)
    | _, _ => none

def zeroOf (P : Program) (t : TypeId) : Option (List AV) :=
  match P.info? t with
  | some i => match i.zero with
    | some z => match avOf P t z with
      | some x => some x.cells
      | none => none
    | none => none
  | none => none

/-- The parts of a struct that is written out. -/
def cParts (P : Program) (fs : List Field) : List (Nat × Operand) → Option (List (Nat × Nat × Opd))
  | [] => some []
  | (i, x) :: r => match fs[i]? with
    | some f => match szOf P f.type, cO P f.type x, cParts P fs r with
      | some n, some y, some ys => some ((f.offset, n, y) :: ys)
      | _, _, _ => none
    | none => none

/-- The elements of a slice that is written out: all of them, in order. -/
def cElems (P : Program) (e : TypeId) : Nat → List (Nat × Operand) → Option (List Opd)
  | _, [] => some []
  | k, (i, x) :: r => if i = k then (match cO P e x, cElems P e (k + 1) r with
    | some y, some ys => some (y :: ys)
    | _, _ => none) else none

/-- Is it a struct of plain integers, one behind the other? -/
def plainInts (P : Program) (fs : List Field) (k : Nat) : Bool :=
  match fs with
  | [] => true
  | f :: r => f.name != "_" && f.offset == k && szOf P f.type == some 1 && (match P.underlying f.type with | some (.int _) => true | _ => false) && plainInts P r (k + 1)

def cmpaOk (P : Program) (t : TypeId) : Option Nat :=
  match P.underlying t with
  | some (.struct fs) => if plainInts P fs.toList 0 && !P.eqGuardType P.depth t && !P.stoodInHeld t then some fs.size else none
  | _ => none

def cBi (P : Program) : Builtin → List Operand → List TypeId → Option AOp
  | .len, [x], [t] => match P.underlying t, cO P t x with
    | some (.slice _), some x => some (.len x)
    | _, _ => none
  | .append, [s, x], [t, t'] => if t = t' then (match elOf P t with
    | some e => match szOf P e, cO P t s, cO P t x, P.info? e with
      | some sz, some s, some x, some i => if 0 < sz ∧ i.bytes ≤ 32768 ∧ (zeroOf P e).map (·.length) = some sz then some (.app s x e sz) else none
      | _, _, _, _ => none
    | none => none) else none
  | .min, [x, y], [t, t'] => match cO P t x, cO P t' y with
    | some x, some y => some (.mm false x y)
    | _, _ => none
  | .max, [x, y], [t, t'] => match cO P t x, cO P t' y with
    | some x, some y => some (.mm true x y)
    | _, _ => none
  | _, _, _ => none

def cOp (P : Program) (o : Oper) : Option AOp :=
  match o.op with
  | .move x | .assign x => (cO P o.type x).map .mov
  | .pick c x y => match cO P o.type c, cO P o.type x, cO P o.type y with
    | some c, some x, some y => some (.pick c x y)
    | _, _, _ => none
  | .alloc e => (zeroOf P e).map (.new e)
  | .box e x => match cO P e x, szOf P e with
    | some x, some n => some (.box e x n)
    | _, _ => none
  | .build t ps => match P.underlying t with
    | some (.struct fs) => match zeroOf P t, cParts P fs.toList ps.toList with
      | some zs, some ps => if fs.toList.all (fun f => (szOf P f.type).isSome) then some (.build zs ps) else none
      | _, _ => none
    | _ => none
  | .buildSlice t n ps => match elOf P t with
    | some e => match szOf P e, cElems P e 0 ps.toList with
      | some sz, some xs => if xs.length = n ∧ 0 < sz ∧ n * sz ≤ 16777216 ∧ (zeroOf P e).isSome = true then some (.bsl e sz xs) else none
      | _, _ => none
    | none => none
  | .load t x => match cO P 0 x, szOf P t, aggOf P t with
    | some x, some n, some agg => some (.load x (if agg then n else 1) agg)
    | _, _, _ => none
  | .store t x v => match cO P 0 x, cO P t v, szOf P t with
    | some x, some v, some n => some (.store x v n)
    | _, _, _ => none
  | .fieldAddr s x i => match P.underlying s with
    | some (.struct fs) => match fs[i]? with
      | some f => match szOf P f.type, cO P 0 x with
        | some n, some x => if n ≠ 0 then some (.fad x f.offset) else none
        | _, _ => none
      | none => none
    | _ => none
  | .field s x i => match P.underlying s with
    | some (.struct fs) => match fs[i]? with
      | some f => match szOf P f.type, aggOf P f.type, cO P s x with
        | some n, some agg, some x => some (.fld x f.offset (if agg then n else 1) agg)
        | _, _, _ => none
      | none => none
    | _ => none
  | .indexAddr t x i => match elOf P t with
    | some e => match szOf P e, cO P t x, cO P 0 i with
      | some sz, some x, some i => if 0 < sz then some (.iad x i sz) else none
      | _, _, _ => none
    | none => none
  | .makeSlice t (.tmp l) (.tmp c) => if l = c then (match elOf P t with
    | some e => match szOf P e, zeroOf P e, P.info? e with
      | some sz, some zs, some i => if 0 < sz ∧ i.bytes ≤ 32768 then some (.mk e sz zs (.s l)) else none
      | _, _, _ => none
    | none => none) else none
  | .slice t x lo hi none => match elOf P t with
    | some e => match szOf P e, cO P t x, cOopt P lo, cOopt P hi with
      | some sz, some x, some lo, some hi => if 0 < sz then some (.slc x lo hi sz) else none
      | _, _, _, _ => none
    | none => none
  | .binOp op t x y ty => match cO P t x, cO P ty y with
    | some x, some y => match cmpaOk P t with
      | some n => (match op with
        | .eql => some (.cmpa n false x y)
        | .neq => some (.cmpa n true x y)
        | _ => none)
      | none => (match P.underlying t with
      | some (.int _) => some (.bin op x y)
      | some .bool => match op with
        | .eql => some (.eqb false x y)
        | .neq => some (.eqb true x y)
        | _ => none
      | some .string => some (.bin op x y)
      | _ => none)
    | _, _ => none
  | .unOp .not t x => (cO P t x).map .not
  | .unOp .neg t x => (cO P t x).map .neg
  | .convert s d x => match P.underlying s, P.underlying d, cO P s x with
    | some (.int _), some (.int k), some x => some (.conv k x)
    | _, _, _ => none
  | .extract x i => (cO P 0 x).map (.ext · i)
  | .nilCheck x => (cO P 0 x).map .nilc
  | .call c => match c.callee with
    | .value (.func f) => match P.funcs[f]?, cOs P c.argTypes.toList c.args.toList with
      | some fn, some xs => if fn.body.isSome = true ∧ (fn.name == "runtime.NumGoroutine") = false then some (.call f xs) else none
      | _, _ => none
    | .builtin b => cBi P b c.args.toList c.argTypes.toList
    | _ => none
  | _ => none

def cGd (ops : Array Oper) : Option (Nat × Bool) → Option (Option (Nat × Bool))
  | none => some none
  | some (j, b) => match (ops[j]?).bind (·.dst) with
    | some s => some (some (s, b))
    | none => none

def okAO (N : Nat) (dst : Option Nat) (gd : Option (Nat × Bool)) : Bool :=
  (match dst with | some d => decide (d < N) | none => true) && (match gd with | some (s, _) => decide (s < N) | none => true)

def cAO (P : Program) (N : Nat) (ops : Array Oper) (o : Oper) (i : Nat) : Option AO :=
  match cOp P o, cGd ops o.guard with
  | some op, some gd => if okAO N o.dst gd = true then some ⟨o.dst, op, gd, 16 * i⟩ else none
  | _, _ => none

def cList (P : Program) (N : Nat) (ops : Array Oper) : List Oper → Nat → Option (List AO)
  | [], _ => some []
  | o :: r, i => match cAO P N ops o i, cList P N ops r (i + 1) with
    | some x, some xs => some (x :: xs)
    | _, _ => none

def Opd.slots : Opd → List Nat
  | .s i => [i]
  | .k _ => []

def AOp.slots : AOp → List Nat
  | .mov x | .not x | .neg x | .box _ x _ | .load x _ _ | .fad x _ | .fld x _ _ _ | .len x | .ext x _ | .conv _ x | .nilc x | .mk _ _ _ x => x.slots
  | .pick c x y => c.slots ++ x.slots ++ y.slots
  | .bin _ x y | .cmpa _ _ x y | .eqb _ x y | .store x y _ | .iad x y _ | .app x y _ _ | .mm _ x y => x.slots ++ y.slots
  | .new _ _ => []
  | .build _ ps => ps.flatMap fun x => x.2.2.slots
  | .bsl _ _ ps => ps.flatMap Opd.slots
  | .slc x lo hi _ => x.slots ++ (match lo with | some l => l.slots | none => []) ++ (match hi with | some l => l.slots | none => [])
  | .call _ args => args.flatMap Opd.slots

/-- The slots that an operation reads. -/
def AO.reads (o : AO) : List Nat := o.op.slots ++ (match o.gd with | some (s, _) => [s] | none => [])

def AO.free (o p : AO) : Bool :=
  (match o.dst with | some d => !(p.reads.elem d) && (match p.dst with | some d' => d != d' | none => true) | none => true) && (match p.dst with | some d => !(o.reads.elem d) | none => true)

/-- What an operation waits for, by an edge of its own. -/
def depsOf (o : Oper) : List Nat := (o.after.toList.filter fun e => Region.binds .any e).map fun e => e.on

/-- .. and what these wait for, and so on: one list an operation. -/
def ancTab : List Oper → List (List Nat) → List (List Nat)
  | [], acc => acc
  | o :: r, acc => ancTab r (acc ++ [((depsOf o).flatMap fun k => k :: (acc[k]?).getD []).eraseDups])

def ancs (ops : Array Oper) : List (List Nat) := ancTab ops.toList []

/-- Does the one wait for the other? -/
def waits (ops : Array Oper) (j i : Nat) : Bool := (((ancs ops)[i]?).getD []).elem j

def pairsOf (tab : List (List Nat)) (n : Nat) : List (Nat × Nat) :=
  (List.range n).flatMap fun i => (List.range i).filterMap fun j => if ((tab[i]?).getD []).elem j then none else some (j, i)

/-- The pairs of operations that may stand in either order. -/
def pairs (ops : Array Oper) : List (Nat × Nat) := pairsOf (ancs ops) ops.size

def AOp.touches : AOp → Bool
  | .load .. | .store .. | .bsl .. | .app .. | .call .. | .new .. | .box .. | .mk .. | .fad .. | .nilc .. | .iad .. | .slc .. | .len .. => true
  | _ => false

def AOp.writes : AOp → Bool
  | .store .. | .bsl .. | .app .. | .call .. | .new .. | .box .. | .mk .. => true
  | _ => false

/-- What an operation waits for stands before it. -/
def edgesOk (ops : Array Oper) : Bool :=
  (List.range ops.size).all fun i => match ops[i]? with
    | some o => o.after.all fun e => !Region.binds .any e || decide (e.on < i)
    | none => true

/-- Operations that may stand in either order have no slot in common that is written. -/
def freeOk (l : List AO) (U : List (Nat × Nat)) : Bool :=
  U.all fun (i, j) => match l[i]?, l[j]? with | some o, some p => o.free p | _, _ => false

/-- The pairs of which it is to be shown that they leave each other's memory alone. -/
def memPairs (l : List AO) (U : List (Nat × Nat)) : List (Nat × Nat) :=
  U.filter fun (i, j) => match l[i]?, l[j]? with | some o, some p => o.op.touches && p.op.touches && (o.op.writes || p.op.writes) | _, _ => true

def comp (P : Program) (N : Nat) : Code → Option ACode
  | .skip => some .skip
  | .region _ ops draw => match cList P N ops ops.toList 0 with
    | some l => if draw then
        (if (freeOk l (pairs ops) && edgesOk ops) = true then some (.draw l (memPairs l (pairs ops))) else none)
      else some (.reg l)
    | none => none
  | .seq x y => match comp P N x, comp P N y with
    | some x, some y => some (.seq x y)
    | _, _ => none
  | .cond c x y => match cO P 0 c, comp P N x, comp P N y with
    | some c, some x, some y => some (.cond c x y)
    | _, _, _ => none
  | .block id x => (comp P N x).map (.block id)
  | .loop x => (comp P N x).map .loop
  | .exit id => some (.exit id)
  | .ret => some .ret
  | _ => none

end Go.Proofs.Ytephkbajoofeoaa.Am
