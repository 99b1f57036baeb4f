/-
  No cell of these rows narrows 'for every input' (looked for: loops, veiled, ifaces, maps, wideKeys, modest, calm, conditions, laid).
  DERIVED. THE GIVEN ROWS OF THIS SEAT. 10 by the template 'for every input the law returns true; each argument reads behind the call as it read before'; 0 by the template 'total and deterministic' (their statements: YtjbdljkhbglnhaaGreatTotals.lean).
  GIVEN WITH THE SEED: the statements are not yours to turn. If you find one false, say at which input.
  Laid BY PROGRAM, IN A SANDBOX (cutbox-rows.mjs): the forced cells as the released guide's own fill.sh prints them over the translation a07e2c421180d136… (all of the seat's roots in one cut). By AI agents, Wed Nov 11 2026. No macro, syntax, notation, axiom, sorry.
-/
import Derived.Test.YtjbdljkhbglnhaaGreatChecked
import GoSem.Claim
import GoSem.ClaimJoined
import GoSem.ClaimMapViews
import Derived.JoinedTies
import Derived.KernelRfl
namespace Go.Proofs.YtjbdljkhbglnhaaGreat
/- THE CELL 'sum', in the pinned program and in every row, IS THE sha256 OF THE DUMP (.gsa) THAT YtjbdljkhbglnhaaGreatProg.lean LOADS. Nothing in Lean hashes anything: it is a label: what it is worth is what the hold of that sum in a sandbox is worth. -/
noncomputable def Tryz.pinned : Pinned := { name := "ytjbdljkhbglnhaagreat", sum := "a07e2c421180d13647472bb66489f0e2ae1f4851596867776fd17110d62bbbd0", checked := Tryz.checked }
namespace Rows
def none {H : Type} : Left H := { results := [], args := [] }

/-- 'laws.FnTop': WHATEVER THE INPUT: true; the input reads as it did. -/
def fnTopSpec : ChangeSpec := { name := "fnTop", fn := fun _ => fun
  | [d] => { results := [.lit (.bool true)], args := [d] }
  | _ => none }
def fnTopRow : OpenClaim := { program := "ytjbdljkhbglnhaagreat", sum := "a07e2c421180d13647472bb66489f0e2ae1f4851596867776fd17110d62bbbd0", func := "loop.example/g01407/laws.FnTop", spec := "fnTop", apart := false }
def FnTopSaid : Prop := fnTopRow.holds Tryz.pinned (OpenSpec.ofChange fnTopSpec)

/-- ITS FALSE NEIGHBOUR: 'it returns false'. Refute it at one input. -/
def fnTopWrong : ChangeSpec := { name := "fnTop", fn := fun _ => fun
  | [d] => { results := [.lit (.bool false)], args := [d] }
  | _ => none }
def FnTopWrongFalsely : Prop := fnTopRow.holds Tryz.pinned (OpenSpec.ofChange fnTopWrong)

/-- 'laws.FnDiamond': WHATEVER THE INPUT: true; the input reads as it did. -/
def fnDiamondSpec : ChangeSpec := { name := "fnDiamond", fn := fun _ => fun
  | [d] => { results := [.lit (.bool true)], args := [d] }
  | _ => none }
def fnDiamondRow : OpenClaim := { program := "ytjbdljkhbglnhaagreat", sum := "a07e2c421180d13647472bb66489f0e2ae1f4851596867776fd17110d62bbbd0", func := "loop.example/g01407/laws.FnDiamond", spec := "fnDiamond", apart := false }
def FnDiamondSaid : Prop := fnDiamondRow.holds Tryz.pinned (OpenSpec.ofChange fnDiamondSpec)

/-- ITS FALSE NEIGHBOUR: 'it returns false'. Refute it at one input. -/
def fnDiamondWrong : ChangeSpec := { name := "fnDiamond", fn := fun _ => fun
  | [d] => { results := [.lit (.bool false)], args := [d] }
  | _ => none }
def FnDiamondWrongFalsely : Prop := fnDiamondRow.holds Tryz.pinned (OpenSpec.ofChange fnDiamondWrong)

/-- 'laws.FnOnward': WHATEVER THE INPUT: true; the input reads as it did. -/
def fnOnwardSpec : ChangeSpec := { name := "fnOnward", fn := fun _ => fun
  | [d] => { results := [.lit (.bool true)], args := [d] }
  | _ => none }
def fnOnwardRow : OpenClaim := { program := "ytjbdljkhbglnhaagreat", sum := "a07e2c421180d13647472bb66489f0e2ae1f4851596867776fd17110d62bbbd0", func := "loop.example/g01407/laws.FnOnward", spec := "fnOnward", apart := false }
def FnOnwardSaid : Prop := fnOnwardRow.holds Tryz.pinned (OpenSpec.ofChange fnOnwardSpec)

/-- ITS FALSE NEIGHBOUR: 'it returns false'. Refute it at one input. -/
def fnOnwardWrong : ChangeSpec := { name := "fnOnward", fn := fun _ => fun
  | [d] => { results := [.lit (.bool false)], args := [d] }
  | _ => none }
def FnOnwardWrongFalsely : Prop := fnOnwardRow.holds Tryz.pinned (OpenSpec.ofChange fnOnwardWrong)

/-- 'laws.FnOnceMore': WHATEVER THE INPUT: true; the input reads as it did. -/
def fnOnceMoreSpec : ChangeSpec := { name := "fnOnceMore", fn := fun _ => fun
  | [d] => { results := [.lit (.bool true)], args := [d] }
  | _ => none }
def fnOnceMoreRow : OpenClaim := { program := "ytjbdljkhbglnhaagreat", sum := "a07e2c421180d13647472bb66489f0e2ae1f4851596867776fd17110d62bbbd0", func := "loop.example/g01407/laws.FnOnceMore", spec := "fnOnceMore", apart := false }
def FnOnceMoreSaid : Prop := fnOnceMoreRow.holds Tryz.pinned (OpenSpec.ofChange fnOnceMoreSpec)

/-- ITS FALSE NEIGHBOUR: 'it returns false'. Refute it at one input. -/
def fnOnceMoreWrong : ChangeSpec := { name := "fnOnceMore", fn := fun _ => fun
  | [d] => { results := [.lit (.bool false)], args := [d] }
  | _ => none }
def FnOnceMoreWrongFalsely : Prop := fnOnceMoreRow.holds Tryz.pinned (OpenSpec.ofChange fnOnceMoreWrong)

/-- 'laws.FnHeld': WHATEVER THE INPUT: true; the input reads as it did. -/
def fnHeldSpec : ChangeSpec := { name := "fnHeld", fn := fun _ => fun
  | [d] => { results := [.lit (.bool true)], args := [d] }
  | _ => none }
def fnHeldRow : OpenClaim := { program := "ytjbdljkhbglnhaagreat", sum := "a07e2c421180d13647472bb66489f0e2ae1f4851596867776fd17110d62bbbd0", func := "loop.example/g01407/laws.FnHeld", spec := "fnHeld", apart := false }
def FnHeldSaid : Prop := fnHeldRow.holds Tryz.pinned (OpenSpec.ofChange fnHeldSpec)

/-- ITS FALSE NEIGHBOUR: 'it returns false'. Refute it at one input. -/
def fnHeldWrong : ChangeSpec := { name := "fnHeld", fn := fun _ => fun
  | [d] => { results := [.lit (.bool false)], args := [d] }
  | _ => none }
def FnHeldWrongFalsely : Prop := fnHeldRow.holds Tryz.pinned (OpenSpec.ofChange fnHeldWrong)

/-- 'laws.FnAdmits': WHATEVER THE INPUT: true; the input reads as it did. -/
def fnAdmitsSpec : ChangeSpec := { name := "fnAdmits", fn := fun _ => fun
  | [d] => { results := [.lit (.bool true)], args := [d] }
  | _ => none }
def fnAdmitsRow : OpenClaim := { program := "ytjbdljkhbglnhaagreat", sum := "a07e2c421180d13647472bb66489f0e2ae1f4851596867776fd17110d62bbbd0", func := "loop.example/g01407/laws.FnAdmits", spec := "fnAdmits", apart := false }
def FnAdmitsSaid : Prop := fnAdmitsRow.holds Tryz.pinned (OpenSpec.ofChange fnAdmitsSpec)

/-- ITS FALSE NEIGHBOUR: 'it returns false'. Refute it at one input. -/
def fnAdmitsWrong : ChangeSpec := { name := "fnAdmits", fn := fun _ => fun
  | [d] => { results := [.lit (.bool false)], args := [d] }
  | _ => none }
def FnAdmitsWrongFalsely : Prop := fnAdmitsRow.holds Tryz.pinned (OpenSpec.ofChange fnAdmitsWrong)

/-- 'laws.FnEnds': WHATEVER THE INPUT: true; the input reads as it did. -/
def fnEndsSpec : ChangeSpec := { name := "fnEnds", fn := fun _ => fun
  | [d] => { results := [.lit (.bool true)], args := [d] }
  | _ => none }
def fnEndsRow : OpenClaim := { program := "ytjbdljkhbglnhaagreat", sum := "a07e2c421180d13647472bb66489f0e2ae1f4851596867776fd17110d62bbbd0", func := "loop.example/g01407/laws.FnEnds", spec := "fnEnds", apart := false }
def FnEndsSaid : Prop := fnEndsRow.holds Tryz.pinned (OpenSpec.ofChange fnEndsSpec)

/-- ITS FALSE NEIGHBOUR: 'it returns false'. Refute it at one input. -/
def fnEndsWrong : ChangeSpec := { name := "fnEnds", fn := fun _ => fun
  | [d] => { results := [.lit (.bool false)], args := [d] }
  | _ => none }
def FnEndsWrongFalsely : Prop := fnEndsRow.holds Tryz.pinned (OpenSpec.ofChange fnEndsWrong)

/-- 'laws.FnAnyWay': WHATEVER THE INPUT: true; the input reads as it did. -/
def fnAnyWaySpec : ChangeSpec := { name := "fnAnyWay", fn := fun _ => fun
  | [d] => { results := [.lit (.bool true)], args := [d] }
  | _ => none }
def fnAnyWayRow : OpenClaim := { program := "ytjbdljkhbglnhaagreat", sum := "a07e2c421180d13647472bb66489f0e2ae1f4851596867776fd17110d62bbbd0", func := "loop.example/g01407/laws.FnAnyWay", spec := "fnAnyWay", apart := false }
def FnAnyWaySaid : Prop := fnAnyWayRow.holds Tryz.pinned (OpenSpec.ofChange fnAnyWaySpec)

/-- ITS FALSE NEIGHBOUR: 'it returns false'. Refute it at one input. -/
def fnAnyWayWrong : ChangeSpec := { name := "fnAnyWay", fn := fun _ => fun
  | [d] => { results := [.lit (.bool false)], args := [d] }
  | _ => none }
def FnAnyWayWrongFalsely : Prop := fnAnyWayRow.holds Tryz.pinned (OpenSpec.ofChange fnAnyWayWrong)

/-- 'laws.FnParts': WHATEVER THE INPUT: true; the input reads as it did. -/
def fnPartsSpec : ChangeSpec := { name := "fnParts", fn := fun _ => fun
  | [d] => { results := [.lit (.bool true)], args := [d] }
  | _ => none }
def fnPartsRow : OpenClaim := { program := "ytjbdljkhbglnhaagreat", sum := "a07e2c421180d13647472bb66489f0e2ae1f4851596867776fd17110d62bbbd0", func := "loop.example/g01407/laws.FnParts", spec := "fnParts", apart := false }
def FnPartsSaid : Prop := fnPartsRow.holds Tryz.pinned (OpenSpec.ofChange fnPartsSpec)

/-- ITS FALSE NEIGHBOUR: 'it returns false'. Refute it at one input. -/
def fnPartsWrong : ChangeSpec := { name := "fnParts", fn := fun _ => fun
  | [d] => { results := [.lit (.bool false)], args := [d] }
  | _ => none }
def FnPartsWrongFalsely : Prop := fnPartsRow.holds Tryz.pinned (OpenSpec.ofChange fnPartsWrong)

/-- 'laws.FnBarrier': WHATEVER THE INPUT: true; the input reads as it did. -/
def fnBarrierSpec : ChangeSpec := { name := "fnBarrier", fn := fun _ => fun
  | [d] => { results := [.lit (.bool true)], args := [d] }
  | _ => none }
def fnBarrierRow : OpenClaim := { program := "ytjbdljkhbglnhaagreat", sum := "a07e2c421180d13647472bb66489f0e2ae1f4851596867776fd17110d62bbbd0", func := "loop.example/g01407/laws.FnBarrier", spec := "fnBarrier", apart := false }
def FnBarrierSaid : Prop := fnBarrierRow.holds Tryz.pinned (OpenSpec.ofChange fnBarrierSpec)

/-- ITS FALSE NEIGHBOUR: 'it returns false'. Refute it at one input. -/
def fnBarrierWrong : ChangeSpec := { name := "fnBarrier", fn := fun _ => fun
  | [d] => { results := [.lit (.bool false)], args := [d] }
  | _ => none }
def FnBarrierWrongFalsely : Prop := fnBarrierRow.holds Tryz.pinned (OpenSpec.ofChange fnBarrierWrong)

/- THE SECOND FORM. 'bulk': how many values and letters a reading holds, each counted each time it is reached (what is shared counts as often as it is met; a slice's spare places count too). A statement '..UptoSaid' is the law's where the arguments, and the package variables that the reading takes, are together of bulk at most 1048576: NARROWER than '..Said'. Prove '..Said' where nothing that the law and all that it calls make is longer than what came in: it says more and counts as full. Else prove '..UptoSaid'. A law counts once. -/
mutual
def uptoBulk {H : Type} : DataW H → Nat
  | .lit (.string bytes) => bytes.length + 1
  | .lit _ => 1
  | .nil => 1
  | .ptr d => uptoBulk d + 1
  | .slice elems spare => uptoBulkAll elems + uptoBulkAll spare + 1
  | .agg parts => uptoBulkAll parts + 1
  | .iface _ d => uptoBulk d + 1
  | .map entries => uptoBulkEntries entries + 1
  | .held _ => 1
def uptoBulkAll {H : Type} : List (DataW H) → Nat
  | [] => 0
  | d :: r => uptoBulk d + uptoBulkAll r
def uptoBulkEntries {H : Type} : List (Lit × DataW H) → Nat
  | [] => 0
  | x :: r => uptoBulkEntry x + uptoBulkEntries r
def uptoBulkEntry {H : Type} : Lit × DataW H → Nat
  | (.string bytes, d) => bytes.length + uptoBulk d + 1
  | (_, d) => uptoBulk d + 1
 end
def uptoSmall : (H : Type) → List (DataW H) → Bool := fun _ ds => decide (uptoBulkAll ds ≤ 1048576)
def OpenSpec.upto (s : _root_.Go.ChangeSpec) : _root_.Go.OpenSpec := { _root_.Go.OpenSpec.ofChange s with cond := some uptoSmall }

/-- 'laws.FnTop', WHERE WHAT IT READS IS OF BULK AT MOST 1048576: true; the input reads as it did. -/
def fnTopUptoRow : OpenClaim := { program := "ytjbdljkhbglnhaagreat", sum := "a07e2c421180d13647472bb66489f0e2ae1f4851596867776fd17110d62bbbd0", func := "loop.example/g01407/laws.FnTop", spec := "fnTop", apart := false, narrowed := true }
def FnTopUptoSaid : Prop := fnTopUptoRow.holds Tryz.pinned (OpenSpec.upto fnTopSpec)

/-- 'laws.FnDiamond', WHERE WHAT IT READS IS OF BULK AT MOST 1048576: true; the input reads as it did. -/
def fnDiamondUptoRow : OpenClaim := { program := "ytjbdljkhbglnhaagreat", sum := "a07e2c421180d13647472bb66489f0e2ae1f4851596867776fd17110d62bbbd0", func := "loop.example/g01407/laws.FnDiamond", spec := "fnDiamond", apart := false, narrowed := true }
def FnDiamondUptoSaid : Prop := fnDiamondUptoRow.holds Tryz.pinned (OpenSpec.upto fnDiamondSpec)

/-- 'laws.FnOnward', WHERE WHAT IT READS IS OF BULK AT MOST 1048576: true; the input reads as it did. -/
def fnOnwardUptoRow : OpenClaim := { program := "ytjbdljkhbglnhaagreat", sum := "a07e2c421180d13647472bb66489f0e2ae1f4851596867776fd17110d62bbbd0", func := "loop.example/g01407/laws.FnOnward", spec := "fnOnward", apart := false, narrowed := true }
def FnOnwardUptoSaid : Prop := fnOnwardUptoRow.holds Tryz.pinned (OpenSpec.upto fnOnwardSpec)

/-- 'laws.FnOnceMore', WHERE WHAT IT READS IS OF BULK AT MOST 1048576: true; the input reads as it did. -/
def fnOnceMoreUptoRow : OpenClaim := { program := "ytjbdljkhbglnhaagreat", sum := "a07e2c421180d13647472bb66489f0e2ae1f4851596867776fd17110d62bbbd0", func := "loop.example/g01407/laws.FnOnceMore", spec := "fnOnceMore", apart := false, narrowed := true }
def FnOnceMoreUptoSaid : Prop := fnOnceMoreUptoRow.holds Tryz.pinned (OpenSpec.upto fnOnceMoreSpec)

/-- 'laws.FnHeld', WHERE WHAT IT READS IS OF BULK AT MOST 1048576: true; the input reads as it did. -/
def fnHeldUptoRow : OpenClaim := { program := "ytjbdljkhbglnhaagreat", sum := "a07e2c421180d13647472bb66489f0e2ae1f4851596867776fd17110d62bbbd0", func := "loop.example/g01407/laws.FnHeld", spec := "fnHeld", apart := false, narrowed := true }
def FnHeldUptoSaid : Prop := fnHeldUptoRow.holds Tryz.pinned (OpenSpec.upto fnHeldSpec)

/-- 'laws.FnAdmits', WHERE WHAT IT READS IS OF BULK AT MOST 1048576: true; the input reads as it did. -/
def fnAdmitsUptoRow : OpenClaim := { program := "ytjbdljkhbglnhaagreat", sum := "a07e2c421180d13647472bb66489f0e2ae1f4851596867776fd17110d62bbbd0", func := "loop.example/g01407/laws.FnAdmits", spec := "fnAdmits", apart := false, narrowed := true }
def FnAdmitsUptoSaid : Prop := fnAdmitsUptoRow.holds Tryz.pinned (OpenSpec.upto fnAdmitsSpec)

/-- 'laws.FnEnds', WHERE WHAT IT READS IS OF BULK AT MOST 1048576: true; the input reads as it did. -/
def fnEndsUptoRow : OpenClaim := { program := "ytjbdljkhbglnhaagreat", sum := "a07e2c421180d13647472bb66489f0e2ae1f4851596867776fd17110d62bbbd0", func := "loop.example/g01407/laws.FnEnds", spec := "fnEnds", apart := false, narrowed := true }
def FnEndsUptoSaid : Prop := fnEndsUptoRow.holds Tryz.pinned (OpenSpec.upto fnEndsSpec)

/-- 'laws.FnAnyWay', WHERE WHAT IT READS IS OF BULK AT MOST 1048576: true; the input reads as it did. -/
def fnAnyWayUptoRow : OpenClaim := { program := "ytjbdljkhbglnhaagreat", sum := "a07e2c421180d13647472bb66489f0e2ae1f4851596867776fd17110d62bbbd0", func := "loop.example/g01407/laws.FnAnyWay", spec := "fnAnyWay", apart := false, narrowed := true }
def FnAnyWayUptoSaid : Prop := fnAnyWayUptoRow.holds Tryz.pinned (OpenSpec.upto fnAnyWaySpec)

/-- 'laws.FnParts', WHERE WHAT IT READS IS OF BULK AT MOST 1048576: true; the input reads as it did. -/
def fnPartsUptoRow : OpenClaim := { program := "ytjbdljkhbglnhaagreat", sum := "a07e2c421180d13647472bb66489f0e2ae1f4851596867776fd17110d62bbbd0", func := "loop.example/g01407/laws.FnParts", spec := "fnParts", apart := false, narrowed := true }
def FnPartsUptoSaid : Prop := fnPartsUptoRow.holds Tryz.pinned (OpenSpec.upto fnPartsSpec)

/-- 'laws.FnBarrier', WHERE WHAT IT READS IS OF BULK AT MOST 1048576: true; the input reads as it did. -/
def fnBarrierUptoRow : OpenClaim := { program := "ytjbdljkhbglnhaagreat", sum := "a07e2c421180d13647472bb66489f0e2ae1f4851596867776fd17110d62bbbd0", func := "loop.example/g01407/laws.FnBarrier", spec := "fnBarrier", apart := false, narrowed := true }
def FnBarrierUptoSaid : Prop := fnBarrierUptoRow.holds Tryz.pinned (OpenSpec.upto fnBarrierSpec)

end Rows
end Go.Proofs.YtjbdljkhbglnhaaGreat
