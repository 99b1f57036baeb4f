/-
  No cell of these rows narrows 'for every input' (looked for: loops, veiled, ifaces, maps, wideKeys, modest, calm, conditions, laid).
  DERIVED. THE GIVEN ROWS OF THIS SEAT. 9 by the template 'for every input the law returns true; each argument reads behind the call as it read before'; 0 by the template 'total and deterministic' (their statements: YtdplaepmjogjjaaGreatTotals.lean).
  GIVEN WITH THE SEED: the statements are not yours to turn. If you find one false, say at which input.
  Laid BY PROGRAM, IN A SANDBOX (cutbox-rows.mjs): the forced cells as the released guide's own fill.sh prints them over the translation 54a4ed7bba33087b… (all of the seat's roots in one cut). By AI agents, Wed Nov 11 2026. No macro, syntax, notation, axiom, sorry.
-/
import Derived.Test.YtdplaepmjogjjaaGreatChecked
import GoSem.Claim
import GoSem.ClaimJoined
import GoSem.ClaimMapViews
import Derived.JoinedTies
import Derived.KernelRfl
namespace Go.Proofs.YtdplaepmjogjjaaGreat
/- THE CELL 'sum', in the pinned program and in every row, IS THE sha256 OF THE DUMP (.gsa) THAT YtdplaepmjogjjaaGreatProg.lean LOADS. Nothing in Lean hashes anything: it is a label: what it is worth is what the hold of that sum in a sandbox is worth. -/
noncomputable def Tryz.pinned : Pinned := { name := "ytdplaepmjogjjaagreat", sum := "54a4ed7bba33087b80542846c87f457061de9c2b75f480ab59a6818c22cb9057", checked := Tryz.checked }
namespace Rows
def none {H : Type} : Left H := { results := [], args := [] }

/-- 'laws.FnExactStageRedo': WHATEVER THE INPUT: true; the input reads as it did. -/
def fnExactStageRedoSpec : ChangeSpec := { name := "fnExactStageRedo", fn := fun _ => fun
  | [d1, d2] => { results := [.lit (.bool true)], args := [d1, d2] }
  | _ => none }
def fnExactStageRedoRow : OpenClaim := { program := "ytdplaepmjogjjaagreat", sum := "54a4ed7bba33087b80542846c87f457061de9c2b75f480ab59a6818c22cb9057", func := "loop.example/g01407/laws.FnExactStageRedo", spec := "fnExactStageRedo", apart := false }
def FnExactStageRedoSaid : Prop := fnExactStageRedoRow.holds Tryz.pinned (OpenSpec.ofChange fnExactStageRedoSpec)

/-- ITS FALSE NEIGHBOUR: 'it returns false'. Refute it at one input. -/
def fnExactStageRedoWrong : ChangeSpec := { name := "fnExactStageRedo", fn := fun _ => fun
  | [d1, d2] => { results := [.lit (.bool false)], args := [d1, d2] }
  | _ => none }
def FnExactStageRedoWrongFalsely : Prop := fnExactStageRedoRow.holds Tryz.pinned (OpenSpec.ofChange fnExactStageRedoWrong)

/-- 'laws.FnExactEnabledAll': WHATEVER THE INPUT: true; the input reads as it did. -/
def fnExactEnabledAllSpec : ChangeSpec := { name := "fnExactEnabledAll", fn := fun _ => fun
  | [d] => { results := [.lit (.bool true)], args := [d] }
  | _ => none }
def fnExactEnabledAllRow : OpenClaim := { program := "ytdplaepmjogjjaagreat", sum := "54a4ed7bba33087b80542846c87f457061de9c2b75f480ab59a6818c22cb9057", func := "loop.example/g01407/laws.FnExactEnabledAll", spec := "fnExactEnabledAll", apart := false }
def FnExactEnabledAllSaid : Prop := fnExactEnabledAllRow.holds Tryz.pinned (OpenSpec.ofChange fnExactEnabledAllSpec)

/-- ITS FALSE NEIGHBOUR: 'it returns false'. Refute it at one input. -/
def fnExactEnabledAllWrong : ChangeSpec := { name := "fnExactEnabledAll", fn := fun _ => fun
  | [d] => { results := [.lit (.bool false)], args := [d] }
  | _ => none }
def FnExactEnabledAllWrongFalsely : Prop := fnExactEnabledAllRow.holds Tryz.pinned (OpenSpec.ofChange fnExactEnabledAllWrong)

/-- 'laws.FnExactStageFwd': WHATEVER THE INPUT: true; the input reads as it did. -/
def fnExactStageFwdSpec : ChangeSpec := { name := "fnExactStageFwd", fn := fun _ => fun
  | [d1, d2, d3, d4] => { results := [.lit (.bool true)], args := [d1, d2, d3, d4] }
  | _ => none }
def fnExactStageFwdRow : OpenClaim := { program := "ytdplaepmjogjjaagreat", sum := "54a4ed7bba33087b80542846c87f457061de9c2b75f480ab59a6818c22cb9057", func := "loop.example/g01407/laws.FnExactStageFwd", spec := "fnExactStageFwd", apart := false }
def FnExactStageFwdSaid : Prop := fnExactStageFwdRow.holds Tryz.pinned (OpenSpec.ofChange fnExactStageFwdSpec)

/-- ITS FALSE NEIGHBOUR: 'it returns false'. Refute it at one input. -/
def fnExactStageFwdWrong : ChangeSpec := { name := "fnExactStageFwd", fn := fun _ => fun
  | [d1, d2, d3, d4] => { results := [.lit (.bool false)], args := [d1, d2, d3, d4] }
  | _ => none }
def FnExactStageFwdWrongFalsely : Prop := fnExactStageFwdRow.holds Tryz.pinned (OpenSpec.ofChange fnExactStageFwdWrong)

/-- 'laws.FnExactStageBwd': WHATEVER THE INPUT: true; the input reads as it did. -/
def fnExactStageBwdSpec : ChangeSpec := { name := "fnExactStageBwd", fn := fun _ => fun
  | [d1, d2, d3] => { results := [.lit (.bool true)], args := [d1, d2, d3] }
  | _ => none }
def fnExactStageBwdRow : OpenClaim := { program := "ytdplaepmjogjjaagreat", sum := "54a4ed7bba33087b80542846c87f457061de9c2b75f480ab59a6818c22cb9057", func := "loop.example/g01407/laws.FnExactStageBwd", spec := "fnExactStageBwd", apart := false }
def FnExactStageBwdSaid : Prop := fnExactStageBwdRow.holds Tryz.pinned (OpenSpec.ofChange fnExactStageBwdSpec)

/-- ITS FALSE NEIGHBOUR: 'it returns false'. Refute it at one input. -/
def fnExactStageBwdWrong : ChangeSpec := { name := "fnExactStageBwd", fn := fun _ => fun
  | [d1, d2, d3] => { results := [.lit (.bool false)], args := [d1, d2, d3] }
  | _ => none }
def FnExactStageBwdWrongFalsely : Prop := fnExactStageBwdRow.holds Tryz.pinned (OpenSpec.ofChange fnExactStageBwdWrong)

/-- 'laws.FnExactPipeNew': WHATEVER THE INPUT: true; the input reads as it did. -/
def fnExactPipeNewSpec : ChangeSpec := { name := "fnExactPipeNew", fn := fun _ => fun
  | [d1, d2] => { results := [.lit (.bool true)], args := [d1, d2] }
  | _ => none }
def fnExactPipeNewRow : OpenClaim := { program := "ytdplaepmjogjjaagreat", sum := "54a4ed7bba33087b80542846c87f457061de9c2b75f480ab59a6818c22cb9057", func := "loop.example/g01407/laws.FnExactPipeNew", spec := "fnExactPipeNew", apart := false }
def FnExactPipeNewSaid : Prop := fnExactPipeNewRow.holds Tryz.pinned (OpenSpec.ofChange fnExactPipeNewSpec)

/-- ITS FALSE NEIGHBOUR: 'it returns false'. Refute it at one input. -/
def fnExactPipeNewWrong : ChangeSpec := { name := "fnExactPipeNew", fn := fun _ => fun
  | [d1, d2] => { results := [.lit (.bool false)], args := [d1, d2] }
  | _ => none }
def FnExactPipeNewWrongFalsely : Prop := fnExactPipeNewRow.holds Tryz.pinned (OpenSpec.ofChange fnExactPipeNewWrong)

/-- 'laws.FnExactGradients': WHATEVER THE INPUT: true; the input reads as it did. -/
def fnExactGradientsSpec : ChangeSpec := { name := "fnExactGradients", fn := fun _ => fun
  | [d1, d2] => { results := [.lit (.bool true)], args := [d1, d2] }
  | _ => none }
def fnExactGradientsRow : OpenClaim := { program := "ytdplaepmjogjjaagreat", sum := "54a4ed7bba33087b80542846c87f457061de9c2b75f480ab59a6818c22cb9057", func := "loop.example/g01407/laws.FnExactGradients", spec := "fnExactGradients", apart := false }
def FnExactGradientsSaid : Prop := fnExactGradientsRow.holds Tryz.pinned (OpenSpec.ofChange fnExactGradientsSpec)

/-- ITS FALSE NEIGHBOUR: 'it returns false'. Refute it at one input. -/
def fnExactGradientsWrong : ChangeSpec := { name := "fnExactGradients", fn := fun _ => fun
  | [d1, d2] => { results := [.lit (.bool false)], args := [d1, d2] }
  | _ => none }
def FnExactGradientsWrongFalsely : Prop := fnExactGradientsRow.holds Tryz.pinned (OpenSpec.ofChange fnExactGradientsWrong)

/-- 'laws.FnExactPick': WHATEVER THE INPUT: true; the input reads as it did. -/
def fnExactPickSpec : ChangeSpec := { name := "fnExactPick", fn := fun _ => fun
  | [d1, d2] => { results := [.lit (.bool true)], args := [d1, d2] }
  | _ => none }
def fnExactPickRow : OpenClaim := { program := "ytdplaepmjogjjaagreat", sum := "54a4ed7bba33087b80542846c87f457061de9c2b75f480ab59a6818c22cb9057", func := "loop.example/g01407/laws.FnExactPick", spec := "fnExactPick", apart := false }
def FnExactPickSaid : Prop := fnExactPickRow.holds Tryz.pinned (OpenSpec.ofChange fnExactPickSpec)

/-- ITS FALSE NEIGHBOUR: 'it returns false'. Refute it at one input. -/
def fnExactPickWrong : ChangeSpec := { name := "fnExactPick", fn := fun _ => fun
  | [d1, d2] => { results := [.lit (.bool false)], args := [d1, d2] }
  | _ => none }
def FnExactPickWrongFalsely : Prop := fnExactPickRow.holds Tryz.pinned (OpenSpec.ofChange fnExactPickWrong)

/-- 'laws.FnExactRounds': WHATEVER THE INPUT: true; the input reads as it did. -/
def fnExactRoundsSpec : ChangeSpec := { name := "fnExactRounds", fn := fun _ => fun
  | [d1, d2] => { results := [.lit (.bool true)], args := [d1, d2] }
  | _ => none }
def fnExactRoundsRow : OpenClaim := { program := "ytdplaepmjogjjaagreat", sum := "54a4ed7bba33087b80542846c87f457061de9c2b75f480ab59a6818c22cb9057", func := "loop.example/g01407/laws.FnExactRounds", spec := "fnExactRounds", apart := false }
def FnExactRoundsSaid : Prop := fnExactRoundsRow.holds Tryz.pinned (OpenSpec.ofChange fnExactRoundsSpec)

/-- ITS FALSE NEIGHBOUR: 'it returns false'. Refute it at one input. -/
def fnExactRoundsWrong : ChangeSpec := { name := "fnExactRounds", fn := fun _ => fun
  | [d1, d2] => { results := [.lit (.bool false)], args := [d1, d2] }
  | _ => none }
def FnExactRoundsWrongFalsely : Prop := fnExactRoundsRow.holds Tryz.pinned (OpenSpec.ofChange fnExactRoundsWrong)

/-- 'laws.FnExactRun': WHATEVER THE INPUT: true; the input reads as it did. -/
def fnExactRunSpec : ChangeSpec := { name := "fnExactRun", fn := fun _ => fun
  | [d1, d2] => { results := [.lit (.bool true)], args := [d1, d2] }
  | _ => none }
def fnExactRunRow : OpenClaim := { program := "ytdplaepmjogjjaagreat", sum := "54a4ed7bba33087b80542846c87f457061de9c2b75f480ab59a6818c22cb9057", func := "loop.example/g01407/laws.FnExactRun", spec := "fnExactRun", apart := false }
def FnExactRunSaid : Prop := fnExactRunRow.holds Tryz.pinned (OpenSpec.ofChange fnExactRunSpec)

/-- ITS FALSE NEIGHBOUR: 'it returns false'. Refute it at one input. -/
def fnExactRunWrong : ChangeSpec := { name := "fnExactRun", fn := fun _ => fun
  | [d1, d2] => { results := [.lit (.bool false)], args := [d1, d2] }
  | _ => none }
def FnExactRunWrongFalsely : Prop := fnExactRunRow.holds Tryz.pinned (OpenSpec.ofChange fnExactRunWrong)

/- THE SECOND FORM. 'bulk': how many values and letters a reading holds, each counted each time it is reached (what is shared counts as often as it is met; a slice's spare places count too). A statement '..UptoSaid' is the law's where the arguments, and the package variables that the reading takes, are together of bulk at most 1048576: NARROWER than '..Said'. Prove '..Said' where nothing that the law and all that it calls make is longer than what came in: it says more and counts as full. Else prove '..UptoSaid'. A law counts once. -/
mutual
def uptoBulk {H : Type} : DataW H → Nat
  | .lit (.string bytes) => bytes.length + 1
  | .lit _ => 1
  | .nil => 1
  | .ptr d => uptoBulk d + 1
  | .slice elems spare => uptoBulkAll elems + uptoBulkAll spare + 1
  | .agg parts => uptoBulkAll parts + 1
  | .iface _ d => uptoBulk d + 1
  | .map entries => uptoBulkEntries entries + 1
  | .held _ => 1
def uptoBulkAll {H : Type} : List (DataW H) → Nat
  | [] => 0
  | d :: r => uptoBulk d + uptoBulkAll r
def uptoBulkEntries {H : Type} : List (Lit × DataW H) → Nat
  | [] => 0
  | x :: r => uptoBulkEntry x + uptoBulkEntries r
def uptoBulkEntry {H : Type} : Lit × DataW H → Nat
  | (.string bytes, d) => bytes.length + uptoBulk d + 1
  | (_, d) => uptoBulk d + 1
 end
def uptoSmall : (H : Type) → List (DataW H) → Bool := fun _ ds => decide (uptoBulkAll ds ≤ 1048576)
def OpenSpec.upto (s : _root_.Go.ChangeSpec) : _root_.Go.OpenSpec := { _root_.Go.OpenSpec.ofChange s with cond := some uptoSmall }

/-- 'laws.FnExactStageRedo', WHERE WHAT IT READS IS OF BULK AT MOST 1048576: true; the input reads as it did. -/
def fnExactStageRedoUptoRow : OpenClaim := { program := "ytdplaepmjogjjaagreat", sum := "54a4ed7bba33087b80542846c87f457061de9c2b75f480ab59a6818c22cb9057", func := "loop.example/g01407/laws.FnExactStageRedo", spec := "fnExactStageRedo", apart := false, narrowed := true }
def FnExactStageRedoUptoSaid : Prop := fnExactStageRedoUptoRow.holds Tryz.pinned (OpenSpec.upto fnExactStageRedoSpec)

/-- 'laws.FnExactEnabledAll', WHERE WHAT IT READS IS OF BULK AT MOST 1048576: true; the input reads as it did. -/
def fnExactEnabledAllUptoRow : OpenClaim := { program := "ytdplaepmjogjjaagreat", sum := "54a4ed7bba33087b80542846c87f457061de9c2b75f480ab59a6818c22cb9057", func := "loop.example/g01407/laws.FnExactEnabledAll", spec := "fnExactEnabledAll", apart := false, narrowed := true }
def FnExactEnabledAllUptoSaid : Prop := fnExactEnabledAllUptoRow.holds Tryz.pinned (OpenSpec.upto fnExactEnabledAllSpec)

/-- 'laws.FnExactStageFwd', WHERE WHAT IT READS IS OF BULK AT MOST 1048576: true; the input reads as it did. -/
def fnExactStageFwdUptoRow : OpenClaim := { program := "ytdplaepmjogjjaagreat", sum := "54a4ed7bba33087b80542846c87f457061de9c2b75f480ab59a6818c22cb9057", func := "loop.example/g01407/laws.FnExactStageFwd", spec := "fnExactStageFwd", apart := false, narrowed := true }
def FnExactStageFwdUptoSaid : Prop := fnExactStageFwdUptoRow.holds Tryz.pinned (OpenSpec.upto fnExactStageFwdSpec)

/-- 'laws.FnExactStageBwd', WHERE WHAT IT READS IS OF BULK AT MOST 1048576: true; the input reads as it did. -/
def fnExactStageBwdUptoRow : OpenClaim := { program := "ytdplaepmjogjjaagreat", sum := "54a4ed7bba33087b80542846c87f457061de9c2b75f480ab59a6818c22cb9057", func := "loop.example/g01407/laws.FnExactStageBwd", spec := "fnExactStageBwd", apart := false, narrowed := true }
def FnExactStageBwdUptoSaid : Prop := fnExactStageBwdUptoRow.holds Tryz.pinned (OpenSpec.upto fnExactStageBwdSpec)

/-- 'laws.FnExactPipeNew', WHERE WHAT IT READS IS OF BULK AT MOST 1048576: true; the input reads as it did. -/
def fnExactPipeNewUptoRow : OpenClaim := { program := "ytdplaepmjogjjaagreat", sum := "54a4ed7bba33087b80542846c87f457061de9c2b75f480ab59a6818c22cb9057", func := "loop.example/g01407/laws.FnExactPipeNew", spec := "fnExactPipeNew", apart := false, narrowed := true }
def FnExactPipeNewUptoSaid : Prop := fnExactPipeNewUptoRow.holds Tryz.pinned (OpenSpec.upto fnExactPipeNewSpec)

/-- 'laws.FnExactGradients', WHERE WHAT IT READS IS OF BULK AT MOST 1048576: true; the input reads as it did. -/
def fnExactGradientsUptoRow : OpenClaim := { program := "ytdplaepmjogjjaagreat", sum := "54a4ed7bba33087b80542846c87f457061de9c2b75f480ab59a6818c22cb9057", func := "loop.example/g01407/laws.FnExactGradients", spec := "fnExactGradients", apart := false, narrowed := true }
def FnExactGradientsUptoSaid : Prop := fnExactGradientsUptoRow.holds Tryz.pinned (OpenSpec.upto fnExactGradientsSpec)

/-- 'laws.FnExactPick', WHERE WHAT IT READS IS OF BULK AT MOST 1048576: true; the input reads as it did. -/
def fnExactPickUptoRow : OpenClaim := { program := "ytdplaepmjogjjaagreat", sum := "54a4ed7bba33087b80542846c87f457061de9c2b75f480ab59a6818c22cb9057", func := "loop.example/g01407/laws.FnExactPick", spec := "fnExactPick", apart := false, narrowed := true }
def FnExactPickUptoSaid : Prop := fnExactPickUptoRow.holds Tryz.pinned (OpenSpec.upto fnExactPickSpec)

/-- 'laws.FnExactRounds', WHERE WHAT IT READS IS OF BULK AT MOST 1048576: true; the input reads as it did. -/
def fnExactRoundsUptoRow : OpenClaim := { program := "ytdplaepmjogjjaagreat", sum := "54a4ed7bba33087b80542846c87f457061de9c2b75f480ab59a6818c22cb9057", func := "loop.example/g01407/laws.FnExactRounds", spec := "fnExactRounds", apart := false, narrowed := true }
def FnExactRoundsUptoSaid : Prop := fnExactRoundsUptoRow.holds Tryz.pinned (OpenSpec.upto fnExactRoundsSpec)

/-- 'laws.FnExactRun', WHERE WHAT IT READS IS OF BULK AT MOST 1048576: true; the input reads as it did. -/
def fnExactRunUptoRow : OpenClaim := { program := "ytdplaepmjogjjaagreat", sum := "54a4ed7bba33087b80542846c87f457061de9c2b75f480ab59a6818c22cb9057", func := "loop.example/g01407/laws.FnExactRun", spec := "fnExactRun", apart := false, narrowed := true }
def FnExactRunUptoSaid : Prop := fnExactRunUptoRow.holds Tryz.pinned (OpenSpec.upto fnExactRunSpec)

end Rows
end Go.Proofs.YtdplaepmjogjjaaGreat
