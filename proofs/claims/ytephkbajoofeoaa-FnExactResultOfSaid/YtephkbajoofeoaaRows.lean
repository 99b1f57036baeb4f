/-
  No cell of these rows narrows 'for every input' (looked for: loops, veiled, ifaces, maps, wideKeys, modest, calm, conditions, laid).
  DERIVED. THE GIVEN ROWS OF THIS SEAT. 14 by the template 'for every input the law returns true; each argument reads behind the call as it read before'; 0 by the template 'total and deterministic' (their statements: YtephkbajoofeoaaTotals.lean).
  GIVEN WITH THE SEED: the statements are not yours to turn. If you find one false, say at which input.
  Laid BY PROGRAM, IN A SANDBOX (cutbox-rows.mjs): the forced cells as the released guide's own fill.sh prints them over the translation 46c8df7f0b39391f… (all of the seat's roots in one cut). By AI agents, Wed Nov 11 2026. No macro, syntax, notation, axiom, sorry.
-/
import Derived.Test.YtephkbajoofeoaaChecked
import GoSem.Claim
import GoSem.ClaimJoined
import GoSem.ClaimMapViews
import Derived.JoinedTies
import Derived.KernelRfl
namespace Go.Proofs.Ytephkbajoofeoaa
/- THE CELL 'sum', in the pinned program and in every row, IS THE sha256 OF THE DUMP (.gsa) THAT YtephkbajoofeoaaProg.lean LOADS. Nothing in Lean hashes anything: it is a label: what it is worth is what the hold of that sum in a sandbox is worth. -/
noncomputable def Try.pinned : Pinned := { name := "ytephkbajoofeoaa", sum := "46c8df7f0b39391fe7c7e67c8c722f21f0ad211086c06f23a5752e23b0a2f182", checked := Try.checked }
namespace Rows
def none {H : Type} : Left H := { results := [], args := [] }

/-- 'laws.FnExactPlan': WHATEVER THE INPUT: true; the input reads as it did. -/
def fnExactPlanSpec : ChangeSpec := { name := "fnExactPlan", fn := fun _ => fun
  | [d1, d2, d3, d4, d5] => { results := [.lit (.bool true)], args := [d1, d2, d3, d4, d5] }
  | _ => none }
def fnExactPlanRow : OpenClaim := { program := "ytephkbajoofeoaa", sum := "46c8df7f0b39391fe7c7e67c8c722f21f0ad211086c06f23a5752e23b0a2f182", func := "loop.example/g01407/laws.FnExactPlan", spec := "fnExactPlan", apart := false }
def FnExactPlanSaid : Prop := fnExactPlanRow.holds Try.pinned (OpenSpec.ofChange fnExactPlanSpec)

/-- ITS FALSE NEIGHBOUR: 'it returns false'. Refute it at one input. -/
def fnExactPlanWrong : ChangeSpec := { name := "fnExactPlan", fn := fun _ => fun
  | [d1, d2, d3, d4, d5] => { results := [.lit (.bool false)], args := [d1, d2, d3, d4, d5] }
  | _ => none }
def FnExactPlanWrongFalsely : Prop := fnExactPlanRow.holds Try.pinned (OpenSpec.ofChange fnExactPlanWrong)

/-- 'laws.FnExactPlanOk': WHATEVER THE INPUT: true; the input reads as it did. -/
def fnExactPlanOkSpec : ChangeSpec := { name := "fnExactPlanOk", fn := fun _ => fun
  | [d1, d2, d3, d4, d5] => { results := [.lit (.bool true)], args := [d1, d2, d3, d4, d5] }
  | _ => none }
def fnExactPlanOkRow : OpenClaim := { program := "ytephkbajoofeoaa", sum := "46c8df7f0b39391fe7c7e67c8c722f21f0ad211086c06f23a5752e23b0a2f182", func := "loop.example/g01407/laws.FnExactPlanOk", spec := "fnExactPlanOk", apart := false }
def FnExactPlanOkSaid : Prop := fnExactPlanOkRow.holds Try.pinned (OpenSpec.ofChange fnExactPlanOkSpec)

/-- ITS FALSE NEIGHBOUR: 'it returns false'. Refute it at one input. -/
def fnExactPlanOkWrong : ChangeSpec := { name := "fnExactPlanOk", fn := fun _ => fun
  | [d1, d2, d3, d4, d5] => { results := [.lit (.bool false)], args := [d1, d2, d3, d4, d5] }
  | _ => none }
def FnExactPlanOkWrongFalsely : Prop := fnExactPlanOkRow.holds Try.pinned (OpenSpec.ofChange fnExactPlanOkWrong)

/-- 'laws.FnQueues': WHATEVER THE INPUT: true; the input reads as it did. -/
def fnQueuesSpec : ChangeSpec := { name := "fnQueues", fn := fun _ => fun
  | [d] => { results := [.lit (.bool true)], args := [d] }
  | _ => none }
def fnQueuesRow : OpenClaim := { program := "ytephkbajoofeoaa", sum := "46c8df7f0b39391fe7c7e67c8c722f21f0ad211086c06f23a5752e23b0a2f182", func := "loop.example/g01407/laws.FnQueues", spec := "fnQueues", apart := false }
def FnQueuesSaid : Prop := fnQueuesRow.holds Try.pinned (OpenSpec.ofChange fnQueuesSpec)

/-- ITS FALSE NEIGHBOUR: 'it returns false'. Refute it at one input. -/
def fnQueuesWrong : ChangeSpec := { name := "fnQueues", fn := fun _ => fun
  | [d] => { results := [.lit (.bool false)], args := [d] }
  | _ => none }
def FnQueuesWrongFalsely : Prop := fnQueuesRow.holds Try.pinned (OpenSpec.ofChange fnQueuesWrong)

/-- 'laws.FnExactPush': WHATEVER THE INPUT: true; the input reads as it did. -/
def fnExactPushSpec : ChangeSpec := { name := "fnExactPush", fn := fun _ => fun
  | [d1, d2] => { results := [.lit (.bool true)], args := [d1, d2] }
  | _ => none }
def fnExactPushRow : OpenClaim := { program := "ytephkbajoofeoaa", sum := "46c8df7f0b39391fe7c7e67c8c722f21f0ad211086c06f23a5752e23b0a2f182", func := "loop.example/g01407/laws.FnExactPush", spec := "fnExactPush", apart := false }
def FnExactPushSaid : Prop := fnExactPushRow.holds Try.pinned (OpenSpec.ofChange fnExactPushSpec)

/-- ITS FALSE NEIGHBOUR: 'it returns false'. Refute it at one input. -/
def fnExactPushWrong : ChangeSpec := { name := "fnExactPush", fn := fun _ => fun
  | [d1, d2] => { results := [.lit (.bool false)], args := [d1, d2] }
  | _ => none }
def FnExactPushWrongFalsely : Prop := fnExactPushRow.holds Try.pinned (OpenSpec.ofChange fnExactPushWrong)

/-- 'laws.FnExactPop': WHATEVER THE INPUT: true; the input reads as it did. -/
def fnExactPopSpec : ChangeSpec := { name := "fnExactPop", fn := fun _ => fun
  | [d] => { results := [.lit (.bool true)], args := [d] }
  | _ => none }
def fnExactPopRow : OpenClaim := { program := "ytephkbajoofeoaa", sum := "46c8df7f0b39391fe7c7e67c8c722f21f0ad211086c06f23a5752e23b0a2f182", func := "loop.example/g01407/laws.FnExactPop", spec := "fnExactPop", apart := false }
def FnExactPopSaid : Prop := fnExactPopRow.holds Try.pinned (OpenSpec.ofChange fnExactPopSpec)

/-- ITS FALSE NEIGHBOUR: 'it returns false'. Refute it at one input. -/
def fnExactPopWrong : ChangeSpec := { name := "fnExactPop", fn := fun _ => fun
  | [d] => { results := [.lit (.bool false)], args := [d] }
  | _ => none }
def FnExactPopWrongFalsely : Prop := fnExactPopRow.holds Try.pinned (OpenSpec.ofChange fnExactPopWrong)

/-- 'laws.FnCovers': WHATEVER THE INPUT: true; the input reads as it did. -/
def fnCoversSpec : ChangeSpec := { name := "fnCovers", fn := fun _ => fun
  | [d] => { results := [.lit (.bool true)], args := [d] }
  | _ => none }
def fnCoversRow : OpenClaim := { program := "ytephkbajoofeoaa", sum := "46c8df7f0b39391fe7c7e67c8c722f21f0ad211086c06f23a5752e23b0a2f182", func := "loop.example/g01407/laws.FnCovers", spec := "fnCovers", apart := false }
def FnCoversSaid : Prop := fnCoversRow.holds Try.pinned (OpenSpec.ofChange fnCoversSpec)

/-- ITS FALSE NEIGHBOUR: 'it returns false'. Refute it at one input. -/
def fnCoversWrong : ChangeSpec := { name := "fnCovers", fn := fun _ => fun
  | [d] => { results := [.lit (.bool false)], args := [d] }
  | _ => none }
def FnCoversWrongFalsely : Prop := fnCoversRow.holds Try.pinned (OpenSpec.ofChange fnCoversWrong)

/-- 'laws.FnPlans': WHATEVER THE INPUT: true; the input reads as it did. -/
def fnPlansSpec : ChangeSpec := { name := "fnPlans", fn := fun _ => fun
  | [d] => { results := [.lit (.bool true)], args := [d] }
  | _ => none }
def fnPlansRow : OpenClaim := { program := "ytephkbajoofeoaa", sum := "46c8df7f0b39391fe7c7e67c8c722f21f0ad211086c06f23a5752e23b0a2f182", func := "loop.example/g01407/laws.FnPlans", spec := "fnPlans", apart := false }
def FnPlansSaid : Prop := fnPlansRow.holds Try.pinned (OpenSpec.ofChange fnPlansSpec)

/-- ITS FALSE NEIGHBOUR: 'it returns false'. Refute it at one input. -/
def fnPlansWrong : ChangeSpec := { name := "fnPlans", fn := fun _ => fun
  | [d] => { results := [.lit (.bool false)], args := [d] }
  | _ => none }
def FnPlansWrongFalsely : Prop := fnPlansRow.holds Try.pinned (OpenSpec.ofChange fnPlansWrong)

/-- 'laws.FnBest': WHATEVER THE INPUT: true; the input reads as it did. -/
def fnBestSpec : ChangeSpec := { name := "fnBest", fn := fun _ => fun
  | [d] => { results := [.lit (.bool true)], args := [d] }
  | _ => none }
def fnBestRow : OpenClaim := { program := "ytephkbajoofeoaa", sum := "46c8df7f0b39391fe7c7e67c8c722f21f0ad211086c06f23a5752e23b0a2f182", func := "loop.example/g01407/laws.FnBest", spec := "fnBest", apart := false }
def FnBestSaid : Prop := fnBestRow.holds Try.pinned (OpenSpec.ofChange fnBestSpec)

/-- ITS FALSE NEIGHBOUR: 'it returns false'. Refute it at one input. -/
def fnBestWrong : ChangeSpec := { name := "fnBest", fn := fun _ => fun
  | [d] => { results := [.lit (.bool false)], args := [d] }
  | _ => none }
def FnBestWrongFalsely : Prop := fnBestRow.holds Try.pinned (OpenSpec.ofChange fnBestWrong)

/-- 'laws.FnExactBestCuts': WHATEVER THE INPUT: true; the input reads as it did. -/
def fnExactBestCutsSpec : ChangeSpec := { name := "fnExactBestCuts", fn := fun _ => fun
  | [d1, d2] => { results := [.lit (.bool true)], args := [d1, d2] }
  | _ => none }
def fnExactBestCutsRow : OpenClaim := { program := "ytephkbajoofeoaa", sum := "46c8df7f0b39391fe7c7e67c8c722f21f0ad211086c06f23a5752e23b0a2f182", func := "loop.example/g01407/laws.FnExactBestCuts", spec := "fnExactBestCuts", apart := false }
def FnExactBestCutsSaid : Prop := fnExactBestCutsRow.holds Try.pinned (OpenSpec.ofChange fnExactBestCutsSpec)

/-- ITS FALSE NEIGHBOUR: 'it returns false'. Refute it at one input. -/
def fnExactBestCutsWrong : ChangeSpec := { name := "fnExactBestCuts", fn := fun _ => fun
  | [d1, d2] => { results := [.lit (.bool false)], args := [d1, d2] }
  | _ => none }
def FnExactBestCutsWrongFalsely : Prop := fnExactBestCutsRow.holds Try.pinned (OpenSpec.ofChange fnExactBestCutsWrong)

/-- 'laws.FnWords': WHATEVER THE INPUT: true; the input reads as it did. -/
def fnWordsSpec : ChangeSpec := { name := "fnWords", fn := fun _ => fun
  | [d] => { results := [.lit (.bool true)], args := [d] }
  | _ => none }
def fnWordsRow : OpenClaim := { program := "ytephkbajoofeoaa", sum := "46c8df7f0b39391fe7c7e67c8c722f21f0ad211086c06f23a5752e23b0a2f182", func := "loop.example/g01407/laws.FnWords", spec := "fnWords", apart := false }
def FnWordsSaid : Prop := fnWordsRow.holds Try.pinned (OpenSpec.ofChange fnWordsSpec)

/-- ITS FALSE NEIGHBOUR: 'it returns false'. Refute it at one input. -/
def fnWordsWrong : ChangeSpec := { name := "fnWords", fn := fun _ => fun
  | [d] => { results := [.lit (.bool false)], args := [d] }
  | _ => none }
def FnWordsWrongFalsely : Prop := fnWordsRow.holds Try.pinned (OpenSpec.ofChange fnWordsWrong)

/-- 'laws.FnExactTotal': WHATEVER THE INPUT: true; the input reads as it did. -/
def fnExactTotalSpec : ChangeSpec := { name := "fnExactTotal", fn := fun _ => fun
  | [d1, d2] => { results := [.lit (.bool true)], args := [d1, d2] }
  | _ => none }
def fnExactTotalRow : OpenClaim := { program := "ytephkbajoofeoaa", sum := "46c8df7f0b39391fe7c7e67c8c722f21f0ad211086c06f23a5752e23b0a2f182", func := "loop.example/g01407/laws.FnExactTotal", spec := "fnExactTotal", apart := false }
def FnExactTotalSaid : Prop := fnExactTotalRow.holds Try.pinned (OpenSpec.ofChange fnExactTotalSpec)

/-- ITS FALSE NEIGHBOUR: 'it returns false'. Refute it at one input. -/
def fnExactTotalWrong : ChangeSpec := { name := "fnExactTotal", fn := fun _ => fun
  | [d1, d2] => { results := [.lit (.bool false)], args := [d1, d2] }
  | _ => none }
def FnExactTotalWrongFalsely : Prop := fnExactTotalRow.holds Try.pinned (OpenSpec.ofChange fnExactTotalWrong)

/-- 'laws.FnExactStageNew': WHATEVER THE INPUT: true; the input reads as it did. -/
def fnExactStageNewSpec : ChangeSpec := { name := "fnExactStageNew", fn := fun _ => fun
  | [d1, d2, d3, d4] => { results := [.lit (.bool true)], args := [d1, d2, d3, d4] }
  | _ => none }
def fnExactStageNewRow : OpenClaim := { program := "ytephkbajoofeoaa", sum := "46c8df7f0b39391fe7c7e67c8c722f21f0ad211086c06f23a5752e23b0a2f182", func := "loop.example/g01407/laws.FnExactStageNew", spec := "fnExactStageNew", apart := false }
def FnExactStageNewSaid : Prop := fnExactStageNewRow.holds Try.pinned (OpenSpec.ofChange fnExactStageNewSpec)

/-- ITS FALSE NEIGHBOUR: 'it returns false'. Refute it at one input. -/
def fnExactStageNewWrong : ChangeSpec := { name := "fnExactStageNew", fn := fun _ => fun
  | [d1, d2, d3, d4] => { results := [.lit (.bool false)], args := [d1, d2, d3, d4] }
  | _ => none }
def FnExactStageNewWrongFalsely : Prop := fnExactStageNewRow.holds Try.pinned (OpenSpec.ofChange fnExactStageNewWrong)

/-- 'laws.FnExactStashCounts': WHATEVER THE INPUT: true; the input reads as it did. -/
def fnExactStashCountsSpec : ChangeSpec := { name := "fnExactStashCounts", fn := fun _ => fun
  | [d] => { results := [.lit (.bool true)], args := [d] }
  | _ => none }
def fnExactStashCountsRow : OpenClaim := { program := "ytephkbajoofeoaa", sum := "46c8df7f0b39391fe7c7e67c8c722f21f0ad211086c06f23a5752e23b0a2f182", func := "loop.example/g01407/laws.FnExactStashCounts", spec := "fnExactStashCounts", apart := false }
def FnExactStashCountsSaid : Prop := fnExactStashCountsRow.holds Try.pinned (OpenSpec.ofChange fnExactStashCountsSpec)

/-- ITS FALSE NEIGHBOUR: 'it returns false'. Refute it at one input. -/
def fnExactStashCountsWrong : ChangeSpec := { name := "fnExactStashCounts", fn := fun _ => fun
  | [d] => { results := [.lit (.bool false)], args := [d] }
  | _ => none }
def FnExactStashCountsWrongFalsely : Prop := fnExactStashCountsRow.holds Try.pinned (OpenSpec.ofChange fnExactStashCountsWrong)

/-- 'laws.FnExactResultOf': WHATEVER THE INPUT: true; the input reads as it did. -/
def fnExactResultOfSpec : ChangeSpec := { name := "fnExactResultOf", fn := fun _ => fun
  | [d] => { results := [.lit (.bool true)], args := [d] }
  | _ => none }
def fnExactResultOfRow : OpenClaim := { program := "ytephkbajoofeoaa", sum := "46c8df7f0b39391fe7c7e67c8c722f21f0ad211086c06f23a5752e23b0a2f182", func := "loop.example/g01407/laws.FnExactResultOf", spec := "fnExactResultOf", apart := false }
def FnExactResultOfSaid : Prop := fnExactResultOfRow.holds Try.pinned (OpenSpec.ofChange fnExactResultOfSpec)

/-- ITS FALSE NEIGHBOUR: 'it returns false'. Refute it at one input. -/
def fnExactResultOfWrong : ChangeSpec := { name := "fnExactResultOf", fn := fun _ => fun
  | [d] => { results := [.lit (.bool false)], args := [d] }
  | _ => none }
def FnExactResultOfWrongFalsely : Prop := fnExactResultOfRow.holds Try.pinned (OpenSpec.ofChange fnExactResultOfWrong)

/- THE SECOND FORM. 'bulk': how many values and letters a reading holds, each counted each time it is reached (what is shared counts as often as it is met; a slice's spare places count too). A statement '..UptoSaid' is the law's where the arguments, and the package variables that the reading takes, are together of bulk at most 1048576: NARROWER than '..Said'. Prove '..Said' where nothing that the law and all that it calls make is longer than what came in: it says more and counts as full. Else prove '..UptoSaid'. A law counts once. -/
mutual
def uptoBulk {H : Type} : DataW H → Nat
  | .lit (.string bytes) => bytes.length + 1
  | .lit _ => 1
  | .nil => 1
  | .ptr d => uptoBulk d + 1
  | .slice elems spare => uptoBulkAll elems + uptoBulkAll spare + 1
  | .agg parts => uptoBulkAll parts + 1
  | .iface _ d => uptoBulk d + 1
  | .map entries => uptoBulkEntries entries + 1
  | .held _ => 1
def uptoBulkAll {H : Type} : List (DataW H) → Nat
  | [] => 0
  | d :: r => uptoBulk d + uptoBulkAll r
def uptoBulkEntries {H : Type} : List (Lit × DataW H) → Nat
  | [] => 0
  | x :: r => uptoBulkEntry x + uptoBulkEntries r
def uptoBulkEntry {H : Type} : Lit × DataW H → Nat
  | (.string bytes, d) => bytes.length + uptoBulk d + 1
  | (_, d) => uptoBulk d + 1
 end
def uptoSmall : (H : Type) → List (DataW H) → Bool := fun _ ds => decide (uptoBulkAll ds ≤ 1048576)
def OpenSpec.upto (s : _root_.Go.ChangeSpec) : _root_.Go.OpenSpec := { _root_.Go.OpenSpec.ofChange s with cond := some uptoSmall }

/-- 'laws.FnExactPlan', WHERE WHAT IT READS IS OF BULK AT MOST 1048576: true; the input reads as it did. -/
def fnExactPlanUptoRow : OpenClaim := { program := "ytephkbajoofeoaa", sum := "46c8df7f0b39391fe7c7e67c8c722f21f0ad211086c06f23a5752e23b0a2f182", func := "loop.example/g01407/laws.FnExactPlan", spec := "fnExactPlan", apart := false, narrowed := true }
def FnExactPlanUptoSaid : Prop := fnExactPlanUptoRow.holds Try.pinned (OpenSpec.upto fnExactPlanSpec)

/-- 'laws.FnExactPlanOk', WHERE WHAT IT READS IS OF BULK AT MOST 1048576: true; the input reads as it did. -/
def fnExactPlanOkUptoRow : OpenClaim := { program := "ytephkbajoofeoaa", sum := "46c8df7f0b39391fe7c7e67c8c722f21f0ad211086c06f23a5752e23b0a2f182", func := "loop.example/g01407/laws.FnExactPlanOk", spec := "fnExactPlanOk", apart := false, narrowed := true }
def FnExactPlanOkUptoSaid : Prop := fnExactPlanOkUptoRow.holds Try.pinned (OpenSpec.upto fnExactPlanOkSpec)

/-- 'laws.FnQueues', WHERE WHAT IT READS IS OF BULK AT MOST 1048576: true; the input reads as it did. -/
def fnQueuesUptoRow : OpenClaim := { program := "ytephkbajoofeoaa", sum := "46c8df7f0b39391fe7c7e67c8c722f21f0ad211086c06f23a5752e23b0a2f182", func := "loop.example/g01407/laws.FnQueues", spec := "fnQueues", apart := false, narrowed := true }
def FnQueuesUptoSaid : Prop := fnQueuesUptoRow.holds Try.pinned (OpenSpec.upto fnQueuesSpec)

/-- 'laws.FnExactPush', WHERE WHAT IT READS IS OF BULK AT MOST 1048576: true; the input reads as it did. -/
def fnExactPushUptoRow : OpenClaim := { program := "ytephkbajoofeoaa", sum := "46c8df7f0b39391fe7c7e67c8c722f21f0ad211086c06f23a5752e23b0a2f182", func := "loop.example/g01407/laws.FnExactPush", spec := "fnExactPush", apart := false, narrowed := true }
def FnExactPushUptoSaid : Prop := fnExactPushUptoRow.holds Try.pinned (OpenSpec.upto fnExactPushSpec)

/-- 'laws.FnExactPop', WHERE WHAT IT READS IS OF BULK AT MOST 1048576: true; the input reads as it did. -/
def fnExactPopUptoRow : OpenClaim := { program := "ytephkbajoofeoaa", sum := "46c8df7f0b39391fe7c7e67c8c722f21f0ad211086c06f23a5752e23b0a2f182", func := "loop.example/g01407/laws.FnExactPop", spec := "fnExactPop", apart := false, narrowed := true }
def FnExactPopUptoSaid : Prop := fnExactPopUptoRow.holds Try.pinned (OpenSpec.upto fnExactPopSpec)

/-- 'laws.FnCovers', WHERE WHAT IT READS IS OF BULK AT MOST 1048576: true; the input reads as it did. -/
def fnCoversUptoRow : OpenClaim := { program := "ytephkbajoofeoaa", sum := "46c8df7f0b39391fe7c7e67c8c722f21f0ad211086c06f23a5752e23b0a2f182", func := "loop.example/g01407/laws.FnCovers", spec := "fnCovers", apart := false, narrowed := true }
def FnCoversUptoSaid : Prop := fnCoversUptoRow.holds Try.pinned (OpenSpec.upto fnCoversSpec)

/-- 'laws.FnPlans', WHERE WHAT IT READS IS OF BULK AT MOST 1048576: true; the input reads as it did. -/
def fnPlansUptoRow : OpenClaim := { program := "ytephkbajoofeoaa", sum := "46c8df7f0b39391fe7c7e67c8c722f21f0ad211086c06f23a5752e23b0a2f182", func := "loop.example/g01407/laws.FnPlans", spec := "fnPlans", apart := false, narrowed := true }
def FnPlansUptoSaid : Prop := fnPlansUptoRow.holds Try.pinned (OpenSpec.upto fnPlansSpec)

/-- 'laws.FnBest', WHERE WHAT IT READS IS OF BULK AT MOST 1048576: true; the input reads as it did. -/
def fnBestUptoRow : OpenClaim := { program := "ytephkbajoofeoaa", sum := "46c8df7f0b39391fe7c7e67c8c722f21f0ad211086c06f23a5752e23b0a2f182", func := "loop.example/g01407/laws.FnBest", spec := "fnBest", apart := false, narrowed := true }
def FnBestUptoSaid : Prop := fnBestUptoRow.holds Try.pinned (OpenSpec.upto fnBestSpec)

/-- 'laws.FnExactBestCuts', WHERE WHAT IT READS IS OF BULK AT MOST 1048576: true; the input reads as it did. -/
def fnExactBestCutsUptoRow : OpenClaim := { program := "ytephkbajoofeoaa", sum := "46c8df7f0b39391fe7c7e67c8c722f21f0ad211086c06f23a5752e23b0a2f182", func := "loop.example/g01407/laws.FnExactBestCuts", spec := "fnExactBestCuts", apart := false, narrowed := true }
def FnExactBestCutsUptoSaid : Prop := fnExactBestCutsUptoRow.holds Try.pinned (OpenSpec.upto fnExactBestCutsSpec)

/-- 'laws.FnWords', WHERE WHAT IT READS IS OF BULK AT MOST 1048576: true; the input reads as it did. -/
def fnWordsUptoRow : OpenClaim := { program := "ytephkbajoofeoaa", sum := "46c8df7f0b39391fe7c7e67c8c722f21f0ad211086c06f23a5752e23b0a2f182", func := "loop.example/g01407/laws.FnWords", spec := "fnWords", apart := false, narrowed := true }
def FnWordsUptoSaid : Prop := fnWordsUptoRow.holds Try.pinned (OpenSpec.upto fnWordsSpec)

/-- 'laws.FnExactTotal', WHERE WHAT IT READS IS OF BULK AT MOST 1048576: true; the input reads as it did. -/
def fnExactTotalUptoRow : OpenClaim := { program := "ytephkbajoofeoaa", sum := "46c8df7f0b39391fe7c7e67c8c722f21f0ad211086c06f23a5752e23b0a2f182", func := "loop.example/g01407/laws.FnExactTotal", spec := "fnExactTotal", apart := false, narrowed := true }
def FnExactTotalUptoSaid : Prop := fnExactTotalUptoRow.holds Try.pinned (OpenSpec.upto fnExactTotalSpec)

/-- 'laws.FnExactStageNew', WHERE WHAT IT READS IS OF BULK AT MOST 1048576: true; the input reads as it did. -/
def fnExactStageNewUptoRow : OpenClaim := { program := "ytephkbajoofeoaa", sum := "46c8df7f0b39391fe7c7e67c8c722f21f0ad211086c06f23a5752e23b0a2f182", func := "loop.example/g01407/laws.FnExactStageNew", spec := "fnExactStageNew", apart := false, narrowed := true }
def FnExactStageNewUptoSaid : Prop := fnExactStageNewUptoRow.holds Try.pinned (OpenSpec.upto fnExactStageNewSpec)

/-- 'laws.FnExactStashCounts', WHERE WHAT IT READS IS OF BULK AT MOST 1048576: true; the input reads as it did. -/
def fnExactStashCountsUptoRow : OpenClaim := { program := "ytephkbajoofeoaa", sum := "46c8df7f0b39391fe7c7e67c8c722f21f0ad211086c06f23a5752e23b0a2f182", func := "loop.example/g01407/laws.FnExactStashCounts", spec := "fnExactStashCounts", apart := false, narrowed := true }
def FnExactStashCountsUptoSaid : Prop := fnExactStashCountsUptoRow.holds Try.pinned (OpenSpec.upto fnExactStashCountsSpec)

/-- 'laws.FnExactResultOf', WHERE WHAT IT READS IS OF BULK AT MOST 1048576: true; the input reads as it did. -/
def fnExactResultOfUptoRow : OpenClaim := { program := "ytephkbajoofeoaa", sum := "46c8df7f0b39391fe7c7e67c8c722f21f0ad211086c06f23a5752e23b0a2f182", func := "loop.example/g01407/laws.FnExactResultOf", spec := "fnExactResultOf", apart := false, narrowed := true }
def FnExactResultOfUptoSaid : Prop := fnExactResultOfUptoRow.holds Try.pinned (OpenSpec.upto fnExactResultOfSpec)

end Rows
end Go.Proofs.Ytephkbajoofeoaa
