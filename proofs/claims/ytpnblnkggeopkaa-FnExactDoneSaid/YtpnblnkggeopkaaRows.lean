/-
  No cell of these rows narrows 'for every input' (looked for: loops, veiled, ifaces, maps, wideKeys, modest, calm, conditions, laid).
  DERIVED. THE GIVEN ROWS OF THIS SEAT. 27 by the template 'for every input the law returns true; each argument reads behind the call as it read before'; 0 by the template 'total and deterministic' (their statements: YtpnblnkggeopkaaTotals.lean).
  GIVEN WITH THE SEED: the statements are not yours to turn. If you find one false, say at which input.
  Laid BY PROGRAM, IN A SANDBOX (cutbox-rows.mjs): the forced cells as the released guide's own fill.sh prints them over the translation 87ec03db3618080f… (all of the seat's roots in one cut). By AI agents, Wed Nov 11 2026. No macro, syntax, notation, axiom, sorry.
-/
import Derived.Test.YtpnblnkggeopkaaChecked
import GoSem.Claim
import GoSem.ClaimJoined
import GoSem.ClaimMapViews
import Derived.JoinedTies
import Derived.KernelRfl
namespace Go.Proofs.Ytpnblnkggeopkaa
/- THE CELL 'sum', in the pinned program and in every row, IS THE sha256 OF THE DUMP (.gsa) THAT YtpnblnkggeopkaaProg.lean LOADS. Nothing in Lean hashes anything: it is a label: what it is worth is what the hold of that sum in a sandbox is worth. -/
noncomputable def Try.pinned : Pinned := { name := "ytpnblnkggeopkaa", sum := "87ec03db3618080fd0619f445815992373157cb795634746c3064702553768d6", checked := Try.checked }
namespace Rows
def none {H : Type} : Left H := { results := [], args := [] }

/-- 'laws.FnExactFindSaved': WHATEVER THE INPUT: true; the input reads as it did. -/
def fnExactFindSavedSpec : ChangeSpec := { name := "fnExactFindSaved", fn := fun _ => fun
  | [d1, d2] => { results := [.lit (.bool true)], args := [d1, d2] }
  | _ => none }
def fnExactFindSavedRow : OpenClaim := { program := "ytpnblnkggeopkaa", sum := "87ec03db3618080fd0619f445815992373157cb795634746c3064702553768d6", func := "loop.example/g01407/laws.FnExactFindSaved", spec := "fnExactFindSaved", apart := false }
def FnExactFindSavedSaid : Prop := fnExactFindSavedRow.holds Try.pinned (OpenSpec.ofChange fnExactFindSavedSpec)

/-- ITS FALSE NEIGHBOUR: 'it returns false'. Refute it at one input. -/
def fnExactFindSavedWrong : ChangeSpec := { name := "fnExactFindSaved", fn := fun _ => fun
  | [d1, d2] => { results := [.lit (.bool false)], args := [d1, d2] }
  | _ => none }
def FnExactFindSavedWrongFalsely : Prop := fnExactFindSavedRow.holds Try.pinned (OpenSpec.ofChange fnExactFindSavedWrong)

/-- 'laws.FnExactInFlight': WHATEVER THE INPUT: true; the input reads as it did. -/
def fnExactInFlightSpec : ChangeSpec := { name := "fnExactInFlight", fn := fun _ => fun
  | [d] => { results := [.lit (.bool true)], args := [d] }
  | _ => none }
def fnExactInFlightRow : OpenClaim := { program := "ytpnblnkggeopkaa", sum := "87ec03db3618080fd0619f445815992373157cb795634746c3064702553768d6", func := "loop.example/g01407/laws.FnExactInFlight", spec := "fnExactInFlight", apart := false }
def FnExactInFlightSaid : Prop := fnExactInFlightRow.holds Try.pinned (OpenSpec.ofChange fnExactInFlightSpec)

/-- ITS FALSE NEIGHBOUR: 'it returns false'. Refute it at one input. -/
def fnExactInFlightWrong : ChangeSpec := { name := "fnExactInFlight", fn := fun _ => fun
  | [d] => { results := [.lit (.bool false)], args := [d] }
  | _ => none }
def FnExactInFlightWrongFalsely : Prop := fnExactInFlightRow.holds Try.pinned (OpenSpec.ofChange fnExactInFlightWrong)

/-- 'laws.FnExactBubble': WHATEVER THE INPUT: true; the input reads as it did. -/
def fnExactBubbleSpec : ChangeSpec := { name := "fnExactBubble", fn := fun _ => fun
  | [d] => { results := [.lit (.bool true)], args := [d] }
  | _ => none }
def fnExactBubbleRow : OpenClaim := { program := "ytpnblnkggeopkaa", sum := "87ec03db3618080fd0619f445815992373157cb795634746c3064702553768d6", func := "loop.example/g01407/laws.FnExactBubble", spec := "fnExactBubble", apart := false }
def FnExactBubbleSaid : Prop := fnExactBubbleRow.holds Try.pinned (OpenSpec.ofChange fnExactBubbleSpec)

/-- ITS FALSE NEIGHBOUR: 'it returns false'. Refute it at one input. -/
def fnExactBubbleWrong : ChangeSpec := { name := "fnExactBubble", fn := fun _ => fun
  | [d] => { results := [.lit (.bool false)], args := [d] }
  | _ => none }
def FnExactBubbleWrongFalsely : Prop := fnExactBubbleRow.holds Try.pinned (OpenSpec.ofChange fnExactBubbleWrong)

/-- 'laws.FnExactQueueOk': WHATEVER THE INPUT: true; the input reads as it did. -/
def fnExactQueueOkSpec : ChangeSpec := { name := "fnExactQueueOk", fn := fun _ => fun
  | [d] => { results := [.lit (.bool true)], args := [d] }
  | _ => none }
def fnExactQueueOkRow : OpenClaim := { program := "ytpnblnkggeopkaa", sum := "87ec03db3618080fd0619f445815992373157cb795634746c3064702553768d6", func := "loop.example/g01407/laws.FnExactQueueOk", spec := "fnExactQueueOk", apart := false }
def FnExactQueueOkSaid : Prop := fnExactQueueOkRow.holds Try.pinned (OpenSpec.ofChange fnExactQueueOkSpec)

/-- ITS FALSE NEIGHBOUR: 'it returns false'. Refute it at one input. -/
def fnExactQueueOkWrong : ChangeSpec := { name := "fnExactQueueOk", fn := fun _ => fun
  | [d] => { results := [.lit (.bool false)], args := [d] }
  | _ => none }
def FnExactQueueOkWrongFalsely : Prop := fnExactQueueOkRow.holds Try.pinned (OpenSpec.ofChange fnExactQueueOkWrong)

/-- 'laws.FnExactQueueWords': WHATEVER THE INPUT: true; the input reads as it did. -/
def fnExactQueueWordsSpec : ChangeSpec := { name := "fnExactQueueWords", fn := fun _ => fun
  | [d] => { results := [.lit (.bool true)], args := [d] }
  | _ => none }
def fnExactQueueWordsRow : OpenClaim := { program := "ytpnblnkggeopkaa", sum := "87ec03db3618080fd0619f445815992373157cb795634746c3064702553768d6", func := "loop.example/g01407/laws.FnExactQueueWords", spec := "fnExactQueueWords", apart := false }
def FnExactQueueWordsSaid : Prop := fnExactQueueWordsRow.holds Try.pinned (OpenSpec.ofChange fnExactQueueWordsSpec)

/-- ITS FALSE NEIGHBOUR: 'it returns false'. Refute it at one input. -/
def fnExactQueueWordsWrong : ChangeSpec := { name := "fnExactQueueWords", fn := fun _ => fun
  | [d] => { results := [.lit (.bool false)], args := [d] }
  | _ => none }
def FnExactQueueWordsWrongFalsely : Prop := fnExactQueueWordsRow.holds Try.pinned (OpenSpec.ofChange fnExactQueueWordsWrong)

/-- 'laws.FnExactPlanOk': WHATEVER THE INPUT: true; the input reads as it did. -/
def fnExactPlanOkSpec : ChangeSpec := { name := "fnExactPlanOk", fn := fun _ => fun
  | [d1, d2, d3, d4, d5] => { results := [.lit (.bool true)], args := [d1, d2, d3, d4, d5] }
  | _ => none }
def fnExactPlanOkRow : OpenClaim := { program := "ytpnblnkggeopkaa", sum := "87ec03db3618080fd0619f445815992373157cb795634746c3064702553768d6", func := "loop.example/g01407/laws.FnExactPlanOk", spec := "fnExactPlanOk", apart := false }
def FnExactPlanOkSaid : Prop := fnExactPlanOkRow.holds Try.pinned (OpenSpec.ofChange fnExactPlanOkSpec)

/-- ITS FALSE NEIGHBOUR: 'it returns false'. Refute it at one input. -/
def fnExactPlanOkWrong : ChangeSpec := { name := "fnExactPlanOk", fn := fun _ => fun
  | [d1, d2, d3, d4, d5] => { results := [.lit (.bool false)], args := [d1, d2, d3, d4, d5] }
  | _ => none }
def FnExactPlanOkWrongFalsely : Prop := fnExactPlanOkRow.holds Try.pinned (OpenSpec.ofChange fnExactPlanOkWrong)

/-- 'laws.FnExactCutsOk': WHATEVER THE INPUT: true; the input reads as it did. -/
def fnExactCutsOkSpec : ChangeSpec := { name := "fnExactCutsOk", fn := fun _ => fun
  | [d1, d2] => { results := [.lit (.bool true)], args := [d1, d2] }
  | _ => none }
def fnExactCutsOkRow : OpenClaim := { program := "ytpnblnkggeopkaa", sum := "87ec03db3618080fd0619f445815992373157cb795634746c3064702553768d6", func := "loop.example/g01407/laws.FnExactCutsOk", spec := "fnExactCutsOk", apart := false }
def FnExactCutsOkSaid : Prop := fnExactCutsOkRow.holds Try.pinned (OpenSpec.ofChange fnExactCutsOkSpec)

/-- ITS FALSE NEIGHBOUR: 'it returns false'. Refute it at one input. -/
def fnExactCutsOkWrong : ChangeSpec := { name := "fnExactCutsOk", fn := fun _ => fun
  | [d1, d2] => { results := [.lit (.bool false)], args := [d1, d2] }
  | _ => none }
def FnExactCutsOkWrongFalsely : Prop := fnExactCutsOkRow.holds Try.pinned (OpenSpec.ofChange fnExactCutsOkWrong)

/-- 'laws.FnExactStageRange': WHATEVER THE INPUT: true; the input reads as it did. -/
def fnExactStageRangeSpec : ChangeSpec := { name := "fnExactStageRange", fn := fun _ => fun
  | [d1, d2, d3] => { results := [.lit (.bool true)], args := [d1, d2, d3] }
  | _ => none }
def fnExactStageRangeRow : OpenClaim := { program := "ytpnblnkggeopkaa", sum := "87ec03db3618080fd0619f445815992373157cb795634746c3064702553768d6", func := "loop.example/g01407/laws.FnExactStageRange", spec := "fnExactStageRange", apart := false }
def FnExactStageRangeSaid : Prop := fnExactStageRangeRow.holds Try.pinned (OpenSpec.ofChange fnExactStageRangeSpec)

/-- ITS FALSE NEIGHBOUR: 'it returns false'. Refute it at one input. -/
def fnExactStageRangeWrong : ChangeSpec := { name := "fnExactStageRange", fn := fun _ => fun
  | [d1, d2, d3] => { results := [.lit (.bool false)], args := [d1, d2, d3] }
  | _ => none }
def FnExactStageRangeWrongFalsely : Prop := fnExactStageRangeRow.holds Try.pinned (OpenSpec.ofChange fnExactStageRangeWrong)

/-- 'laws.FnExactStageCost': WHATEVER THE INPUT: true; the input reads as it did. -/
def fnExactStageCostSpec : ChangeSpec := { name := "fnExactStageCost", fn := fun _ => fun
  | [d1, d2, d3] => { results := [.lit (.bool true)], args := [d1, d2, d3] }
  | _ => none }
def fnExactStageCostRow : OpenClaim := { program := "ytpnblnkggeopkaa", sum := "87ec03db3618080fd0619f445815992373157cb795634746c3064702553768d6", func := "loop.example/g01407/laws.FnExactStageCost", spec := "fnExactStageCost", apart := false }
def FnExactStageCostSaid : Prop := fnExactStageCostRow.holds Try.pinned (OpenSpec.ofChange fnExactStageCostSpec)

/-- ITS FALSE NEIGHBOUR: 'it returns false'. Refute it at one input. -/
def fnExactStageCostWrong : ChangeSpec := { name := "fnExactStageCost", fn := fun _ => fun
  | [d1, d2, d3] => { results := [.lit (.bool false)], args := [d1, d2, d3] }
  | _ => none }
def FnExactStageCostWrongFalsely : Prop := fnExactStageCostRow.holds Try.pinned (OpenSpec.ofChange fnExactStageCostWrong)

/-- 'laws.FnExactMaxCost': WHATEVER THE INPUT: true; the input reads as it did. -/
def fnExactMaxCostSpec : ChangeSpec := { name := "fnExactMaxCost", fn := fun _ => fun
  | [d1, d2] => { results := [.lit (.bool true)], args := [d1, d2] }
  | _ => none }
def fnExactMaxCostRow : OpenClaim := { program := "ytpnblnkggeopkaa", sum := "87ec03db3618080fd0619f445815992373157cb795634746c3064702553768d6", func := "loop.example/g01407/laws.FnExactMaxCost", spec := "fnExactMaxCost", apart := false }
def FnExactMaxCostSaid : Prop := fnExactMaxCostRow.holds Try.pinned (OpenSpec.ofChange fnExactMaxCostSpec)

/-- ITS FALSE NEIGHBOUR: 'it returns false'. Refute it at one input. -/
def fnExactMaxCostWrong : ChangeSpec := { name := "fnExactMaxCost", fn := fun _ => fun
  | [d1, d2] => { results := [.lit (.bool false)], args := [d1, d2] }
  | _ => none }
def FnExactMaxCostWrongFalsely : Prop := fnExactMaxCostRow.holds Try.pinned (OpenSpec.ofChange fnExactMaxCostWrong)

/-- 'laws.FnExactStagesOf': WHATEVER THE INPUT: true; the input reads as it did. -/
def fnExactStagesOfSpec : ChangeSpec := { name := "fnExactStagesOf", fn := fun _ => fun
  | [d] => { results := [.lit (.bool true)], args := [d] }
  | _ => none }
def fnExactStagesOfRow : OpenClaim := { program := "ytpnblnkggeopkaa", sum := "87ec03db3618080fd0619f445815992373157cb795634746c3064702553768d6", func := "loop.example/g01407/laws.FnExactStagesOf", spec := "fnExactStagesOf", apart := false }
def FnExactStagesOfSaid : Prop := fnExactStagesOfRow.holds Try.pinned (OpenSpec.ofChange fnExactStagesOfSpec)

/-- ITS FALSE NEIGHBOUR: 'it returns false'. Refute it at one input. -/
def fnExactStagesOfWrong : ChangeSpec := { name := "fnExactStagesOf", fn := fun _ => fun
  | [d] => { results := [.lit (.bool false)], args := [d] }
  | _ => none }
def FnExactStagesOfWrongFalsely : Prop := fnExactStagesOfRow.holds Try.pinned (OpenSpec.ofChange fnExactStagesOfWrong)

/-- 'laws.FnExactFullWords': WHATEVER THE INPUT: true; the input reads as it did. -/
def fnExactFullWordsSpec : ChangeSpec := { name := "fnExactFullWords", fn := fun _ => fun
  | [d1, d2] => { results := [.lit (.bool true)], args := [d1, d2] }
  | _ => none }
def fnExactFullWordsRow : OpenClaim := { program := "ytpnblnkggeopkaa", sum := "87ec03db3618080fd0619f445815992373157cb795634746c3064702553768d6", func := "loop.example/g01407/laws.FnExactFullWords", spec := "fnExactFullWords", apart := false }
def FnExactFullWordsSaid : Prop := fnExactFullWordsRow.holds Try.pinned (OpenSpec.ofChange fnExactFullWordsSpec)

/-- ITS FALSE NEIGHBOUR: 'it returns false'. Refute it at one input. -/
def fnExactFullWordsWrong : ChangeSpec := { name := "fnExactFullWords", fn := fun _ => fun
  | [d1, d2] => { results := [.lit (.bool false)], args := [d1, d2] }
  | _ => none }
def FnExactFullWordsWrongFalsely : Prop := fnExactFullWordsRow.holds Try.pinned (OpenSpec.ofChange fnExactFullWordsWrong)

/-- 'laws.FnExactSavedWords': WHATEVER THE INPUT: true; the input reads as it did. -/
def fnExactSavedWordsSpec : ChangeSpec := { name := "fnExactSavedWords", fn := fun _ => fun
  | [d1, d2] => { results := [.lit (.bool true)], args := [d1, d2] }
  | _ => none }
def fnExactSavedWordsRow : OpenClaim := { program := "ytpnblnkggeopkaa", sum := "87ec03db3618080fd0619f445815992373157cb795634746c3064702553768d6", func := "loop.example/g01407/laws.FnExactSavedWords", spec := "fnExactSavedWords", apart := false }
def FnExactSavedWordsSaid : Prop := fnExactSavedWordsRow.holds Try.pinned (OpenSpec.ofChange fnExactSavedWordsSpec)

/-- ITS FALSE NEIGHBOUR: 'it returns false'. Refute it at one input. -/
def fnExactSavedWordsWrong : ChangeSpec := { name := "fnExactSavedWords", fn := fun _ => fun
  | [d1, d2] => { results := [.lit (.bool false)], args := [d1, d2] }
  | _ => none }
def FnExactSavedWordsWrongFalsely : Prop := fnExactSavedWordsRow.holds Try.pinned (OpenSpec.ofChange fnExactSavedWordsWrong)

/-- 'laws.FnExactLedger': WHATEVER THE INPUT: true; the input reads as it did. -/
def fnExactLedgerSpec : ChangeSpec := { name := "fnExactLedger", fn := fun _ => fun
  | [d] => { results := [.lit (.bool true)], args := [d] }
  | _ => none }
def fnExactLedgerRow : OpenClaim := { program := "ytpnblnkggeopkaa", sum := "87ec03db3618080fd0619f445815992373157cb795634746c3064702553768d6", func := "loop.example/g01407/laws.FnExactLedger", spec := "fnExactLedger", apart := false }
def FnExactLedgerSaid : Prop := fnExactLedgerRow.holds Try.pinned (OpenSpec.ofChange fnExactLedgerSpec)

/-- ITS FALSE NEIGHBOUR: 'it returns false'. Refute it at one input. -/
def fnExactLedgerWrong : ChangeSpec := { name := "fnExactLedger", fn := fun _ => fun
  | [d] => { results := [.lit (.bool false)], args := [d] }
  | _ => none }
def FnExactLedgerWrongFalsely : Prop := fnExactLedgerRow.holds Try.pinned (OpenSpec.ofChange fnExactLedgerWrong)

/-- 'laws.FnExactPeakOf': WHATEVER THE INPUT: true; the input reads as it did. -/
def fnExactPeakOfSpec : ChangeSpec := { name := "fnExactPeakOf", fn := fun _ => fun
  | [d1, d2, d3] => { results := [.lit (.bool true)], args := [d1, d2, d3] }
  | _ => none }
def fnExactPeakOfRow : OpenClaim := { program := "ytpnblnkggeopkaa", sum := "87ec03db3618080fd0619f445815992373157cb795634746c3064702553768d6", func := "loop.example/g01407/laws.FnExactPeakOf", spec := "fnExactPeakOf", apart := false }
def FnExactPeakOfSaid : Prop := fnExactPeakOfRow.holds Try.pinned (OpenSpec.ofChange fnExactPeakOfSpec)

/-- ITS FALSE NEIGHBOUR: 'it returns false'. Refute it at one input. -/
def fnExactPeakOfWrong : ChangeSpec := { name := "fnExactPeakOf", fn := fun _ => fun
  | [d1, d2, d3] => { results := [.lit (.bool false)], args := [d1, d2, d3] }
  | _ => none }
def FnExactPeakOfWrongFalsely : Prop := fnExactPeakOfRow.holds Try.pinned (OpenSpec.ofChange fnExactPeakOfWrong)

/-- 'laws.FnExactTotal': WHATEVER THE INPUT: true; the input reads as it did. -/
def fnExactTotalSpec : ChangeSpec := { name := "fnExactTotal", fn := fun _ => fun
  | [d1, d2] => { results := [.lit (.bool true)], args := [d1, d2] }
  | _ => none }
def fnExactTotalRow : OpenClaim := { program := "ytpnblnkggeopkaa", sum := "87ec03db3618080fd0619f445815992373157cb795634746c3064702553768d6", func := "loop.example/g01407/laws.FnExactTotal", spec := "fnExactTotal", apart := false }
def FnExactTotalSaid : Prop := fnExactTotalRow.holds Try.pinned (OpenSpec.ofChange fnExactTotalSpec)

/-- ITS FALSE NEIGHBOUR: 'it returns false'. Refute it at one input. -/
def fnExactTotalWrong : ChangeSpec := { name := "fnExactTotal", fn := fun _ => fun
  | [d1, d2] => { results := [.lit (.bool false)], args := [d1, d2] }
  | _ => none }
def FnExactTotalWrongFalsely : Prop := fnExactTotalRow.holds Try.pinned (OpenSpec.ofChange fnExactTotalWrong)

/-- 'laws.FnExactStageOk': WHATEVER THE INPUT: true; the input reads as it did. -/
def fnExactStageOkSpec : ChangeSpec := { name := "fnExactStageOk", fn := fun _ => fun
  | [d] => { results := [.lit (.bool true)], args := [d] }
  | _ => none }
def fnExactStageOkRow : OpenClaim := { program := "ytpnblnkggeopkaa", sum := "87ec03db3618080fd0619f445815992373157cb795634746c3064702553768d6", func := "loop.example/g01407/laws.FnExactStageOk", spec := "fnExactStageOk", apart := false }
def FnExactStageOkSaid : Prop := fnExactStageOkRow.holds Try.pinned (OpenSpec.ofChange fnExactStageOkSpec)

/-- ITS FALSE NEIGHBOUR: 'it returns false'. Refute it at one input. -/
def fnExactStageOkWrong : ChangeSpec := { name := "fnExactStageOk", fn := fun _ => fun
  | [d] => { results := [.lit (.bool false)], args := [d] }
  | _ => none }
def FnExactStageOkWrongFalsely : Prop := fnExactStageOkRow.holds Try.pinned (OpenSpec.ofChange fnExactStageOkWrong)

/-- 'laws.FnExactAdmit': WHATEVER THE INPUT: true; the input reads as it did. -/
def fnExactAdmitSpec : ChangeSpec := { name := "fnExactAdmit", fn := fun _ => fun
  | [d1, d2] => { results := [.lit (.bool true)], args := [d1, d2] }
  | _ => none }
def fnExactAdmitRow : OpenClaim := { program := "ytpnblnkggeopkaa", sum := "87ec03db3618080fd0619f445815992373157cb795634746c3064702553768d6", func := "loop.example/g01407/laws.FnExactAdmit", spec := "fnExactAdmit", apart := false }
def FnExactAdmitSaid : Prop := fnExactAdmitRow.holds Try.pinned (OpenSpec.ofChange fnExactAdmitSpec)

/-- ITS FALSE NEIGHBOUR: 'it returns false'. Refute it at one input. -/
def fnExactAdmitWrong : ChangeSpec := { name := "fnExactAdmit", fn := fun _ => fun
  | [d1, d2] => { results := [.lit (.bool false)], args := [d1, d2] }
  | _ => none }
def FnExactAdmitWrongFalsely : Prop := fnExactAdmitRow.holds Try.pinned (OpenSpec.ofChange fnExactAdmitWrong)

/-- 'laws.FnExactLeft': WHATEVER THE INPUT: true; the input reads as it did. -/
def fnExactLeftSpec : ChangeSpec := { name := "fnExactLeft", fn := fun _ => fun
  | [d] => { results := [.lit (.bool true)], args := [d] }
  | _ => none }
def fnExactLeftRow : OpenClaim := { program := "ytpnblnkggeopkaa", sum := "87ec03db3618080fd0619f445815992373157cb795634746c3064702553768d6", func := "loop.example/g01407/laws.FnExactLeft", spec := "fnExactLeft", apart := false }
def FnExactLeftSaid : Prop := fnExactLeftRow.holds Try.pinned (OpenSpec.ofChange fnExactLeftSpec)

/-- ITS FALSE NEIGHBOUR: 'it returns false'. Refute it at one input. -/
def fnExactLeftWrong : ChangeSpec := { name := "fnExactLeft", fn := fun _ => fun
  | [d] => { results := [.lit (.bool false)], args := [d] }
  | _ => none }
def FnExactLeftWrongFalsely : Prop := fnExactLeftRow.holds Try.pinned (OpenSpec.ofChange fnExactLeftWrong)

/-- 'laws.FnExactDone': WHATEVER THE INPUT: true; the input reads as it did. -/
def fnExactDoneSpec : ChangeSpec := { name := "fnExactDone", fn := fun _ => fun
  | [d] => { results := [.lit (.bool true)], args := [d] }
  | _ => none }
def fnExactDoneRow : OpenClaim := { program := "ytpnblnkggeopkaa", sum := "87ec03db3618080fd0619f445815992373157cb795634746c3064702553768d6", func := "loop.example/g01407/laws.FnExactDone", spec := "fnExactDone", apart := false }
def FnExactDoneSaid : Prop := fnExactDoneRow.holds Try.pinned (OpenSpec.ofChange fnExactDoneSpec)

/-- ITS FALSE NEIGHBOUR: 'it returns false'. Refute it at one input. -/
def fnExactDoneWrong : ChangeSpec := { name := "fnExactDone", fn := fun _ => fun
  | [d] => { results := [.lit (.bool false)], args := [d] }
  | _ => none }
def FnExactDoneWrongFalsely : Prop := fnExactDoneRow.holds Try.pinned (OpenSpec.ofChange fnExactDoneWrong)

/-- 'laws.FnExactNext': WHATEVER THE INPUT: true; the input reads as it did. -/
def fnExactNextSpec : ChangeSpec := { name := "fnExactNext", fn := fun _ => fun
  | [d1, d2] => { results := [.lit (.bool true)], args := [d1, d2] }
  | _ => none }
def fnExactNextRow : OpenClaim := { program := "ytpnblnkggeopkaa", sum := "87ec03db3618080fd0619f445815992373157cb795634746c3064702553768d6", func := "loop.example/g01407/laws.FnExactNext", spec := "fnExactNext", apart := false }
def FnExactNextSaid : Prop := fnExactNextRow.holds Try.pinned (OpenSpec.ofChange fnExactNextSpec)

/-- ITS FALSE NEIGHBOUR: 'it returns false'. Refute it at one input. -/
def fnExactNextWrong : ChangeSpec := { name := "fnExactNext", fn := fun _ => fun
  | [d1, d2] => { results := [.lit (.bool false)], args := [d1, d2] }
  | _ => none }
def FnExactNextWrongFalsely : Prop := fnExactNextRow.holds Try.pinned (OpenSpec.ofChange fnExactNextWrong)

/-- 'laws.FnExactPastFlush': WHATEVER THE INPUT: true; the input reads as it did. -/
def fnExactPastFlushSpec : ChangeSpec := { name := "fnExactPastFlush", fn := fun _ => fun
  | [d] => { results := [.lit (.bool true)], args := [d] }
  | _ => none }
def fnExactPastFlushRow : OpenClaim := { program := "ytpnblnkggeopkaa", sum := "87ec03db3618080fd0619f445815992373157cb795634746c3064702553768d6", func := "loop.example/g01407/laws.FnExactPastFlush", spec := "fnExactPastFlush", apart := false }
def FnExactPastFlushSaid : Prop := fnExactPastFlushRow.holds Try.pinned (OpenSpec.ofChange fnExactPastFlushSpec)

/-- ITS FALSE NEIGHBOUR: 'it returns false'. Refute it at one input. -/
def fnExactPastFlushWrong : ChangeSpec := { name := "fnExactPastFlush", fn := fun _ => fun
  | [d] => { results := [.lit (.bool false)], args := [d] }
  | _ => none }
def FnExactPastFlushWrongFalsely : Prop := fnExactPastFlushRow.holds Try.pinned (OpenSpec.ofChange fnExactPastFlushWrong)

/-- 'laws.FnExactQueuesWithin': WHATEVER THE INPUT: true; the input reads as it did. -/
def fnExactQueuesWithinSpec : ChangeSpec := { name := "fnExactQueuesWithin", fn := fun _ => fun
  | [d] => { results := [.lit (.bool true)], args := [d] }
  | _ => none }
def fnExactQueuesWithinRow : OpenClaim := { program := "ytpnblnkggeopkaa", sum := "87ec03db3618080fd0619f445815992373157cb795634746c3064702553768d6", func := "loop.example/g01407/laws.FnExactQueuesWithin", spec := "fnExactQueuesWithin", apart := false }
def FnExactQueuesWithinSaid : Prop := fnExactQueuesWithinRow.holds Try.pinned (OpenSpec.ofChange fnExactQueuesWithinSpec)

/-- ITS FALSE NEIGHBOUR: 'it returns false'. Refute it at one input. -/
def fnExactQueuesWithinWrong : ChangeSpec := { name := "fnExactQueuesWithin", fn := fun _ => fun
  | [d] => { results := [.lit (.bool false)], args := [d] }
  | _ => none }
def FnExactQueuesWithinWrongFalsely : Prop := fnExactQueuesWithinRow.holds Try.pinned (OpenSpec.ofChange fnExactQueuesWithinWrong)

/-- 'laws.FnExactWordsHeld': WHATEVER THE INPUT: true; the input reads as it did. -/
def fnExactWordsHeldSpec : ChangeSpec := { name := "fnExactWordsHeld", fn := fun _ => fun
  | [d] => { results := [.lit (.bool true)], args := [d] }
  | _ => none }
def fnExactWordsHeldRow : OpenClaim := { program := "ytpnblnkggeopkaa", sum := "87ec03db3618080fd0619f445815992373157cb795634746c3064702553768d6", func := "loop.example/g01407/laws.FnExactWordsHeld", spec := "fnExactWordsHeld", apart := false }
def FnExactWordsHeldSaid : Prop := fnExactWordsHeldRow.holds Try.pinned (OpenSpec.ofChange fnExactWordsHeldSpec)

/-- ITS FALSE NEIGHBOUR: 'it returns false'. Refute it at one input. -/
def fnExactWordsHeldWrong : ChangeSpec := { name := "fnExactWordsHeld", fn := fun _ => fun
  | [d] => { results := [.lit (.bool false)], args := [d] }
  | _ => none }
def FnExactWordsHeldWrongFalsely : Prop := fnExactWordsHeldRow.holds Try.pinned (OpenSpec.ofChange fnExactWordsHeldWrong)

/-- 'laws.FnExactPipeOk': WHATEVER THE INPUT: true; the input reads as it did. -/
def fnExactPipeOkSpec : ChangeSpec := { name := "fnExactPipeOk", fn := fun _ => fun
  | [d] => { results := [.lit (.bool true)], args := [d] }
  | _ => none }
def fnExactPipeOkRow : OpenClaim := { program := "ytpnblnkggeopkaa", sum := "87ec03db3618080fd0619f445815992373157cb795634746c3064702553768d6", func := "loop.example/g01407/laws.FnExactPipeOk", spec := "fnExactPipeOk", apart := false }
def FnExactPipeOkSaid : Prop := fnExactPipeOkRow.holds Try.pinned (OpenSpec.ofChange fnExactPipeOkSpec)

/-- ITS FALSE NEIGHBOUR: 'it returns false'. Refute it at one input. -/
def fnExactPipeOkWrong : ChangeSpec := { name := "fnExactPipeOk", fn := fun _ => fun
  | [d] => { results := [.lit (.bool false)], args := [d] }
  | _ => none }
def FnExactPipeOkWrongFalsely : Prop := fnExactPipeOkRow.holds Try.pinned (OpenSpec.ofChange fnExactPipeOkWrong)

/-- 'laws.FnExactEnabled': WHATEVER THE INPUT: true; the input reads as it did. -/
def fnExactEnabledSpec : ChangeSpec := { name := "fnExactEnabled", fn := fun _ => fun
  | [d1, d2] => { results := [.lit (.bool true)], args := [d1, d2] }
  | _ => none }
def fnExactEnabledRow : OpenClaim := { program := "ytpnblnkggeopkaa", sum := "87ec03db3618080fd0619f445815992373157cb795634746c3064702553768d6", func := "loop.example/g01407/laws.FnExactEnabled", spec := "fnExactEnabled", apart := false }
def FnExactEnabledSaid : Prop := fnExactEnabledRow.holds Try.pinned (OpenSpec.ofChange fnExactEnabledSpec)

/-- ITS FALSE NEIGHBOUR: 'it returns false'. Refute it at one input. -/
def fnExactEnabledWrong : ChangeSpec := { name := "fnExactEnabled", fn := fun _ => fun
  | [d1, d2] => { results := [.lit (.bool false)], args := [d1, d2] }
  | _ => none }
def FnExactEnabledWrongFalsely : Prop := fnExactEnabledRow.holds Try.pinned (OpenSpec.ofChange fnExactEnabledWrong)

/-- 'laws.FnExactWithinLimits': WHATEVER THE INPUT: true; the input reads as it did. -/
def fnExactWithinLimitsSpec : ChangeSpec := { name := "fnExactWithinLimits", fn := fun _ => fun
  | [d1, d2] => { results := [.lit (.bool true)], args := [d1, d2] }
  | _ => none }
def fnExactWithinLimitsRow : OpenClaim := { program := "ytpnblnkggeopkaa", sum := "87ec03db3618080fd0619f445815992373157cb795634746c3064702553768d6", func := "loop.example/g01407/laws.FnExactWithinLimits", spec := "fnExactWithinLimits", apart := false }
def FnExactWithinLimitsSaid : Prop := fnExactWithinLimitsRow.holds Try.pinned (OpenSpec.ofChange fnExactWithinLimitsSpec)

/-- ITS FALSE NEIGHBOUR: 'it returns false'. Refute it at one input. -/
def fnExactWithinLimitsWrong : ChangeSpec := { name := "fnExactWithinLimits", fn := fun _ => fun
  | [d1, d2] => { results := [.lit (.bool false)], args := [d1, d2] }
  | _ => none }
def FnExactWithinLimitsWrongFalsely : Prop := fnExactWithinLimitsRow.holds Try.pinned (OpenSpec.ofChange fnExactWithinLimitsWrong)

/- THE SECOND FORM. 'bulk': how many values and letters a reading holds, each counted each time it is reached (what is shared counts as often as it is met; a slice's spare places count too). A statement '..UptoSaid' is the law's where the arguments, and the package variables that the reading takes, are together of bulk at most 1048576: NARROWER than '..Said'. Prove '..Said' where nothing that the law and all that it calls make is longer than what came in: it says more and counts as full. Else prove '..UptoSaid'. A law counts once. -/
mutual
def uptoBulk {H : Type} : DataW H → Nat
  | .lit (.string bytes) => bytes.length + 1
  | .lit _ => 1
  | .nil => 1
  | .ptr d => uptoBulk d + 1
  | .slice elems spare => uptoBulkAll elems + uptoBulkAll spare + 1
  | .agg parts => uptoBulkAll parts + 1
  | .iface _ d => uptoBulk d + 1
  | .map entries => uptoBulkEntries entries + 1
  | .held _ => 1
def uptoBulkAll {H : Type} : List (DataW H) → Nat
  | [] => 0
  | d :: r => uptoBulk d + uptoBulkAll r
def uptoBulkEntries {H : Type} : List (Lit × DataW H) → Nat
  | [] => 0
  | x :: r => uptoBulkEntry x + uptoBulkEntries r
def uptoBulkEntry {H : Type} : Lit × DataW H → Nat
  | (.string bytes, d) => bytes.length + uptoBulk d + 1
  | (_, d) => uptoBulk d + 1
 end
def uptoSmall : (H : Type) → List (DataW H) → Bool := fun _ ds => decide (uptoBulkAll ds ≤ 1048576)
def OpenSpec.upto (s : _root_.Go.ChangeSpec) : _root_.Go.OpenSpec := { _root_.Go.OpenSpec.ofChange s with cond := some uptoSmall }

/-- 'laws.FnExactFindSaved', WHERE WHAT IT READS IS OF BULK AT MOST 1048576: true; the input reads as it did. -/
def fnExactFindSavedUptoRow : OpenClaim := { program := "ytpnblnkggeopkaa", sum := "87ec03db3618080fd0619f445815992373157cb795634746c3064702553768d6", func := "loop.example/g01407/laws.FnExactFindSaved", spec := "fnExactFindSaved", apart := false, narrowed := true }
def FnExactFindSavedUptoSaid : Prop := fnExactFindSavedUptoRow.holds Try.pinned (OpenSpec.upto fnExactFindSavedSpec)

/-- 'laws.FnExactInFlight', WHERE WHAT IT READS IS OF BULK AT MOST 1048576: true; the input reads as it did. -/
def fnExactInFlightUptoRow : OpenClaim := { program := "ytpnblnkggeopkaa", sum := "87ec03db3618080fd0619f445815992373157cb795634746c3064702553768d6", func := "loop.example/g01407/laws.FnExactInFlight", spec := "fnExactInFlight", apart := false, narrowed := true }
def FnExactInFlightUptoSaid : Prop := fnExactInFlightUptoRow.holds Try.pinned (OpenSpec.upto fnExactInFlightSpec)

/-- 'laws.FnExactBubble', WHERE WHAT IT READS IS OF BULK AT MOST 1048576: true; the input reads as it did. -/
def fnExactBubbleUptoRow : OpenClaim := { program := "ytpnblnkggeopkaa", sum := "87ec03db3618080fd0619f445815992373157cb795634746c3064702553768d6", func := "loop.example/g01407/laws.FnExactBubble", spec := "fnExactBubble", apart := false, narrowed := true }
def FnExactBubbleUptoSaid : Prop := fnExactBubbleUptoRow.holds Try.pinned (OpenSpec.upto fnExactBubbleSpec)

/-- 'laws.FnExactQueueOk', WHERE WHAT IT READS IS OF BULK AT MOST 1048576: true; the input reads as it did. -/
def fnExactQueueOkUptoRow : OpenClaim := { program := "ytpnblnkggeopkaa", sum := "87ec03db3618080fd0619f445815992373157cb795634746c3064702553768d6", func := "loop.example/g01407/laws.FnExactQueueOk", spec := "fnExactQueueOk", apart := false, narrowed := true }
def FnExactQueueOkUptoSaid : Prop := fnExactQueueOkUptoRow.holds Try.pinned (OpenSpec.upto fnExactQueueOkSpec)

/-- 'laws.FnExactQueueWords', WHERE WHAT IT READS IS OF BULK AT MOST 1048576: true; the input reads as it did. -/
def fnExactQueueWordsUptoRow : OpenClaim := { program := "ytpnblnkggeopkaa", sum := "87ec03db3618080fd0619f445815992373157cb795634746c3064702553768d6", func := "loop.example/g01407/laws.FnExactQueueWords", spec := "fnExactQueueWords", apart := false, narrowed := true }
def FnExactQueueWordsUptoSaid : Prop := fnExactQueueWordsUptoRow.holds Try.pinned (OpenSpec.upto fnExactQueueWordsSpec)

/-- 'laws.FnExactPlanOk', WHERE WHAT IT READS IS OF BULK AT MOST 1048576: true; the input reads as it did. -/
def fnExactPlanOkUptoRow : OpenClaim := { program := "ytpnblnkggeopkaa", sum := "87ec03db3618080fd0619f445815992373157cb795634746c3064702553768d6", func := "loop.example/g01407/laws.FnExactPlanOk", spec := "fnExactPlanOk", apart := false, narrowed := true }
def FnExactPlanOkUptoSaid : Prop := fnExactPlanOkUptoRow.holds Try.pinned (OpenSpec.upto fnExactPlanOkSpec)

/-- 'laws.FnExactCutsOk', WHERE WHAT IT READS IS OF BULK AT MOST 1048576: true; the input reads as it did. -/
def fnExactCutsOkUptoRow : OpenClaim := { program := "ytpnblnkggeopkaa", sum := "87ec03db3618080fd0619f445815992373157cb795634746c3064702553768d6", func := "loop.example/g01407/laws.FnExactCutsOk", spec := "fnExactCutsOk", apart := false, narrowed := true }
def FnExactCutsOkUptoSaid : Prop := fnExactCutsOkUptoRow.holds Try.pinned (OpenSpec.upto fnExactCutsOkSpec)

/-- 'laws.FnExactStageRange', WHERE WHAT IT READS IS OF BULK AT MOST 1048576: true; the input reads as it did. -/
def fnExactStageRangeUptoRow : OpenClaim := { program := "ytpnblnkggeopkaa", sum := "87ec03db3618080fd0619f445815992373157cb795634746c3064702553768d6", func := "loop.example/g01407/laws.FnExactStageRange", spec := "fnExactStageRange", apart := false, narrowed := true }
def FnExactStageRangeUptoSaid : Prop := fnExactStageRangeUptoRow.holds Try.pinned (OpenSpec.upto fnExactStageRangeSpec)

/-- 'laws.FnExactStageCost', WHERE WHAT IT READS IS OF BULK AT MOST 1048576: true; the input reads as it did. -/
def fnExactStageCostUptoRow : OpenClaim := { program := "ytpnblnkggeopkaa", sum := "87ec03db3618080fd0619f445815992373157cb795634746c3064702553768d6", func := "loop.example/g01407/laws.FnExactStageCost", spec := "fnExactStageCost", apart := false, narrowed := true }
def FnExactStageCostUptoSaid : Prop := fnExactStageCostUptoRow.holds Try.pinned (OpenSpec.upto fnExactStageCostSpec)

/-- 'laws.FnExactMaxCost', WHERE WHAT IT READS IS OF BULK AT MOST 1048576: true; the input reads as it did. -/
def fnExactMaxCostUptoRow : OpenClaim := { program := "ytpnblnkggeopkaa", sum := "87ec03db3618080fd0619f445815992373157cb795634746c3064702553768d6", func := "loop.example/g01407/laws.FnExactMaxCost", spec := "fnExactMaxCost", apart := false, narrowed := true }
def FnExactMaxCostUptoSaid : Prop := fnExactMaxCostUptoRow.holds Try.pinned (OpenSpec.upto fnExactMaxCostSpec)

/-- 'laws.FnExactStagesOf', WHERE WHAT IT READS IS OF BULK AT MOST 1048576: true; the input reads as it did. -/
def fnExactStagesOfUptoRow : OpenClaim := { program := "ytpnblnkggeopkaa", sum := "87ec03db3618080fd0619f445815992373157cb795634746c3064702553768d6", func := "loop.example/g01407/laws.FnExactStagesOf", spec := "fnExactStagesOf", apart := false, narrowed := true }
def FnExactStagesOfUptoSaid : Prop := fnExactStagesOfUptoRow.holds Try.pinned (OpenSpec.upto fnExactStagesOfSpec)

/-- 'laws.FnExactFullWords', WHERE WHAT IT READS IS OF BULK AT MOST 1048576: true; the input reads as it did. -/
def fnExactFullWordsUptoRow : OpenClaim := { program := "ytpnblnkggeopkaa", sum := "87ec03db3618080fd0619f445815992373157cb795634746c3064702553768d6", func := "loop.example/g01407/laws.FnExactFullWords", spec := "fnExactFullWords", apart := false, narrowed := true }
def FnExactFullWordsUptoSaid : Prop := fnExactFullWordsUptoRow.holds Try.pinned (OpenSpec.upto fnExactFullWordsSpec)

/-- 'laws.FnExactSavedWords', WHERE WHAT IT READS IS OF BULK AT MOST 1048576: true; the input reads as it did. -/
def fnExactSavedWordsUptoRow : OpenClaim := { program := "ytpnblnkggeopkaa", sum := "87ec03db3618080fd0619f445815992373157cb795634746c3064702553768d6", func := "loop.example/g01407/laws.FnExactSavedWords", spec := "fnExactSavedWords", apart := false, narrowed := true }
def FnExactSavedWordsUptoSaid : Prop := fnExactSavedWordsUptoRow.holds Try.pinned (OpenSpec.upto fnExactSavedWordsSpec)

/-- 'laws.FnExactLedger', WHERE WHAT IT READS IS OF BULK AT MOST 1048576: true; the input reads as it did. -/
def fnExactLedgerUptoRow : OpenClaim := { program := "ytpnblnkggeopkaa", sum := "87ec03db3618080fd0619f445815992373157cb795634746c3064702553768d6", func := "loop.example/g01407/laws.FnExactLedger", spec := "fnExactLedger", apart := false, narrowed := true }
def FnExactLedgerUptoSaid : Prop := fnExactLedgerUptoRow.holds Try.pinned (OpenSpec.upto fnExactLedgerSpec)

/-- 'laws.FnExactPeakOf', WHERE WHAT IT READS IS OF BULK AT MOST 1048576: true; the input reads as it did. -/
def fnExactPeakOfUptoRow : OpenClaim := { program := "ytpnblnkggeopkaa", sum := "87ec03db3618080fd0619f445815992373157cb795634746c3064702553768d6", func := "loop.example/g01407/laws.FnExactPeakOf", spec := "fnExactPeakOf", apart := false, narrowed := true }
def FnExactPeakOfUptoSaid : Prop := fnExactPeakOfUptoRow.holds Try.pinned (OpenSpec.upto fnExactPeakOfSpec)

/-- 'laws.FnExactTotal', WHERE WHAT IT READS IS OF BULK AT MOST 1048576: true; the input reads as it did. -/
def fnExactTotalUptoRow : OpenClaim := { program := "ytpnblnkggeopkaa", sum := "87ec03db3618080fd0619f445815992373157cb795634746c3064702553768d6", func := "loop.example/g01407/laws.FnExactTotal", spec := "fnExactTotal", apart := false, narrowed := true }
def FnExactTotalUptoSaid : Prop := fnExactTotalUptoRow.holds Try.pinned (OpenSpec.upto fnExactTotalSpec)

/-- 'laws.FnExactStageOk', WHERE WHAT IT READS IS OF BULK AT MOST 1048576: true; the input reads as it did. -/
def fnExactStageOkUptoRow : OpenClaim := { program := "ytpnblnkggeopkaa", sum := "87ec03db3618080fd0619f445815992373157cb795634746c3064702553768d6", func := "loop.example/g01407/laws.FnExactStageOk", spec := "fnExactStageOk", apart := false, narrowed := true }
def FnExactStageOkUptoSaid : Prop := fnExactStageOkUptoRow.holds Try.pinned (OpenSpec.upto fnExactStageOkSpec)

/-- 'laws.FnExactAdmit', WHERE WHAT IT READS IS OF BULK AT MOST 1048576: true; the input reads as it did. -/
def fnExactAdmitUptoRow : OpenClaim := { program := "ytpnblnkggeopkaa", sum := "87ec03db3618080fd0619f445815992373157cb795634746c3064702553768d6", func := "loop.example/g01407/laws.FnExactAdmit", spec := "fnExactAdmit", apart := false, narrowed := true }
def FnExactAdmitUptoSaid : Prop := fnExactAdmitUptoRow.holds Try.pinned (OpenSpec.upto fnExactAdmitSpec)

/-- 'laws.FnExactLeft', WHERE WHAT IT READS IS OF BULK AT MOST 1048576: true; the input reads as it did. -/
def fnExactLeftUptoRow : OpenClaim := { program := "ytpnblnkggeopkaa", sum := "87ec03db3618080fd0619f445815992373157cb795634746c3064702553768d6", func := "loop.example/g01407/laws.FnExactLeft", spec := "fnExactLeft", apart := false, narrowed := true }
def FnExactLeftUptoSaid : Prop := fnExactLeftUptoRow.holds Try.pinned (OpenSpec.upto fnExactLeftSpec)

/-- 'laws.FnExactDone', WHERE WHAT IT READS IS OF BULK AT MOST 1048576: true; the input reads as it did. -/
def fnExactDoneUptoRow : OpenClaim := { program := "ytpnblnkggeopkaa", sum := "87ec03db3618080fd0619f445815992373157cb795634746c3064702553768d6", func := "loop.example/g01407/laws.FnExactDone", spec := "fnExactDone", apart := false, narrowed := true }
def FnExactDoneUptoSaid : Prop := fnExactDoneUptoRow.holds Try.pinned (OpenSpec.upto fnExactDoneSpec)

/-- 'laws.FnExactNext', WHERE WHAT IT READS IS OF BULK AT MOST 1048576: true; the input reads as it did. -/
def fnExactNextUptoRow : OpenClaim := { program := "ytpnblnkggeopkaa", sum := "87ec03db3618080fd0619f445815992373157cb795634746c3064702553768d6", func := "loop.example/g01407/laws.FnExactNext", spec := "fnExactNext", apart := false, narrowed := true }
def FnExactNextUptoSaid : Prop := fnExactNextUptoRow.holds Try.pinned (OpenSpec.upto fnExactNextSpec)

/-- 'laws.FnExactPastFlush', WHERE WHAT IT READS IS OF BULK AT MOST 1048576: true; the input reads as it did. -/
def fnExactPastFlushUptoRow : OpenClaim := { program := "ytpnblnkggeopkaa", sum := "87ec03db3618080fd0619f445815992373157cb795634746c3064702553768d6", func := "loop.example/g01407/laws.FnExactPastFlush", spec := "fnExactPastFlush", apart := false, narrowed := true }
def FnExactPastFlushUptoSaid : Prop := fnExactPastFlushUptoRow.holds Try.pinned (OpenSpec.upto fnExactPastFlushSpec)

/-- 'laws.FnExactQueuesWithin', WHERE WHAT IT READS IS OF BULK AT MOST 1048576: true; the input reads as it did. -/
def fnExactQueuesWithinUptoRow : OpenClaim := { program := "ytpnblnkggeopkaa", sum := "87ec03db3618080fd0619f445815992373157cb795634746c3064702553768d6", func := "loop.example/g01407/laws.FnExactQueuesWithin", spec := "fnExactQueuesWithin", apart := false, narrowed := true }
def FnExactQueuesWithinUptoSaid : Prop := fnExactQueuesWithinUptoRow.holds Try.pinned (OpenSpec.upto fnExactQueuesWithinSpec)

/-- 'laws.FnExactWordsHeld', WHERE WHAT IT READS IS OF BULK AT MOST 1048576: true; the input reads as it did. -/
def fnExactWordsHeldUptoRow : OpenClaim := { program := "ytpnblnkggeopkaa", sum := "87ec03db3618080fd0619f445815992373157cb795634746c3064702553768d6", func := "loop.example/g01407/laws.FnExactWordsHeld", spec := "fnExactWordsHeld", apart := false, narrowed := true }
def FnExactWordsHeldUptoSaid : Prop := fnExactWordsHeldUptoRow.holds Try.pinned (OpenSpec.upto fnExactWordsHeldSpec)

/-- 'laws.FnExactPipeOk', WHERE WHAT IT READS IS OF BULK AT MOST 1048576: true; the input reads as it did. -/
def fnExactPipeOkUptoRow : OpenClaim := { program := "ytpnblnkggeopkaa", sum := "87ec03db3618080fd0619f445815992373157cb795634746c3064702553768d6", func := "loop.example/g01407/laws.FnExactPipeOk", spec := "fnExactPipeOk", apart := false, narrowed := true }
def FnExactPipeOkUptoSaid : Prop := fnExactPipeOkUptoRow.holds Try.pinned (OpenSpec.upto fnExactPipeOkSpec)

/-- 'laws.FnExactEnabled', WHERE WHAT IT READS IS OF BULK AT MOST 1048576: true; the input reads as it did. -/
def fnExactEnabledUptoRow : OpenClaim := { program := "ytpnblnkggeopkaa", sum := "87ec03db3618080fd0619f445815992373157cb795634746c3064702553768d6", func := "loop.example/g01407/laws.FnExactEnabled", spec := "fnExactEnabled", apart := false, narrowed := true }
def FnExactEnabledUptoSaid : Prop := fnExactEnabledUptoRow.holds Try.pinned (OpenSpec.upto fnExactEnabledSpec)

/-- 'laws.FnExactWithinLimits', WHERE WHAT IT READS IS OF BULK AT MOST 1048576: true; the input reads as it did. -/
def fnExactWithinLimitsUptoRow : OpenClaim := { program := "ytpnblnkggeopkaa", sum := "87ec03db3618080fd0619f445815992373157cb795634746c3064702553768d6", func := "loop.example/g01407/laws.FnExactWithinLimits", spec := "fnExactWithinLimits", apart := false, narrowed := true }
def FnExactWithinLimitsUptoSaid : Prop := fnExactWithinLimitsUptoRow.holds Try.pinned (OpenSpec.upto fnExactWithinLimitsSpec)

end Rows
end Go.Proofs.Ytpnblnkggeopkaa
