/-
  No cell of these rows narrows 'for every input' (looked for: loops, veiled, ifaces, maps, wideKeys, modest, calm, conditions, laid).
  DERIVED. THE GIVEN ROWS OF THIS SEAT. 6 by the template 'for every input the law returns true; each argument reads behind the call as it read before'; 0 by the template 'total and deterministic' (their statements: YtjigmfomaoanmaaTotals.lean).
  GIVEN WITH THE SEED: the statements are not yours to turn. If you find one false, say at which input.
  Laid BY PROGRAM, IN A SANDBOX (cutbox-rows.mjs): the forced cells as the released guide's own fill.sh prints them over the translation a592b7bfcafc1d7d… (all of the seat's roots in one cut). By AI agents, Wed Nov 11 2026. No macro, syntax, notation, axiom, sorry.
-/
import Derived.Test.YtjigmfomaoanmaaChecked
import GoSem.Claim
import GoSem.ClaimJoined
import GoSem.ClaimMapViews
import Derived.JoinedTies
import Derived.KernelRfl
namespace Go.Proofs.Ytjigmfomaoanmaa
/- THE CELL 'sum', in the pinned program and in every row, IS THE sha256 OF THE DUMP (.gsa) THAT YtjigmfomaoanmaaProg.lean LOADS. Nothing in Lean hashes anything: it is a label: what it is worth is what the hold of that sum in a sandbox is worth. -/
noncomputable def Try.pinned : Pinned := { name := "ytjigmfomaoanmaa", sum := "a592b7bfcafc1d7dd870ceaafbb7c212a40702606f571f53f094aa22217338be", checked := Try.checked }
namespace Rows
def none {H : Type} : Left H := { results := [], args := [] }

/-- 'laws.FnExactAdmitWord': WHATEVER THE INPUT: true; the input reads as it did. -/
def fnExactAdmitWordSpec : ChangeSpec := { name := "fnExactAdmitWord", fn := fun _ => fun
  | [d] => { results := [.lit (.bool true)], args := [d] }
  | _ => none }
def fnExactAdmitWordRow : OpenClaim := { program := "ytjigmfomaoanmaa", sum := "a592b7bfcafc1d7dd870ceaafbb7c212a40702606f571f53f094aa22217338be", func := "loop.example/g01407/laws.FnExactAdmitWord", spec := "fnExactAdmitWord", apart := false }
def FnExactAdmitWordSaid : Prop := fnExactAdmitWordRow.holds Try.pinned (OpenSpec.ofChange fnExactAdmitWordSpec)

/-- ITS FALSE NEIGHBOUR: 'it returns false'. Refute it at one input. -/
def fnExactAdmitWordWrong : ChangeSpec := { name := "fnExactAdmitWord", fn := fun _ => fun
  | [d] => { results := [.lit (.bool false)], args := [d] }
  | _ => none }
def FnExactAdmitWordWrongFalsely : Prop := fnExactAdmitWordRow.holds Try.pinned (OpenSpec.ofChange fnExactAdmitWordWrong)

/-- 'laws.FnExactWarmUp': WHATEVER THE INPUT: true; the input reads as it did. -/
def fnExactWarmUpSpec : ChangeSpec := { name := "fnExactWarmUp", fn := fun _ => fun
  | [d1, d2, d3, d4] => { results := [.lit (.bool true)], args := [d1, d2, d3, d4] }
  | _ => none }
def fnExactWarmUpRow : OpenClaim := { program := "ytjigmfomaoanmaa", sum := "a592b7bfcafc1d7dd870ceaafbb7c212a40702606f571f53f094aa22217338be", func := "loop.example/g01407/laws.FnExactWarmUp", spec := "fnExactWarmUp", apart := false }
def FnExactWarmUpSaid : Prop := fnExactWarmUpRow.holds Try.pinned (OpenSpec.ofChange fnExactWarmUpSpec)

/-- ITS FALSE NEIGHBOUR: 'it returns false'. Refute it at one input. -/
def fnExactWarmUpWrong : ChangeSpec := { name := "fnExactWarmUp", fn := fun _ => fun
  | [d1, d2, d3, d4] => { results := [.lit (.bool false)], args := [d1, d2, d3, d4] }
  | _ => none }
def FnExactWarmUpWrongFalsely : Prop := fnExactWarmUpRow.holds Try.pinned (OpenSpec.ofChange fnExactWarmUpWrong)

/-- 'laws.FnExactInsWord': WHATEVER THE INPUT: true; the input reads as it did. -/
def fnExactInsWordSpec : ChangeSpec := { name := "fnExactInsWord", fn := fun _ => fun
  | [d] => { results := [.lit (.bool true)], args := [d] }
  | _ => none }
def fnExactInsWordRow : OpenClaim := { program := "ytjigmfomaoanmaa", sum := "a592b7bfcafc1d7dd870ceaafbb7c212a40702606f571f53f094aa22217338be", func := "loop.example/g01407/laws.FnExactInsWord", spec := "fnExactInsWord", apart := false }
def FnExactInsWordSaid : Prop := fnExactInsWordRow.holds Try.pinned (OpenSpec.ofChange fnExactInsWordSpec)

/-- ITS FALSE NEIGHBOUR: 'it returns false'. Refute it at one input. -/
def fnExactInsWordWrong : ChangeSpec := { name := "fnExactInsWord", fn := fun _ => fun
  | [d] => { results := [.lit (.bool false)], args := [d] }
  | _ => none }
def FnExactInsWordWrongFalsely : Prop := fnExactInsWordRow.holds Try.pinned (OpenSpec.ofChange fnExactInsWordWrong)

/-- 'laws.FnExactInFlight': WHATEVER THE INPUT: true; the input reads as it did. -/
def fnExactInFlightSpec : ChangeSpec := { name := "fnExactInFlight", fn := fun _ => fun
  | [d] => { results := [.lit (.bool true)], args := [d] }
  | _ => none }
def fnExactInFlightRow : OpenClaim := { program := "ytjigmfomaoanmaa", sum := "a592b7bfcafc1d7dd870ceaafbb7c212a40702606f571f53f094aa22217338be", func := "loop.example/g01407/laws.FnExactInFlight", spec := "fnExactInFlight", apart := false }
def FnExactInFlightSaid : Prop := fnExactInFlightRow.holds Try.pinned (OpenSpec.ofChange fnExactInFlightSpec)

/-- ITS FALSE NEIGHBOUR: 'it returns false'. Refute it at one input. -/
def fnExactInFlightWrong : ChangeSpec := { name := "fnExactInFlight", fn := fun _ => fun
  | [d] => { results := [.lit (.bool false)], args := [d] }
  | _ => none }
def FnExactInFlightWrongFalsely : Prop := fnExactInFlightRow.holds Try.pinned (OpenSpec.ofChange fnExactInFlightWrong)

/-- 'laws.FnExactBubble': WHATEVER THE INPUT: true; the input reads as it did. -/
def fnExactBubbleSpec : ChangeSpec := { name := "fnExactBubble", fn := fun _ => fun
  | [d] => { results := [.lit (.bool true)], args := [d] }
  | _ => none }
def fnExactBubbleRow : OpenClaim := { program := "ytjigmfomaoanmaa", sum := "a592b7bfcafc1d7dd870ceaafbb7c212a40702606f571f53f094aa22217338be", func := "loop.example/g01407/laws.FnExactBubble", spec := "fnExactBubble", apart := false }
def FnExactBubbleSaid : Prop := fnExactBubbleRow.holds Try.pinned (OpenSpec.ofChange fnExactBubbleSpec)

/-- ITS FALSE NEIGHBOUR: 'it returns false'. Refute it at one input. -/
def fnExactBubbleWrong : ChangeSpec := { name := "fnExactBubble", fn := fun _ => fun
  | [d] => { results := [.lit (.bool false)], args := [d] }
  | _ => none }
def FnExactBubbleWrongFalsely : Prop := fnExactBubbleRow.holds Try.pinned (OpenSpec.ofChange fnExactBubbleWrong)

/-- 'laws.FnExactQueueOk': WHATEVER THE INPUT: true; the input reads as it did. -/
def fnExactQueueOkSpec : ChangeSpec := { name := "fnExactQueueOk", fn := fun _ => fun
  | [d] => { results := [.lit (.bool true)], args := [d] }
  | _ => none }
def fnExactQueueOkRow : OpenClaim := { program := "ytjigmfomaoanmaa", sum := "a592b7bfcafc1d7dd870ceaafbb7c212a40702606f571f53f094aa22217338be", func := "loop.example/g01407/laws.FnExactQueueOk", spec := "fnExactQueueOk", apart := false }
def FnExactQueueOkSaid : Prop := fnExactQueueOkRow.holds Try.pinned (OpenSpec.ofChange fnExactQueueOkSpec)

/-- ITS FALSE NEIGHBOUR: 'it returns false'. Refute it at one input. -/
def fnExactQueueOkWrong : ChangeSpec := { name := "fnExactQueueOk", fn := fun _ => fun
  | [d] => { results := [.lit (.bool false)], args := [d] }
  | _ => none }
def FnExactQueueOkWrongFalsely : Prop := fnExactQueueOkRow.holds Try.pinned (OpenSpec.ofChange fnExactQueueOkWrong)

/- THE SECOND FORM. 'bulk': how many values and letters a reading holds, each counted each time it is reached (what is shared counts as often as it is met; a slice's spare places count too). A statement '..UptoSaid' is the law's where the arguments, and the package variables that the reading takes, are together of bulk at most 1048576: NARROWER than '..Said'. Prove '..Said' where nothing that the law and all that it calls make is longer than what came in: it says more and counts as full. Else prove '..UptoSaid'. A law counts once. -/
mutual
def uptoBulk {H : Type} : DataW H → Nat
  | .lit (.string bytes) => bytes.length + 1
  | .lit _ => 1
  | .nil => 1
  | .ptr d => uptoBulk d + 1
  | .slice elems spare => uptoBulkAll elems + uptoBulkAll spare + 1
  | .agg parts => uptoBulkAll parts + 1
  | .iface _ d => uptoBulk d + 1
  | .map entries => uptoBulkEntries entries + 1
  | .held _ => 1
def uptoBulkAll {H : Type} : List (DataW H) → Nat
  | [] => 0
  | d :: r => uptoBulk d + uptoBulkAll r
def uptoBulkEntries {H : Type} : List (Lit × DataW H) → Nat
  | [] => 0
  | x :: r => uptoBulkEntry x + uptoBulkEntries r
def uptoBulkEntry {H : Type} : Lit × DataW H → Nat
  | (.string bytes, d) => bytes.length + uptoBulk d + 1
  | (_, d) => uptoBulk d + 1
 end
def uptoSmall : (H : Type) → List (DataW H) → Bool := fun _ ds => decide (uptoBulkAll ds ≤ 1048576)
def OpenSpec.upto (s : _root_.Go.ChangeSpec) : _root_.Go.OpenSpec := { _root_.Go.OpenSpec.ofChange s with cond := some uptoSmall }

/-- 'laws.FnExactAdmitWord', WHERE WHAT IT READS IS OF BULK AT MOST 1048576: true; the input reads as it did. -/
def fnExactAdmitWordUptoRow : OpenClaim := { program := "ytjigmfomaoanmaa", sum := "a592b7bfcafc1d7dd870ceaafbb7c212a40702606f571f53f094aa22217338be", func := "loop.example/g01407/laws.FnExactAdmitWord", spec := "fnExactAdmitWord", apart := false, narrowed := true }
def FnExactAdmitWordUptoSaid : Prop := fnExactAdmitWordUptoRow.holds Try.pinned (OpenSpec.upto fnExactAdmitWordSpec)

/-- 'laws.FnExactWarmUp', WHERE WHAT IT READS IS OF BULK AT MOST 1048576: true; the input reads as it did. -/
def fnExactWarmUpUptoRow : OpenClaim := { program := "ytjigmfomaoanmaa", sum := "a592b7bfcafc1d7dd870ceaafbb7c212a40702606f571f53f094aa22217338be", func := "loop.example/g01407/laws.FnExactWarmUp", spec := "fnExactWarmUp", apart := false, narrowed := true }
def FnExactWarmUpUptoSaid : Prop := fnExactWarmUpUptoRow.holds Try.pinned (OpenSpec.upto fnExactWarmUpSpec)

/-- 'laws.FnExactInsWord', WHERE WHAT IT READS IS OF BULK AT MOST 1048576: true; the input reads as it did. -/
def fnExactInsWordUptoRow : OpenClaim := { program := "ytjigmfomaoanmaa", sum := "a592b7bfcafc1d7dd870ceaafbb7c212a40702606f571f53f094aa22217338be", func := "loop.example/g01407/laws.FnExactInsWord", spec := "fnExactInsWord", apart := false, narrowed := true }
def FnExactInsWordUptoSaid : Prop := fnExactInsWordUptoRow.holds Try.pinned (OpenSpec.upto fnExactInsWordSpec)

/-- 'laws.FnExactInFlight', WHERE WHAT IT READS IS OF BULK AT MOST 1048576: true; the input reads as it did. -/
def fnExactInFlightUptoRow : OpenClaim := { program := "ytjigmfomaoanmaa", sum := "a592b7bfcafc1d7dd870ceaafbb7c212a40702606f571f53f094aa22217338be", func := "loop.example/g01407/laws.FnExactInFlight", spec := "fnExactInFlight", apart := false, narrowed := true }
def FnExactInFlightUptoSaid : Prop := fnExactInFlightUptoRow.holds Try.pinned (OpenSpec.upto fnExactInFlightSpec)

/-- 'laws.FnExactBubble', WHERE WHAT IT READS IS OF BULK AT MOST 1048576: true; the input reads as it did. -/
def fnExactBubbleUptoRow : OpenClaim := { program := "ytjigmfomaoanmaa", sum := "a592b7bfcafc1d7dd870ceaafbb7c212a40702606f571f53f094aa22217338be", func := "loop.example/g01407/laws.FnExactBubble", spec := "fnExactBubble", apart := false, narrowed := true }
def FnExactBubbleUptoSaid : Prop := fnExactBubbleUptoRow.holds Try.pinned (OpenSpec.upto fnExactBubbleSpec)

/-- 'laws.FnExactQueueOk', WHERE WHAT IT READS IS OF BULK AT MOST 1048576: true; the input reads as it did. -/
def fnExactQueueOkUptoRow : OpenClaim := { program := "ytjigmfomaoanmaa", sum := "a592b7bfcafc1d7dd870ceaafbb7c212a40702606f571f53f094aa22217338be", func := "loop.example/g01407/laws.FnExactQueueOk", spec := "fnExactQueueOk", apart := false, narrowed := true }
def FnExactQueueOkUptoSaid : Prop := fnExactQueueOkUptoRow.holds Try.pinned (OpenSpec.upto fnExactQueueOkSpec)

end Rows
end Go.Proofs.Ytjigmfomaoanmaa
