/-
  A law's row, proved of every input: the law's contract (its body walked by the abstract machine), and the reading of its arguments.
-/
import Derived.Test.YtjigmfomaoanmaaRows
import Derived.Test.YtjigmfomaoanmaaTmR
import Derived.Test.YtjigmfomaoanmaaG1
namespace Go.Proofs.Ytjigmfomaoanmaa.fnExactBubble
set_option linter.unusedVariables false
open Go.ChangeShapes Go.WideShapes Go.ChangeAt Go.RowKit

theorem own : ownKnob Try.prog.godebug = none := by kernel_rfl
theorem laidOut : laidOutB Try.prog = true := by kernel_rfl

theorem said (x : Am.DenL [(.a [.int .i64, (.sl [.int .i64]), (.sl [.int .i64]), .bool])]) : Am.TCon Try.prog 7 (Am.valL _ x) ⟨.c .bool true, [], [], false⟩ := Am.l_FnExactBubble_h x.1

set_option maxRecDepth 100000 in
theorem lifted (os : Os) (started : os.Started) (H : Type) (enc : TypeId × Value → H) :
    ReturnsInHanded {} Try.checked os 7 .any (Rows.fnExactBubbleSpec.pre6 enc Try.prog Try.f7 Rows.fnExactBubbleRow.domain false) (Rows.fnExactBubbleSpec.post enc Try.prog Try.f7 false true false false) := by
  refine returnsInHanded_of_change (C := Try.checked) own started (by kernel_rfl) Try.func7
    (ChangeSpec.witness6 (enc := enc) (C := Try.checked) false ⟨#[], #[.agg #[.int .i64 0, .slice none 0 0, .slice none 0 0, .bool false]], []⟩ 8 (by kernel_rfl) (by kernel_rfl) (by kernel_rfl) (by kernel_rfl)) ?_
  intro W base args ds gs before hval hW hcnd _
  exact Am.law_calls laidOut (by kernel_rfl) (by kernel_rfl) (tb := 4) (by kernel_rfl) rfl said rfl rfl (fun ds h => by
    match ds, h with
    | [_], _ => rfl) hval hW

theorem over : Rows.fnExactBubbleRow.holds Try.pinned (OpenSpec.ofChange Rows.fnExactBubbleSpec) :=
  OpenClaim.holds_of_wide 7 Try.f7 rfl rfl rfl rfl rfl rfl rfl ⟨rfl, rfl, rfl, rfl, rfl⟩ rfl rfl rfl rfl rfl (by kernel_rfl) Try.func7 (by kernel_rfl)
    (of_decide_eq_true (by kernel_rfl)) (by unfold Func.isWrapper; first | (rw [if_pos (by decide +kernel)]; kernel_rfl) | (rw [if_neg (by decide +kernel)]; exact ⟨rfl, rfl⟩))
    (fun os started H enc _ => lifted os started H enc)

/-- ████ THE STATEMENT ████ -/
theorem proved : Rows.FnExactBubbleSaid :=
  over
end Go.Proofs.Ytjigmfomaoanmaa.fnExactBubble
