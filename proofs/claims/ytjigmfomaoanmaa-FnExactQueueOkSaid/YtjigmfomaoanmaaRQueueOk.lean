/-
  A law's row, proved of every input: the law's contract (its body walked by the abstract machine), and the reading of its arguments.
-/
import Derived.Test.YtjigmfomaoanmaaRows
import Derived.Test.YtjigmfomaoanmaaTmR
import Derived.Test.YtjigmfomaoanmaaG1
namespace Go.Proofs.Ytjigmfomaoanmaa.fnExactQueueOk
set_option linter.unusedVariables false
open Go.ChangeShapes Go.WideShapes Go.ChangeAt Go.RowKit

theorem own : ownKnob Try.prog.godebug = none := by kernel_rfl
theorem laidOut : laidOutB Try.prog = true := by kernel_rfl

theorem said (x : Am.DenL [(.a [.int .i64, (.sl [.int .i64, (.sl [.int .i64])])])]) : Am.TCon Try.prog 8 (Am.valL _ x) ⟨.c .bool true, [], [], false⟩ := Am.l_FnExactQueueOk_h x.1

set_option maxRecDepth 100000 in
theorem lifted (os : Os) (started : os.Started) (H : Type) (enc : TypeId × Value → H) :
    ReturnsInHanded {} Try.checked os 8 .any (Rows.fnExactQueueOkSpec.pre6 enc Try.prog Try.f8 Rows.fnExactQueueOkRow.domain false) (Rows.fnExactQueueOkSpec.post enc Try.prog Try.f8 false true false false) := by
  refine returnsInHanded_of_change (C := Try.checked) own started (by kernel_rfl) Try.func8
    (ChangeSpec.witness6 (enc := enc) (C := Try.checked) false ⟨#[], #[.agg #[.int .i64 0, .slice none 0 0]], []⟩ 8 (by kernel_rfl) (by kernel_rfl) (by kernel_rfl) (by kernel_rfl)) ?_
  intro W base args ds gs before hval hW hcnd _
  exact Am.law_calls laidOut (by kernel_rfl) (by kernel_rfl) (tb := 4) (by kernel_rfl) rfl said rfl rfl (fun ds h => by
    match ds, h with
    | [_], _ => rfl) hval hW

theorem over : Rows.fnExactQueueOkRow.holds Try.pinned (OpenSpec.ofChange Rows.fnExactQueueOkSpec) :=
  OpenClaim.holds_of_wide 8 Try.f8 rfl rfl rfl rfl rfl rfl rfl ⟨rfl, rfl, rfl, rfl, rfl⟩ rfl rfl rfl rfl rfl (by kernel_rfl) Try.func8 (by kernel_rfl)
    (of_decide_eq_true (by kernel_rfl)) (by unfold Func.isWrapper; first | (rw [if_pos (by decide +kernel)]; kernel_rfl) | (rw [if_neg (by decide +kernel)]; exact ⟨rfl, rfl⟩))
    (fun os started H enc _ => lifted os started H enc)

/-- ████ THE STATEMENT ████ -/
theorem proved : Rows.FnExactQueueOkSaid :=
  over
end Go.Proofs.Ytjigmfomaoanmaa.fnExactQueueOk
