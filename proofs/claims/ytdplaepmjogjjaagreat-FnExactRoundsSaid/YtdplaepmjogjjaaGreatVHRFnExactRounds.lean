/-
  A law's row, proved of every input: the law's contract (its body walked by the abstract machine), and the reading of its arguments.
-/
import Derived.Test.YtdplaepmjogjjaaGreatRows
import Derived.Test.YtdplaepmjogjjaaGreatVHM6
namespace Go.Proofs.YtdplaepmjogjjaaGreat.fnExactRounds
set_option linter.all false
open Go.ChangeShapes Go.WideShapes Go.ChangeAt Go.RowKit
theorem own:ownKnob Tryz.prog.godebug=none:=by kernel_rfl
theorem laidOut:laidOutB Tryz.prog=true:=by kernel_rfl
theorem said (x:Am.gR [(.a [(.sl [(.sl [(.int .i64)]),(.sl [(.int .i64)])]),(.sl [(.int .i64),(.sl [(.int .i64),(.int .i64)]),(.sl [(.int .i64),(.int .i64),(.int .i64),(.sl [(.int .i64)])]),.bool,.bool,(.sl [(.int .i64),(.sl [(.sl [(.int .i64)])])]),(.sl [(.sl [(.int .i64)])]),(.sl [(.int .i64)]),(.sl [(.int .i64)]),(.sl [(.int .i64)]),(.sl [(.int .i64)]),(.sl [(.sl [(.int .i64)])]),(.int .i64),.bool]),(.sl [(.int .i64),(.sl [(.int .i64),(.sl [(.int .i64)])])]),(.sl [(.int .i64),(.sl [(.int .i64),(.sl [(.int .i64)])])])]),(.c (.int .i64))]) (h:Am.Aq _ x):Am.aK Tryz.prog 10 (Am.jM _ x) ⟨.c .bool true,[],[],false,[]⟩:=Am.fN x.1 x.2.1
set_option maxRecDepth 100000 in
theorem lifted (os:Os) (started:os.Started) (H:Type) (enc:TypeId × Value→H) :
  ReturnsInHanded {} Tryz.checked os 10 .any (Rows.fnExactRoundsSpec.pre6 enc Tryz.prog Tryz.f10 Rows.fnExactRoundsRow.domain false) (Rows.fnExactRoundsSpec.post enc Tryz.prog Tryz.f10 false true false false):=by
 refine returnsInHanded_of_change (C:=Tryz.checked) own started (by kernel_rfl) Tryz.func10
  (ChangeSpec.witness6 (enc:=enc) (C:=Tryz.checked) false ⟨#[],#[.agg #[.slice none 0 0,.slice none 0 0,.slice none 0 0,.slice none 0 0],.int .i64 0],[]⟩ 8 (by kernel_rfl) (by kernel_rfl) (by kernel_rfl) (by kernel_rfl)) ?_
 intro W base args ds gs before gN hW aC7 _
 exact Am.kK laidOut (by kernel_rfl) (by kernel_rfl) (tb:=4) (by kernel_rfl) rfl said rfl rfl (fun ds h=>by
  match ds,h with
  | [_,_],_=>rfl) gN hW
theorem unf:(Tryz.pinned.checked.prog).unfollowed 10=false:=by kernel_rfl
theorem rec:(Rows.fnExactRoundsRow.recurses==(Tryz.pinned.checked.prog).recurses 10)=true:=by
 have h:(Tryz.pinned.checked.prog).recurses 10=false:=Am.rz (P:=Tryz.prog) Am.kO unf
 rw [h];rfl
theorem lif:(Rows.fnExactRoundsRow.lifted==(Tryz.pinned.checked.prog).liftsFinal)=true:=by
 have h:(Tryz.pinned.checked.prog).liftsFinal=false:=Am.jg
 rw [h];rfl
theorem mak:((Tryz.pinned.checked.prog).make==some (Rows.fnExactRoundsRow.make))=true:=by
 have h:(Tryz.pinned.checked.prog).make=some .cut:=Am.nE
 rw [h];rfl
set_option maxHeartbeats 4000000 in
theorem facts:joinedFacts Tryz.pinned.checked.prog 10 Tryz.f10 Rows.fnExactRoundsSpec Rows.fnExactRoundsRow=true:=by
 unfold joinedFacts
 exact (Am.bO (Am.bO (Am.bO (Am.bO (Am.bO (Am.bO (Am.bO (Am.bO (Am.bO (Am.bO (Am.bO (Am.bO (Am.bO (Am.bO (Am.bO (Am.bO (Am.bO (Am.bO (Am.bO (Am.bO (Am.bO (Am.bO (Am.bO (Am.bO (Am.bO (Am.bO (Am.bO (Am.bO (Am.bO (Am.bO (Am.bO (by as_aux_lemma=>kernel_rfl) (by as_aux_lemma=>kernel_rfl)) (by as_aux_lemma=>kernel_rfl)) (by as_aux_lemma=>kernel_rfl)) (by as_aux_lemma=>kernel_rfl)) (by as_aux_lemma=>kernel_rfl)) (by as_aux_lemma=>kernel_rfl)) (by as_aux_lemma=>kernel_rfl)) (by as_aux_lemma=>kernel_rfl)) (by as_aux_lemma=>kernel_rfl)) (by as_aux_lemma=>kernel_rfl)) rec) (by as_aux_lemma=>kernel_rfl)) (by as_aux_lemma=>kernel_rfl)) (by as_aux_lemma=>kernel_rfl)) (by as_aux_lemma=>kernel_rfl)) (by as_aux_lemma=>kernel_rfl)) (by as_aux_lemma=>kernel_rfl)) (by as_aux_lemma=>kernel_rfl)) (by as_aux_lemma=>kernel_rfl)) (by as_aux_lemma=>kernel_rfl)) (by as_aux_lemma=>kernel_rfl)) (by as_aux_lemma=>kernel_rfl)) (by as_aux_lemma=>kernel_rfl)) (by as_aux_lemma=>kernel_rfl)) Am.kP) lif) mak) (by as_aux_lemma=>kernel_rfl)) (by as_aux_lemma=>kernel_rfl)) (by as_aux_lemma=>kernel_rfl)) (by as_aux_lemma=>kernel_rfl))
theorem over:Rows.fnExactRoundsRow.holds Tryz.pinned (OpenSpec.ofChange Rows.fnExactRoundsSpec) :=
 OpenClaim.holds_of_wide 10 Tryz.f10 rfl rfl rfl rfl rfl rfl rfl ⟨rfl,rfl,rfl,rfl,rfl⟩ rfl rfl rfl rfl rfl (by kernel_rfl) Tryz.func10 facts
  (of_decide_eq_true (by kernel_rfl)) (by unfold Func.isWrapper;first | (rw [if_pos (by decide +kernel)];kernel_rfl) | (rw [if_neg (by decide +kernel)];exact ⟨rfl,rfl⟩))
  (fun os started H enc _=>lifted os started H enc)
theorem proved:Rows.FnExactRoundsSaid :=
 over
end Go.Proofs.YtdplaepmjogjjaaGreat.fnExactRounds

