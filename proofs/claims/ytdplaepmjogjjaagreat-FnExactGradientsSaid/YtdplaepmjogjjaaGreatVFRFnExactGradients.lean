/-
  A law's row, proved of every input: the law's contract (its body walked by the abstract machine), and the reading of its arguments.
-/
import Derived.Test.YtdplaepmjogjjaaGreatRows
import Derived.Test.YtdplaepmjogjjaaGreatVFM7
namespace Go.Proofs.YtdplaepmjogjjaaGreat.fnExactGradients
set_option linter.all false
open Go.ChangeShapes Go.WideShapes Go.ChangeAt Go.RowKit
theorem own:ownKnob Tryz.prog.godebug=none:=by kernel_rfl
theorem laidOut:laidOutB Tryz.prog=true:=by kernel_rfl
theorem said (x:Am.iF [(.a [(.sl [(.int .i64),(.int .i64),(.int .i64),(.sl [(.int .i64)])]),(.sl [(.int .i64)]),(.int .i64),(.sl [.bool]),(.sl [(.int .i64)]),(.sl [(.int .i64)])]),(.c (.sl [(.sl [(.int .i64)]),(.sl [(.int .i64)])]))]) (h:Am.C7 _ x):Am.aR Tryz.prog 8 (Am.kA _ x) ⟨.c .bool true,[],[],false,[]⟩:=Am.fG x.1 x.2.1
set_option maxRecDepth 100000 in
theorem lifted (os:Os) (started:os.Started) (H:Type) (enc:TypeId × Value→H) :
  ReturnsInHanded {} Tryz.checked os 8 .any (Rows.fnExactGradientsSpec.pre6 enc Tryz.prog Tryz.f8 Rows.fnExactGradientsRow.domain false) (Rows.fnExactGradientsSpec.post enc Tryz.prog Tryz.f8 false true false false):=by
 refine returnsInHanded_of_change (C:=Tryz.checked) own started (by kernel_rfl) Tryz.func8
  (ChangeSpec.witness6 (enc:=enc) (C:=Tryz.checked) false ⟨#[],#[.agg #[.slice none 0 0,.slice none 0 0,.int .i64 0,.slice none 0 0,.slice none 0 0,.slice none 0 0],.slice none 0 0],[]⟩ 8 (by kernel_rfl) (by kernel_rfl) (by kernel_rfl) (by kernel_rfl)) ?_
 intro W base args ds gs before iA hW aJ4 _
 exact Am.lQ laidOut (by kernel_rfl) (by kernel_rfl) (tb:=4) (by kernel_rfl) rfl said rfl rfl (fun ds h=>by
  match ds,h with
  | [_,_],_=>rfl) iA hW
theorem unf:(Tryz.pinned.checked.prog).unfollowed 8=false:=by kernel_rfl
theorem rec:(Rows.fnExactGradientsRow.recurses==(Tryz.pinned.checked.prog).recurses 8)=true:=by
 have h:(Tryz.pinned.checked.prog).recurses 8=false:=Am.tZ (P:=Tryz.prog) Am.lR unf
 rw [h];rfl
theorem lif:(Rows.fnExactGradientsRow.lifted==(Tryz.pinned.checked.prog).liftsFinal)=true:=by
 have h:(Tryz.pinned.checked.prog).liftsFinal=false:=Am.jW
 rw [h];rfl
theorem mak:((Tryz.pinned.checked.prog).make==some (Rows.fnExactGradientsRow.make))=true:=by
 have h:(Tryz.pinned.checked.prog).make=some .cut:=Am.p6
 rw [h];rfl
set_option maxHeartbeats 4000000 in
theorem facts:joinedFacts Tryz.pinned.checked.prog 8 Tryz.f8 Rows.fnExactGradientsSpec Rows.fnExactGradientsRow=true:=by
 unfold joinedFacts
 exact (Am.bX (Am.bX (Am.bX (Am.bX (Am.bX (Am.bX (Am.bX (Am.bX (Am.bX (Am.bX (Am.bX (Am.bX (Am.bX (Am.bX (Am.bX (Am.bX (Am.bX (Am.bX (Am.bX (Am.bX (Am.bX (Am.bX (Am.bX (Am.bX (Am.bX (Am.bX (Am.bX (Am.bX (Am.bX (Am.bX (Am.bX (by as_aux_lemma=>kernel_rfl) (by as_aux_lemma=>kernel_rfl)) (by as_aux_lemma=>kernel_rfl)) (by as_aux_lemma=>kernel_rfl)) (by as_aux_lemma=>kernel_rfl)) (by as_aux_lemma=>kernel_rfl)) (by as_aux_lemma=>kernel_rfl)) (by as_aux_lemma=>kernel_rfl)) (by as_aux_lemma=>kernel_rfl)) (by as_aux_lemma=>kernel_rfl)) (by as_aux_lemma=>kernel_rfl)) rec) (by as_aux_lemma=>kernel_rfl)) (by as_aux_lemma=>kernel_rfl)) (by as_aux_lemma=>kernel_rfl)) (by as_aux_lemma=>kernel_rfl)) (by as_aux_lemma=>kernel_rfl)) (by as_aux_lemma=>kernel_rfl)) (by as_aux_lemma=>kernel_rfl)) (by as_aux_lemma=>kernel_rfl)) (by as_aux_lemma=>kernel_rfl)) (by as_aux_lemma=>kernel_rfl)) (by as_aux_lemma=>kernel_rfl)) (by as_aux_lemma=>kernel_rfl)) (by as_aux_lemma=>kernel_rfl)) Am.lS) lif) mak) (by as_aux_lemma=>kernel_rfl)) (by as_aux_lemma=>kernel_rfl)) (by as_aux_lemma=>kernel_rfl)) (by as_aux_lemma=>kernel_rfl))
theorem over:Rows.fnExactGradientsRow.holds Tryz.pinned (OpenSpec.ofChange Rows.fnExactGradientsSpec) :=
 OpenClaim.holds_of_wide 8 Tryz.f8 rfl rfl rfl rfl rfl rfl rfl ⟨rfl,rfl,rfl,rfl,rfl⟩ rfl rfl rfl rfl rfl (by kernel_rfl) Tryz.func8 facts
  (of_decide_eq_true (by kernel_rfl)) (by unfold Func.isWrapper;first | (rw [if_pos (by decide +kernel)];kernel_rfl) | (rw [if_neg (by decide +kernel)];exact ⟨rfl,rfl⟩))
  (fun os started H enc _=>lifted os started H enc)
theorem proved:Rows.FnExactGradientsSaid :=
 over
end Go.Proofs.YtdplaepmjogjjaaGreat.fnExactGradients

