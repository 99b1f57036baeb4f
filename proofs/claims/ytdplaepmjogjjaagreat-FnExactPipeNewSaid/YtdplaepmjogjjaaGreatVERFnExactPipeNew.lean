/-
  A law's row, proved of every input: the law's contract (its body walked by the abstract machine), and the reading of its arguments.
-/
import Derived.Test.YtdplaepmjogjjaaGreatRows
import Derived.Test.YtdplaepmjogjjaaGreatVERk
import Derived.Test.YtdplaepmjogjjaaGreatVELFnExactPipeNew
namespace Go.Proofs.YtdplaepmjogjjaaGreat.fnExactPipeNew
set_option linter.all false
open Go.ChangeShapes Go.WideShapes Go.ChangeAt Go.RowKit
theorem own:ownKnob Tryz.prog.godebug=none:=by kernel_rfl
theorem laidOut:laidOutB Tryz.prog=true:=by kernel_rfl
theorem said (x:Am.DenL [(.a [(.sl [(.int .i64),(.int .i64),(.int .i64),(.sl [(.int .i64)])]),(.sl [(.int .i64)]),(.int .i64),(.sl [.bool]),(.sl [(.int .i64)]),(.sl [(.int .i64)])]),(.c (.sl [(.sl [(.int .i64)]),(.sl [(.int .i64)])]))]) (h:Am.wfL _ x):Am.TCon Tryz.prog 7 (Am.valL _ x) ⟨.c .bool true,[],[],false,[]⟩:=Am.l_FnExactPipeNew_h x.1 x.2.1
set_option maxRecDepth 100000 in
theorem lifted (os:Os) (started:os.Started) (H:Type) (enc:TypeId × Value→H) :
  ReturnsInHanded {} Tryz.checked os 7 .any (Rows.fnExactPipeNewSpec.pre6 enc Tryz.prog Tryz.f7 Rows.fnExactPipeNewRow.domain false) (Rows.fnExactPipeNewSpec.post enc Tryz.prog Tryz.f7 false true false false):=by
 refine returnsInHanded_of_change (C:=Tryz.checked) own started (by kernel_rfl) Tryz.func7
  (ChangeSpec.witness6 (enc:=enc) (C:=Tryz.checked) false ⟨#[],#[.agg #[.slice none 0 0,.slice none 0 0,.int .i64 0,.slice none 0 0,.slice none 0 0,.slice none 0 0],.slice none 0 0],[]⟩ 8 (by kernel_rfl) (by kernel_rfl) (by kernel_rfl) (by kernel_rfl)) ?_
 intro W base args ds gs before hval hW hcnd _
 exact Am.law_calls laidOut (by kernel_rfl) (by kernel_rfl) (tb:=4) (by kernel_rfl) rfl said rfl rfl (fun ds h=>by
  match ds,h with
  | [_,_],_=>rfl) hval hW
theorem unf:(Tryz.pinned.checked.prog).unfollowed 7=false:=by kernel_rfl
theorem rec:(Rows.fnExactPipeNewRow.recurses==(Tryz.pinned.checked.prog).recurses 7)=true:=by
 have h:(Tryz.pinned.checked.prog).recurses 7=false:=Am.no_rec (P:=Tryz.prog) Am.ladder_ok unf
 rw [h];rfl
theorem lif:(Rows.fnExactPipeNewRow.lifted==(Tryz.pinned.checked.prog).liftsFinal)=true:=by
 have h:(Tryz.pinned.checked.prog).liftsFinal=false:=Am.lifts_final
 rw [h];rfl
theorem mak:((Tryz.pinned.checked.prog).make==some (Rows.fnExactPipeNewRow.make))=true:=by
 have h:(Tryz.pinned.checked.prog).make=some .cut:=Am.make_is
 rw [h];rfl
set_option maxHeartbeats 4000000 in
theorem facts:joinedFacts Tryz.pinned.checked.prog 7 Tryz.f7 Rows.fnExactPipeNewSpec Rows.fnExactPipeNewRow=true:=by
 unfold joinedFacts
 exact (Am.and_mk (Am.and_mk (Am.and_mk (Am.and_mk (Am.and_mk (Am.and_mk (Am.and_mk (Am.and_mk (Am.and_mk (Am.and_mk (Am.and_mk (Am.and_mk (Am.and_mk (Am.and_mk (Am.and_mk (Am.and_mk (Am.and_mk (Am.and_mk (Am.and_mk (Am.and_mk (Am.and_mk (Am.and_mk (Am.and_mk (Am.and_mk (Am.and_mk (Am.and_mk (Am.and_mk (Am.and_mk (Am.and_mk (Am.and_mk (Am.and_mk (by as_aux_lemma=>kernel_rfl) (by as_aux_lemma=>kernel_rfl)) (by as_aux_lemma=>kernel_rfl)) (by as_aux_lemma=>kernel_rfl)) (by as_aux_lemma=>kernel_rfl)) (by as_aux_lemma=>kernel_rfl)) (by as_aux_lemma=>kernel_rfl)) (by as_aux_lemma=>kernel_rfl)) (by as_aux_lemma=>kernel_rfl)) (by as_aux_lemma=>kernel_rfl)) (by as_aux_lemma=>kernel_rfl)) rec) (by as_aux_lemma=>kernel_rfl)) (by as_aux_lemma=>kernel_rfl)) (by as_aux_lemma=>kernel_rfl)) (by as_aux_lemma=>kernel_rfl)) (by as_aux_lemma=>kernel_rfl)) (by as_aux_lemma=>kernel_rfl)) (by as_aux_lemma=>kernel_rfl)) (by as_aux_lemma=>kernel_rfl)) (by as_aux_lemma=>kernel_rfl)) (by as_aux_lemma=>kernel_rfl)) (by as_aux_lemma=>kernel_rfl)) (by as_aux_lemma=>kernel_rfl)) (by as_aux_lemma=>kernel_rfl)) Am.may_enter) lif) mak) (by as_aux_lemma=>kernel_rfl)) (by as_aux_lemma=>kernel_rfl)) (by as_aux_lemma=>kernel_rfl)) (by as_aux_lemma=>kernel_rfl))
theorem over:Rows.fnExactPipeNewRow.holds Tryz.pinned (OpenSpec.ofChange Rows.fnExactPipeNewSpec) :=
 OpenClaim.holds_of_wide 7 Tryz.f7 rfl rfl rfl rfl rfl rfl rfl ⟨rfl,rfl,rfl,rfl,rfl⟩ rfl rfl rfl rfl rfl (by kernel_rfl) Tryz.func7 facts
  (of_decide_eq_true (by kernel_rfl)) (by unfold Func.isWrapper;first | (rw [if_pos (by decide +kernel)];kernel_rfl) | (rw [if_neg (by decide +kernel)];exact ⟨rfl,rfl⟩))
  (fun os started H enc _=>lifted os started H enc)
theorem proved:Rows.FnExactPipeNewSaid :=
 over
end Go.Proofs.YtdplaepmjogjjaaGreat.fnExactPipeNew

