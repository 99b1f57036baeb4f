/-
  A law's row, proved of every input: the law's contract (its body walked by the abstract machine), and the reading of its arguments.
-/
import Derived.Test.YtdplaepmjogjjaaGreatRows
import Derived.Test.YtdplaepmjogjjaaGreatVIM6
namespace Go.Proofs.YtdplaepmjogjjaaGreat.fnExactRun
set_option linter.all false
open Go.ChangeShapes Go.WideShapes Go.ChangeAt Go.RowKit
theorem own:ownKnob Tryz.prog.godebug=none:=by kernel_rfl
theorem laidOut:laidOutB Tryz.prog=true:=by kernel_rfl
theorem said (x:Am.gS [(.a [(.sl [(.sl [(.int .i64)]),(.sl [(.int .i64)])]),(.sl [(.int .i64),(.sl [(.int .i64),(.int .i64)]),(.sl [(.int .i64),(.int .i64),(.int .i64),(.sl [(.int .i64)])]),.bool,.bool,(.sl [(.int .i64),(.sl [(.sl [(.int .i64)])])]),(.sl [(.sl [(.int .i64)])]),(.sl [(.int .i64)]),(.sl [(.int .i64)]),(.sl [(.int .i64)]),(.sl [(.int .i64)]),(.sl [(.sl [(.int .i64)])]),(.int .i64),.bool]),(.sl [(.int .i64),(.sl [(.int .i64),(.sl [(.int .i64)])])]),(.sl [(.int .i64),(.sl [(.int .i64),(.sl [(.int .i64)])])])]),(.c (.sl [(.int .i64)]))]) (h:Am.Au _ x):Am.aK Tryz.prog 11 (Am.jP _ x) ⟨.c .bool true,[],[],false,[]⟩:=Am.gY x.1 x.2.1
set_option maxRecDepth 100000 in
theorem lifted (os:Os) (started:os.Started) (H:Type) (enc:TypeId × Value→H) :
  ReturnsInHanded {} Tryz.checked os 11 .any (Rows.fnExactRunSpec.pre6 enc Tryz.prog Tryz.f11 Rows.fnExactRunRow.domain false) (Rows.fnExactRunSpec.post enc Tryz.prog Tryz.f11 false true false false):=by
 refine returnsInHanded_of_change (C:=Tryz.checked) own started (by kernel_rfl) Tryz.func11
  (ChangeSpec.witness6 (enc:=enc) (C:=Tryz.checked) false ⟨#[],#[.agg #[.slice none 0 0,.slice none 0 0,.slice none 0 0,.slice none 0 0],.slice none 0 0],[]⟩ 8 (by kernel_rfl) (by kernel_rfl) (by kernel_rfl) (by kernel_rfl)) ?_
 intro W base args ds gs before gO hW aDl _
 exact Am.kN laidOut (by kernel_rfl) (by kernel_rfl) (tb:=4) (by kernel_rfl) rfl said rfl rfl (fun ds h=>by
  match ds,h with
  | [_,_],_=>rfl) gO hW
theorem unf:(Tryz.pinned.checked.prog).unfollowed 11=false:=by kernel_rfl
theorem rec:(Rows.fnExactRunRow.recurses==(Tryz.pinned.checked.prog).recurses 11)=true:=by
 have h:(Tryz.pinned.checked.prog).recurses 11=false:=Am.rF (P:=Tryz.prog) Am.kR unf
 rw [h];rfl
theorem lif:(Rows.fnExactRunRow.lifted==(Tryz.pinned.checked.prog).liftsFinal)=true:=by
 have h:(Tryz.pinned.checked.prog).liftsFinal=false:=Am.ji
 rw [h];rfl
theorem mak:((Tryz.pinned.checked.prog).make==some (Rows.fnExactRunRow.make))=true:=by
 have h:(Tryz.pinned.checked.prog).make=some .cut:=Am.nJ
 rw [h];rfl
set_option maxHeartbeats 4000000 in
theorem facts:joinedFacts Tryz.pinned.checked.prog 11 Tryz.f11 Rows.fnExactRunSpec Rows.fnExactRunRow=true:=by
 unfold joinedFacts
 exact (Am.bO (Am.bO (Am.bO (Am.bO (Am.bO (Am.bO (Am.bO (Am.bO (Am.bO (Am.bO (Am.bO (Am.bO (Am.bO (Am.bO (Am.bO (Am.bO (Am.bO (Am.bO (Am.bO (Am.bO (Am.bO (Am.bO (Am.bO (Am.bO (Am.bO (Am.bO (Am.bO (Am.bO (Am.bO (Am.bO (Am.bO (by as_aux_lemma=>kernel_rfl) (by as_aux_lemma=>kernel_rfl)) (by as_aux_lemma=>kernel_rfl)) (by as_aux_lemma=>kernel_rfl)) (by as_aux_lemma=>kernel_rfl)) (by as_aux_lemma=>kernel_rfl)) (by as_aux_lemma=>kernel_rfl)) (by as_aux_lemma=>kernel_rfl)) (by as_aux_lemma=>kernel_rfl)) (by as_aux_lemma=>kernel_rfl)) (by as_aux_lemma=>kernel_rfl)) rec) (by as_aux_lemma=>kernel_rfl)) (by as_aux_lemma=>kernel_rfl)) (by as_aux_lemma=>kernel_rfl)) (by as_aux_lemma=>kernel_rfl)) (by as_aux_lemma=>kernel_rfl)) (by as_aux_lemma=>kernel_rfl)) (by as_aux_lemma=>kernel_rfl)) (by as_aux_lemma=>kernel_rfl)) (by as_aux_lemma=>kernel_rfl)) (by as_aux_lemma=>kernel_rfl)) (by as_aux_lemma=>kernel_rfl)) (by as_aux_lemma=>kernel_rfl)) (by as_aux_lemma=>kernel_rfl)) Am.kS) lif) mak) (by as_aux_lemma=>kernel_rfl)) (by as_aux_lemma=>kernel_rfl)) (by as_aux_lemma=>kernel_rfl)) (by as_aux_lemma=>kernel_rfl))
theorem over:Rows.fnExactRunRow.holds Tryz.pinned (OpenSpec.ofChange Rows.fnExactRunSpec) :=
 OpenClaim.holds_of_wide 11 Tryz.f11 rfl rfl rfl rfl rfl rfl rfl ⟨rfl,rfl,rfl,rfl,rfl⟩ rfl rfl rfl rfl rfl (by kernel_rfl) Tryz.func11 facts
  (of_decide_eq_true (by kernel_rfl)) (by unfold Func.isWrapper;first | (rw [if_pos (by decide +kernel)];kernel_rfl) | (rw [if_neg (by decide +kernel)];exact ⟨rfl,rfl⟩))
  (fun os started H enc _=>lifted os started H enc)
theorem proved:Rows.FnExactRunSaid :=
 over
end Go.Proofs.YtdplaepmjogjjaaGreat.fnExactRun

