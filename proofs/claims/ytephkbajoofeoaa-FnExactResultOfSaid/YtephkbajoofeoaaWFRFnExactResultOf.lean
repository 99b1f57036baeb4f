/-
  A law's row, proved of every input: the law's contract (its body walked by the abstract machine), and the reading of its arguments.
-/
import Derived.Test.YtephkbajoofeoaaRows
import Derived.Test.YtephkbajoofeoaaWFRk
import Derived.Test.YtephkbajoofeoaaWFLFnExactResultOf
namespace Go.Proofs.Ytephkbajoofeoaa.fnExactResultOf
set_option linter.all false
open Go.ChangeShapes Go.WideShapes Go.ChangeAt Go.RowKit
theorem own:ownKnob Try.prog.godebug=none:=by kernel_rfl
theorem laidOut:laidOutB Try.prog=true:=by kernel_rfl
theorem said (x:Am.DenL [(.a [(.sl [(.sl [(.int .i64)]),(.sl [(.int .i64)])]),(.sl [(.int .i64),(.sl [(.int .i64),(.int .i64)]),(.sl [(.int .i64),(.int .i64),(.int .i64),(.sl [(.int .i64)])]),.bool,.bool,(.sl [(.int .i64),(.sl [(.sl [(.int .i64)])])]),(.sl [(.sl [(.int .i64)])]),(.sl [(.int .i64)]),(.sl [(.int .i64)]),(.sl [(.int .i64)]),(.sl [(.int .i64)]),(.sl [(.sl [(.int .i64)])]),(.int .i64),.bool]),(.sl [(.int .i64),(.sl [(.int .i64),(.sl [(.int .i64)])])]),(.sl [(.int .i64),(.sl [(.int .i64),(.sl [(.int .i64)])])])])]) (h:Am.wfL _ x):Am.TCon Try.prog 16 (Am.valL _ x) ⟨.c .bool true,[],[],false,[]⟩:=Am.l_FnExactResultOf_h x.1 (fun s hs=>(h.1.2.1 s hs).1.2)
set_option maxRecDepth 100000 in
theorem lifted (os:Os) (started:os.Started) (H:Type) (enc:TypeId × Value→H) :
  ReturnsInHanded {} Try.checked os 16 .any (Rows.fnExactResultOfSpec.pre6 enc Try.prog Try.f16 Rows.fnExactResultOfRow.domain false) (Rows.fnExactResultOfSpec.post enc Try.prog Try.f16 false true false false):=by
 refine returnsInHanded_of_change (C:=Try.checked) own started (by kernel_rfl) Try.func16
  (ChangeSpec.witness6 (enc:=enc) (C:=Try.checked) false ⟨#[],#[.agg #[.slice none 0 0,.slice none 0 0,.slice none 0 0,.slice none 0 0]],[]⟩ 8 (by kernel_rfl) (by kernel_rfl) (by kernel_rfl) (by kernel_rfl)) ?_
 intro W base args ds gs before hval hW hcnd _
 exact Am.law_calls laidOut (by kernel_rfl) (by kernel_rfl) (tb:=4) (by kernel_rfl) rfl said rfl rfl (fun ds h=>by
  match ds,h with
  | [_],_=>rfl) hval hW
theorem unf:(Try.pinned.checked.prog).unfollowed 16=false:=by kernel_rfl
theorem rec:(Rows.fnExactResultOfRow.recurses==(Try.pinned.checked.prog).recurses 16)=true:=by
 have h:(Try.pinned.checked.prog).recurses 16=false:=Am.no_rec (P:=Try.prog) Am.ladder_ok unf
 rw [h];rfl
theorem lif:(Rows.fnExactResultOfRow.lifted==(Try.pinned.checked.prog).liftsFinal)=true:=by
 have h:(Try.pinned.checked.prog).liftsFinal=false:=Am.lifts_final
 rw [h];rfl
theorem mak:((Try.pinned.checked.prog).make==some (Rows.fnExactResultOfRow.make))=true:=by
 have h:(Try.pinned.checked.prog).make=some .cut:=Am.make_is
 rw [h];rfl
set_option maxHeartbeats 4000000 in
theorem facts:joinedFacts Try.pinned.checked.prog 16 Try.f16 Rows.fnExactResultOfSpec Rows.fnExactResultOfRow=true:=by
 unfold joinedFacts
 exact (Am.and_mk (Am.and_mk (Am.and_mk (Am.and_mk (Am.and_mk (Am.and_mk (Am.and_mk (Am.and_mk (Am.and_mk (Am.and_mk (Am.and_mk (Am.and_mk (Am.and_mk (Am.and_mk (Am.and_mk (Am.and_mk (Am.and_mk (Am.and_mk (Am.and_mk (Am.and_mk (Am.and_mk (Am.and_mk (Am.and_mk (Am.and_mk (Am.and_mk (Am.and_mk (Am.and_mk (Am.and_mk (Am.and_mk (Am.and_mk (Am.and_mk (by as_aux_lemma=>kernel_rfl) (by as_aux_lemma=>kernel_rfl)) (by as_aux_lemma=>kernel_rfl)) (by as_aux_lemma=>kernel_rfl)) (by as_aux_lemma=>kernel_rfl)) (by as_aux_lemma=>kernel_rfl)) (by as_aux_lemma=>kernel_rfl)) (by as_aux_lemma=>kernel_rfl)) (by as_aux_lemma=>kernel_rfl)) (by as_aux_lemma=>kernel_rfl)) (by as_aux_lemma=>kernel_rfl)) rec) (by as_aux_lemma=>kernel_rfl)) (by as_aux_lemma=>kernel_rfl)) (by as_aux_lemma=>kernel_rfl)) (by as_aux_lemma=>kernel_rfl)) (by as_aux_lemma=>kernel_rfl)) (by as_aux_lemma=>kernel_rfl)) (by as_aux_lemma=>kernel_rfl)) (by as_aux_lemma=>kernel_rfl)) (by as_aux_lemma=>kernel_rfl)) (by as_aux_lemma=>kernel_rfl)) (by as_aux_lemma=>kernel_rfl)) (by as_aux_lemma=>kernel_rfl)) (by as_aux_lemma=>kernel_rfl)) Am.may_enter) lif) mak) (by as_aux_lemma=>kernel_rfl)) (by as_aux_lemma=>kernel_rfl)) (by as_aux_lemma=>kernel_rfl)) (by as_aux_lemma=>kernel_rfl))
theorem over:Rows.fnExactResultOfRow.holds Try.pinned (OpenSpec.ofChange Rows.fnExactResultOfSpec) :=
 OpenClaim.holds_of_wide 16 Try.f16 rfl rfl rfl rfl rfl rfl rfl ⟨rfl,rfl,rfl,rfl,rfl⟩ rfl rfl rfl rfl rfl (by kernel_rfl) Try.func16 facts
  (of_decide_eq_true (by kernel_rfl)) (by unfold Func.isWrapper;first | (rw [if_pos (by decide +kernel)];kernel_rfl) | (rw [if_neg (by decide +kernel)];exact ⟨rfl,rfl⟩))
  (fun os started H enc _=>lifted os started H enc)
theorem proved:Rows.FnExactResultOfSaid :=
 over
end Go.Proofs.Ytephkbajoofeoaa.fnExactResultOf

