/-
  FROM A CONTRACT OF A LAW TO THE ROW's STEP.
-/
import Derived.Test.YtephkbajoofeoaaAmS
import Derived.ProofKit
import Derived.OpenShut
namespace Go.Proofs.Ytephkbajoofeoaa.Am
set_option linter.unusedSimpArgs false
set_option linter.unusedVariables false
open Go Go.RowKit Go.ChangeShapes Go.WideShapes Go.ChangeAt

/-- Nothing that was there is changed: then each argument reads as it did. -/
theorem post_of_below {H : Type} {enc : TypeId × Value → H} {P : Program} {f : Func} {s : ChangeSpec} {apart fresh handsOn again : Bool} {W W' : World} {args : Array Value} {v : Value} {ds gs : List (DataW H)} {before pa pv : List MemPlace}
    (hW : DataW.Whole enc P f.params.toList s.vars apart W args.toList ds gs before)
    (hres : ∀ (b : Nat) (sp : Nat → Bool) (hd : Bool), DataW.TrodAll enc P W' b sp hd f.resultTypes.toList (v.resultList f.resultTypes.size) (s.fn H (ds ++ gs)).results [])
    (hargs : ∀ sp : Nat → Bool, (∀ p ∈ before, sp p.block = true) → DataW.TrodAll enc P W' 0 sp true f.params.toList args.toList (s.fn H (ds ++ gs)).args pa)
    (hvars : ∀ sp : Nat → Bool, (∀ p ∈ before, sp p.block = true) → DataW.TrodVars enc P W' sp s.vars (s.fn H (ds ++ gs)).vars pv)
    (hps : before = pa ++ pv) (hB : Below W.heap.size W W')
    (hok : ∀ (j : Nat) (t : TypeId) (r : Value), f.resultTypes[j]? = some t → (v.resultList f.resultTypes.size)[j]? = some r → Value.okWide P W' .any 0 t r) :
    s.post enc P f apart fresh handsOn again W args v W' := by
  have hlt : ∀ p ∈ before, p.block < W.heap.size := fun p hp => hW.lt p hp
  have hold : ∀ p ∈ before, (fun b => decide (b < W.heap.size)) p.block = true := fun p hp => by simpa using hlt p hp
  subst hps
  refine ⟨ds, gs, pa ++ pv, [], pa, pv, hW, hres _ _ _, hargs _ hold, hvars _ hold, hB.frame _, fun _ => ?_⟩
  obtain ⟨_, _, _, _, _, hz, hn⟩ := hW
  refine ⟨hok, _, _, ([] ++ pa) ++ pv, ⟨[] ++ pa, pv, trodAll_append (hargs _ (fun _ _ => rfl)) (hres _ _ _), hvars _ (fun _ _ => rfl), rfl, ?_, ?_⟩, ?_⟩
  · intro b off hp
    have hp' : MemPlace.cell b off ∈ pa ++ pv := by simpa using hp
    have h1 := hlt _ hp'
    rw [hB.frozen (by exact h1)]
    exact hz b off hp'
  · intro ha
    simpa using hn ha
  · intro p hp _
    simpa using hp

/-- A contract whose result is a plain value, as the kit speaks of a call. -/
theorem calls_of_con {P : Program} {f : FuncId} {vs : Array Value} {xs : List AV} {x : Value} {al : Bool} (h : Con P f xs ⟨.c (.v x), [], [], al, []⟩) {w : World} {F0 : Nat → Prop} (hA : Args w F0 vs.toList xs [] []) (hF : ∀ b, F0 b → b < w.heap.size) :
    Calls P f vs w fun e w' => e = .returned x ∧ Below w.heap.size w w' := by
  refine (h w F0 vs [] [] hA (fun b hb => ⟨hF b hb, by simp, fun ⟨_, hm⟩ => by simp at hm⟩)).mono ?_
  rintro e w' ⟨v, ι, rfl, Q⟩
  have hv := Q.val.int
  subst hv
  exact ⟨rfl, Q.os, Q.tape, Q.output, Q.size, fun k hk => Q.block k hk (by simp) (fun ⟨_, hm⟩ => by simp at hm)⟩

theorem args_v {w : World} {F : Nat → Prop} {v : Value} {vs : List Value} {xs : List AV} {lb : List Nat} {gb : List (Option Nat × Blk)} (h1 : v.oneCell' = true) (hr : Args w F vs xs lb gb) : Args w F (v :: vs) (.c (.v v) :: xs) lb gb :=
  .dat v _ vs xs lb gb (vr_v h1) hr rfl

end Go.Proofs.Ytephkbajoofeoaa.Am
