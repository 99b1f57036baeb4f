/-
  TABLES OF CONTRACTS, AND HOW THEY ARE JOINED.
-/
import Derived.Test.YtephkbajoofeoaaAmR
namespace Go.Proofs.Ytephkbajoofeoaa.Am
set_option linter.unusedSimpArgs false
set_option linter.unusedVariables false
open Go Go.RowKit

/-- A table of one function. -/
def one (f : FuncId) (dec : List AV → Option Res) : Tab := ⟨fun _ => [], fun g xs => if g = f then dec xs else none⟩

theorem ok_none {P : Program} : TabOk P noTab := fun f args r h => by simp [noTab] at h

theorem ok_one {P : Program} {f : FuncId} {dec : List AV → Option Res} (h : ∀ args r, dec args = some r → Con P f args r) : TabOk P (one f dec) := fun g args r hr => by
  simp only [one] at hr
  split at hr
  · rename_i hg; subst hg; exact h args r hr
  · cases hr

/-- Nothing but a plain value comes back: what was handed over is not held by it. -/
theorem Con.plain {P : Program} {f : FuncId} {args : List AV} {x : Value} (h : Con P f args ⟨.c (.v x), [], [], true, []⟩) : Con P f args ⟨.c (.v x), [], [], false, []⟩ := by
  intro w F0 vs lb gb hA hF
  refine (h w F0 vs lb gb hA hF).mono ?_
  rintro e w' ⟨v, ι, rfl, Q⟩
  refine ⟨v, ι, rfl, ?_⟩
  have hlb : lb = [] := List.eq_nil_of_length_eq_zero Q.bxl.symm
  subst hlb
  have hgb : gb = [] := List.eq_nil_of_length_eq_zero Q.gvl.symm
  subst hgb
  have hv := Q.val
  have hv' : VR w' (FzC w w' F0 [] ⟨.c (.v x), [], [], false, []⟩ ι) ι (Res.h ⟨.c (.v x), [], [], false, []⟩) v (.c (.v x)) := by
    cases hv with
    | c v d hr => cases hr with
      | v x h1 => exact .c _ _ (.v _ h1)
  exact ⟨Q.os, Q.tape, Q.output, Q.size, Q.block, hv', fun i => by simp only [Res.h, List.getElem?_nil, Option.getD_none]; exact .none, Q.inj, Q.rng, Q.live, rfl, by simp, rfl, by simp⟩

/-- What is known of a function ahead: its code, its results, its frame's size. -/
def compF (P : Program) (f : FuncId) : Option (ACode × List ARv × Nat) :=
  match P.funcs[f]? with
  | some fn => match fn.body with
    | some c => match comp P fn.ntmps c, cRvs P fn.results.toList with
      | some ac, some rs => some (ac, rs, fn.ntmps)
      | _, _ => none
    | none => none
  | none => none

theorem con_fn {P : Program} {Γ : Tab} {f : FuncId} {ac : ACode} {rs : List ARv} {n : Nat} {xs : List AV} {r : Res} (hm : P.follows .mixedOrders = true) (hΓ : TabOk P Γ) (hs : compF P f = some (ac, rs, n)) (hN : xs.length ≤ n)
    (h : awp Γ ac (Ends (layB xs).length (layG xs).length rs r) (start xs)) : Con P f xs r := by
  unfold compF at hs
  split at hs
  rotate_left
  · cases hs
  rename_i fn hf
  split at hs
  rotate_left
  · cases hs
  rename_i c hb
  split at hs
  rotate_left
  · cases hs
  rename_i ac' rs' hc hrs
  cases hs
  exact con_of_awp hm hΓ hf hb hc hrs hN h

theorem ends0 {rs : List ARv} {r : Res} {e : AEx} {σ : St} {v : AV} (he : e.over) (hv : rvGet σ rs = some [v]) (hr : r = ⟨v.rn [], [], [], true, []⟩) : Ends 0 0 rs r e σ :=
  ⟨he, [], [v], hv, List.nodup_nil, by simp, by subst hr; rfl⟩

end Go.Proofs.Ytephkbajoofeoaa.Am
