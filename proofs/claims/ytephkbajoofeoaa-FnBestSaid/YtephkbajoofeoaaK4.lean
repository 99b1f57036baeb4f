/-
  A MODEL CUT IN STAGES: what goes into each stage, and what goes back; what one alone makes is what the stages make, one behind the other.
-/
import Derived.Test.YtephkbajoofeoaaK3
namespace Go.Proofs.Ytephkbajoofeoaa.Am
set_option linter.unusedSimpArgs false
set_option linter.unusedVariables false
open Go Sz

/-- where stage s begins (behind the last one: the end) -/
def cutAt (m : TModel) (cuts : List Int) (s : Nat) : Nat := if s = 0 then 0 else if s ≤ cuts.length then (gtd 0 cuts (s - 1)).toNat else m.length
def opsOf (m : TModel) (cuts : List Int) (s : Nat) : List TOp' := (m.drop (cutAt m cuts s)).take (cutAt m cuts (s + 1) - cutAt m cuts s)

section
variable {m : TModel} {cuts : List Int} (hc : m_cutsOk m cuts = true)
include hc

theorem cutAt_lt {s : Nat} (hs : s ≤ cuts.length) : cutAt m cuts s < cutAt m cuts (s + 1) := by
  have hl := cuts_len hc
  have hg : cutsGo (m.length - 1) none cuts = true := by have := hc; simp only [m_cutsOk, Bool.and_eq_true] at this; exact this.2
  have h1 : ∀ k : Nat, k < cuts.length → 1 ≤ gtd 0 cuts k ∧ gtd 0 cuts k ≤ (m.length : Int) - 1 := fun k hk => by
    have := cuts_lb hg k _ (gtd_get hk 0); omega
  have h2 : ∀ k : Nat, k + 1 < cuts.length → gtd 0 cuts k < gtd 0 cuts (k + 1) := fun k hk => cuts_rise hg k _ _ (gtd_get (by omega) 0) (gtd_get hk 0)
  unfold cutAt
  rw [if_neg (Nat.succ_ne_zero s)]
  by_cases h0 : s = 0
  · subst h0
    rw [if_pos rfl]
    split
    · have := h1 0 (by omega); simp; omega
    · omega
  · rw [if_neg h0, if_pos hs]
    have h3 := h1 (s - 1) (by omega)
    split
    · have h4 := h2 (s - 1) (by omega)
      rw [show s - 1 + 1 = s by omega] at h4
      rw [show s + 1 - 1 = s by omega]
      omega
    · omega
theorem cutAt_le {s : Nat} : cutAt m cuts s ≤ m.length := by
  have hl := cuts_len hc
  have hg : cutsGo (m.length - 1) none cuts = true := by have := hc; simp only [m_cutsOk, Bool.and_eq_true] at this; exact this.2
  unfold cutAt
  split
  · omega
  · split
    · have := cuts_lb hg (s - 1) _ (gtd_get (by omega) 0); omega
    · omega
theorem cutAt_end : cutAt m cuts (cuts.length + 1) = m.length := by have _ := hc; unfold cutAt; rw [if_neg (by omega), if_neg (by omega)]
theorem range_cutAt {s : Nat} (hs : s ≤ cuts.length) : m_stageRange m cuts (s : Int) = ((cutAt m cuts s : Int), (cutAt m cuts (s + 1) : Int)) := by
  have hl := cuts_len hc
  have hg : cutsGo (m.length - 1) none cuts = true := by have := hc; simp only [m_cutsOk, Bool.and_eq_true] at this; exact this.2
  have h1 : ∀ k : Nat, k < cuts.length → 1 ≤ gtd 0 cuts k ∧ gtd 0 cuts k ≤ (m.length : Int) - 1 := fun k hk => by
    have := cuts_lb hg k _ (gtd_get hk 0); omega
  unfold m_stageRange
  rw [if_pos (by rw [hc, Bool.true_and, m_in_iff]; omega)]
  unfold cutAt
  refine Prod.ext ?_ ?_
  · dsimp only
    by_cases h0 : s = 0
    · subst h0; simp
    · rw [if_pos (by omega), if_neg h0, if_pos hs, Int.toNat_natCast]
      have := h1 (s - 1) (by omega); omega
  · dsimp only
    rw [if_neg (Nat.succ_ne_zero s)]
    by_cases h2 : s < cuts.length
    · rw [if_pos (by omega), if_pos (by omega), Int.toNat_natCast, show s + 1 - 1 = s by omega]
      have := h1 s h2; omega
    · rw [if_neg (by omega), if_neg (by omega)]
theorem slice_opsOf {s : Nat} (hs : s ≤ cuts.length) : slice m (m_stageRange m cuts (s : Int)).1 (m_stageRange m cuts (s : Int)).2 = opsOf m cuts s := by
  rw [range_cutAt hc hs]; simp [slice, opsOf]
theorem ops_len {s : Nat} (hs : s ≤ cuts.length) : (opsOf m cuts s).length = cutAt m cuts (s + 1) - cutAt m cuts s := by
  have := cutAt_le hc (s := s + 1)
  have := cutAt_lt hc hs
  unfold opsOf; simp; omega
theorem ops_pos {s : Nat} (hs : s ≤ cuts.length) : 1 ≤ (opsOf m cuts s).length ∧ (opsOf m cuts s).length ≤ 8 := by
  rw [ops_len hc hs]
  have := cutAt_le hc (s := s + 1)
  have := cutAt_lt hc hs
  have := (cuts_len hc).2.1
  omega
theorem take_cut {s : Nat} (hs : s ≤ cuts.length) : m.take (cutAt m cuts (s + 1)) = m.take (cutAt m cuts s) ++ opsOf m cuts s := by
  have := cutAt_lt hc hs
  unfold opsOf
  rw [← List.take_add, show cutAt m cuts s + (cutAt m cuts (s + 1) - cutAt m cuts s) = cutAt m cuts (s + 1) by omega]
theorem drop_cut {s : Nat} (hs : s ≤ cuts.length) : m.drop (cutAt m cuts s) = opsOf m cuts s ++ m.drop (cutAt m cuts (s + 1)) := by
  have := cutAt_lt hc hs
  unfold opsOf
  have h := List.take_append_drop (cutAt m cuts (s + 1) - cutAt m cuts s) (m.drop (cutAt m cuts s))
  rw [List.drop_drop, show cutAt m cuts s + (cutAt m cuts (s + 1) - cutAt m cuts s) = cutAt m cuts (s + 1) by omega] at h
  exact h.symm
end

/-! what goes through -/
/-- what goes into stage s -/
def inp (m : TModel) (cuts : List Int) (x : List Int) (s : Nat) : List Int := outOf (m.take (cutAt m cuts s)) x
def rowsOf (m : TModel) (cuts : List Int) (x : List Int) (s : Nat) : List (List Int) := (inputsGo (opsOf m cuts s) (inp m cuts x s)).1
def fsat (m : TModel) (cuts : List Int) (x : List Int) (s : Nat) : Bool := (inputsGo (opsOf m cuts s) (inp m cuts x s)).2
/-- what comes back out of stage s, behind the last one: the difference -/
def backAll (m : TModel) (cuts : List Int) (p : TPair) (s : Nat) : List (List Int) × List Int × Bool :=
  m_back (m.drop (cutAt m cuts s)) (inputsGo (m.drop (cutAt m cuts s)) (inp m cuts p.1 s)).1 (m_vecSub (outOf m p.1) p.2).1
def dOut (m : TModel) (cuts : List Int) (p : TPair) (s : Nat) : List Int := (backAll m cuts p s).2.1
def stBack (m : TModel) (cuts : List Int) (p : TPair) (s : Nat) : List (List Int) × List Int × Bool := m_back (opsOf m cuts s) (rowsOf m cuts p.1 s) (dOut m cuts p (s + 1))

section
variable {m : TModel} {cuts : List Int} (hc : m_cutsOk m cuts = true)
include hc
theorem inp_zero (x : List Int) : inp m cuts x 0 = x := by have _ := hc; unfold inp cutAt; simp [outOf_nil]
theorem inp_end (x : List Int) : inp m cuts x (cuts.length + 1) = outOf m x := by unfold inp; rw [cutAt_end hc, List.take_length]
theorem inp_succ {s : Nat} (hs : s ≤ cuts.length) (x : List Int) : inp m cuts x (s + 1) = outOf (opsOf m cuts s) (inp m cuts x s) := by
  unfold inp; rw [take_cut hc hs, outOf_append]
theorem back_split {s : Nat} (hs : s ≤ cuts.length) (p : TPair) :
    backAll m cuts p s = ((stBack m cuts p s).1 ++ (backAll m cuts p (s + 1)).1, (stBack m cuts p s).2.1, (stBack m cuts p s).2.2 || (backAll m cuts p (s + 1)).2.2) := by
  unfold stBack rowsOf dOut
  have e := inp_succ hc hs p.1
  conv => lhs; unfold backAll
  rw [drop_cut hc hs, back_cut]
  unfold backAll
  rw [e]
theorem dOut_st {s : Nat} (hs : s ≤ cuts.length) (p : TPair) : dOut m cuts p s = (stBack m cuts p s).2.1 := by unfold dOut; rw [back_split hc hs]
theorem dOut_end (p : TPair) : dOut m cuts p (cuts.length + 1) = (m_vecSub (outOf m p.1) p.2).1 := by
  unfold dOut backAll
  rw [cutAt_end hc, List.drop_length]
  simp [m_back]
/-- all gradients, one stage behind the other -/
theorem back_flat (p : TPair) : ∀ (k s : Nat), s + k = cuts.length + 1 →
    (backAll m cuts p s).1 = (List.range' s k).flatMap (fun j => (stBack m cuts p j).1) ∧ (backAll m cuts p s).2.2 = (List.range' s k).any (fun j => (stBack m cuts p j).2.2)
  | 0, s, h => by
    have : s = cuts.length + 1 := by omega
    subst this
    unfold backAll
    rw [cutAt_end hc, List.drop_length]
    simp [m_back]
  | k + 1, s, h => by
    have ih := back_flat p k (s + 1) (by omega)
    rw [back_split hc (by omega)]
    simp only [List.range'_succ, List.flatMap_cons, List.any_cons, ih.1, ih.2, and_self]
theorem fsat_flat (x : List Int) : ∀ (k s : Nat), s + k = cuts.length + 1 → (inputsGo (m.drop (cutAt m cuts s)) (inp m cuts x s)).2 = (List.range' s k).any (fun j => fsat m cuts x j)
  | 0, s, h => by
    have : s = cuts.length + 1 := by omega
    subst this
    rw [cutAt_end hc, List.drop_length]
    rfl
  | k + 1, s, h => by
    have ih := fsat_flat x k (s + 1) (by omega)
    rw [drop_cut hc (by omega), inputsGo_append]
    simp only [List.range'_succ, List.any_cons]
    rw [← inp_succ hc (by omega), ih]
    rfl
end
end Go.Proofs.Ytephkbajoofeoaa.Am
