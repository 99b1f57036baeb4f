/-
  CUTS: what stages cost, all in all.
-/
import Derived.Test.YtephkbajoofeoaaK4
import Derived.Test.YtephkbajoofeoaaM9
namespace Go.Proofs.Ytephkbajoofeoaa.Am
set_option linter.unusedSimpArgs false
set_option linter.unusedVariables false
open Go Sz

def costOf (l : List TOp') : Int := (l.map m_opCost).sum
theorem opCost_rng (o : TOp') : 0 ≤ m_opCost o ∧ m_opCost o ≤ 36 := by
  unfold m_opCost
  split
  · rename_i h
    simp only [m_opOk, Bool.and_eq_true, m_in_iff] at h
    obtain ⟨⟨⟨⟨⟨h1, h2⟩, h3⟩, h4⟩, h5⟩, h6⟩ := h
    split
    · have h7 : o.2.1 * o.2.2.1 ≤ 6 * 6 := Int.mul_le_mul h2.2 h3.2 (by omega) (by omega)
      have h8 : 0 ≤ o.2.1 * o.2.2.1 := Int.mul_nonneg (by omega) (by omega)
      omega
    · split <;> omega
  · omega
theorem costOf_nil : costOf [] = 0 := rfl
theorem costOf_app (a b : List TOp') : costOf (a ++ b) = costOf a + costOf b := by simp [costOf, List.sum_append]
theorem costOf_rng : ∀ (l : List TOp'), 0 ≤ costOf l ∧ costOf l ≤ 36 * l.length
  | [] => by simp [costOf]
  | o :: l => by
    have h1 := opCost_rng o
    have h2 := costOf_rng l
    simp only [costOf, List.map_cons, List.sum_cons, List.length_cons] at h2 ⊢
    omega
theorem cost_snoc {m : TModel} {k : Nat} (hk : k < m.length) : costOf (m.take (k + 1)) = costOf (m.take k) + m_opCost (gtd dOp m k) := by
  rw [List.take_add_one, gtd_get hk dOp]
  simp [costOf_app, costOf]
theorem maxGo_ge {f : Nat → Int} {x : Int} : ∀ {n k : Nat}, k < n → f k ≤ maxGo f n x
  | n + 1, k, h => by
    simp only [maxGo]
    by_cases hk : k = n
    · subst hk; split <;> omega
    · have := maxGo_ge (f := f) (x := x) (show k < n by omega)
      split <;> omega
theorem maxGo_le {f : Nat → Int} {x B : Int} (hx : x ≤ B) : ∀ {n : Nat}, (∀ k, k < n → f k ≤ B) → maxGo f n x ≤ B
  | 0, _ => hx
  | n + 1, h => by
    simp only [maxGo]
    have h1 := maxGo_le hx (f := f) (n := n) (fun k hk => h k (by omega))
    have h2 := h n (by omega)
    split <;> omega
theorem maxGo_x {f : Nat → Int} {x : Int} : ∀ {n : Nat}, x ≤ maxGo f n x
  | 0 => Int.le_refl _
  | n + 1 => by
    simp only [maxGo]
    have h1 := maxGo_x (f := f) (x := x) (n := n)
    split <;> omega
section
variable {m : TModel} {cuts : List Int} (hc : m_cutsOk m cuts = true)
include hc
theorem cut_len : cuts.length + 1 ≤ m.length ∧ m.length ≤ 8 := by
  have h := hc
  simp only [m_cutsOk, Bool.and_eq_true, m_modelOk, m_in_iff] at h
  obtain ⟨⟨h1, _⟩, h2⟩ := h
  refine ⟨?_, by omega⟩
  by_cases h0 : cuts.length = 0
  · omega
  · have h3 := cuts_lb h2 (cuts.length - 1) (gtd 0 cuts (cuts.length - 1)) (gtd_get (by omega) 0)
    simp only [Option.getD_none] at h3
    omega
theorem cost_stage {s : Nat} (hs : s ≤ cuts.length) : m_stageCost m cuts (s : Int) = costOf (opsOf m cuts s) := by
  unfold m_stageCost
  simp only
  rw [slice_opsOf hc hs]
  have h1 := costOf_rng (opsOf m cuts s)
  have h2 := ops_len hc hs
  have h3 := cutAt_le hc (s := s + 1)
  have h4 := cut_len hc
  unfold costOf at h1 ⊢
  exact w64_ok (by omega) (by omega)
theorem cost_rng {s : Nat} (hs : s ≤ cuts.length) : 0 ≤ m_stageCost m cuts (s : Int) ∧ m_stageCost m cuts (s : Int) ≤ 288 := by
  rw [cost_stage hc hs]
  have h1 := costOf_rng (opsOf m cuts s)
  have h2 := ops_len hc hs
  have h3 := cutAt_le hc (s := s + 1)
  have h4 := cut_len hc
  omega
theorem cost_cut {s : Nat} (hs : s ≤ cuts.length) : costOf (m.take (cutAt m cuts (s + 1))) = costOf (m.take (cutAt m cuts s)) + m_stageCost m cuts (s : Int) := by
  rw [take_cut hc hs, costOf_app, cost_stage hc hs]
theorem max_ge {s : Nat} (hs : s ≤ cuts.length) : m_stageCost m cuts (s : Int) ≤ m_maxCost m cuts := by
  unfold m_maxCost
  rw [if_pos hc]
  exact maxGo_ge (f := fun s : Nat => m_stageCost m cuts (s : Int)) (show s < cuts.length + 1 by omega)
theorem max_rng : 0 ≤ m_maxCost m cuts ∧ m_maxCost m cuts ≤ 288 := by
  unfold m_maxCost
  rw [if_pos hc]
  exact ⟨maxGo_x, maxGo_le (by omega) (fun k hk => (cost_rng hc (show k ≤ cuts.length by omega)).2)⟩
theorem cost_all : ∀ {s : Nat}, s ≤ cuts.length + 1 → costOf (m.take (cutAt m cuts s)) ≤ s * m_maxCost m cuts
  | 0, _ => by simp [cutAt, costOf]
  | s + 1, hs => by
    have h1 := cost_all (s := s) (by omega)
    have h2 := max_ge hc (s := s) (by omega)
    rw [cost_cut hc (by omega)]
    have : ((s + 1 : Nat) : Int) * m_maxCost m cuts = s * m_maxCost m cuts + m_maxCost m cuts := by
      rw [Int.natCast_add, Int.add_mul]; simp
    omega
end
end Go.Proofs.Ytephkbajoofeoaa.Am
