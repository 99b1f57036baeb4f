/-
  ALL WAYS TO CUT: in order, two ways; and the best of them.
-/
import Derived.Test.YtephkbajoofeoaaKB
namespace Go.Proofs.Ytephkbajoofeoaa.Am
set_option linter.unusedSimpArgs false
set_option linter.unusedVariables false
open Go Sz

def fromOf (r : List Int) : Int := if 0 < r.length then w64 (gtd 0 r (r.length - 1) + 1) else 1
def ext (lim : Int) (r : List Int) : List (List Int) := (List.range (lim + 1 - fromOf r).toNat).map fun j : Nat => r ++ [fromOf r + (j : Int)]
def grow (n k : Int) : Nat → List (List Int)
  | 0 => [[]]
  | i + 1 => (grow n k i).flatMap (ext (n - k + ((i + 1 : Nat) : Int)))
def m_allCuts (n k : Int) : List (List Int) := if m_in n 1 8 && m_in k 1 n then grow n k (k - 1).toNat else []

/-! the next one -/
def fk (n : Int) (now : List Int) : Nat → Int
  | 0 => -1
  | k + 1 => if gtd 0 now k = w64 (w64 (n - now.length) + k) then fk n now k else k
def fill (now : List Int) (i : Nat) : Nat → List Int
  | 0 => now
  | f + 1 => fill (now.set i (w64 (gtd 0 now (i - 1) + 1))) (i + 1) f
def nextCut (n : Int) (now : List Int) : Option (List Int) :=
  if fk n now now.length < 0 then none
  else some (fill (now.set (fk n now now.length).toNat (w64 (gtd 0 now (fk n now now.length).toNat + 1))) ((fk n now now.length).toNat + 1) (now.length - ((fk n now now.length).toNat + 1)))
def seqOk (n : Int) : List (List Int) → Bool
  | [] => false
  | [x] => (nextCut n x).isNone
  | x :: y :: r => decide (nextCut n x = some y) && seqOk n (y :: r)

def growOk (n k : Int) (i : Nat) : Bool := decide ((grow n k i).length ≤ 100) && (grow n k i).all fun r => decide (r.length = i) && decide (1 ≤ fromOf r) && decide (fromOf r ≤ 9)
def cutsLaw (n k : Int) : Bool :=
  ((List.range k.toNat).all fun i => growOk n k i) && seqOk n (m_allCuts n k) && decide ((m_allCuts n k).head? = some ((List.range (k - 1).toNat).map fun i : Nat => (i : Int) + 1)) &&
    (m_allCuts n k).all fun v => cutsGo (n - 1) none v && decide ((v.length : Int) = k - 1)
def cutsLawAll : Bool := [1, 2, 3, 4, 5, 6, 7, 8].all fun n : Int => [1, 2, 3, 4, 5, 6, 7, 8].all fun k : Int => !(decide (k ≤ n)) || cutsLaw n k
set_option maxRecDepth 100000 in
theorem cutsLawAll_ok : cutsLawAll = true := by kernel_rfl
theorem cuts_law {n k : Int} (h1 : n ≤ 8) (h2 : 1 ≤ k) (h3 : k ≤ n) : cutsLaw n k = true := by
  have h := cutsLawAll_ok
  unfold cutsLawAll at h
  rw [List.all_eq_true] at h
  have h := h n (by have : n = 1 ∨ n = 2 ∨ n = 3 ∨ n = 4 ∨ n = 5 ∨ n = 6 ∨ n = 7 ∨ n = 8 := by omega
                    rcases this with rfl | rfl | rfl | rfl | rfl | rfl | rfl | rfl <;> simp)
  rw [List.all_eq_true] at h
  have h := h k (by have : k = 1 ∨ k = 2 ∨ k = 3 ∨ k = 4 ∨ k = 5 ∨ k = 6 ∨ k = 7 ∨ k = 8 := by omega
                    rcases this with rfl | rfl | rfl | rfl | rfl | rfl | rfl | rfl <;> simp)
  simpa [h3] using h

theorem ext_len {lim : Int} {r : List Int} (h1 : lim ≤ 8) (h2 : 1 ≤ fromOf r) : (ext lim r).length ≤ 8 := by
  unfold ext; simp only [List.length_map, List.length_range]; omega
theorem grow_at {n k : Int} (h1 : n ≤ 8) (h2 : 1 ≤ k) (h3 : k ≤ n) {i : Nat} (hi : i < k.toNat) : (grow n k i).length ≤ 100 ∧ ∀ r, r ∈ grow n k i → r.length = i ∧ 1 ≤ fromOf r ∧ fromOf r ≤ 9 := by
  have h := cuts_law h1 h2 h3
  simp only [cutsLaw, Bool.and_eq_true, List.all_eq_true, List.mem_range, growOk, decide_eq_true_eq] at h
  have h4 := h.1.1.1 i hi
  exact ⟨h4.1, fun r hr => ⟨(h4.2 r hr).1.1, (h4.2 r hr).1.2, (h4.2 r hr).2⟩⟩
theorem all_seq {n k : Int} (h1 : n ≤ 8) (h2 : 1 ≤ k) (h3 : k ≤ n) : seqOk n (m_allCuts n k) = true ∧ (m_allCuts n k).head? = some ((List.range (k - 1).toNat).map fun i : Nat => (i : Int) + 1) ∧
    ∀ v, v ∈ m_allCuts n k → cutsGo (n - 1) none v = true ∧ (v.length : Int) = k - 1 := by
  have h := cuts_law h1 h2 h3
  simp only [cutsLaw, Bool.and_eq_true, List.all_eq_true, decide_eq_true_eq] at h
  exact ⟨h.1.1.2, h.1.2, h.2⟩
theorem all_len {n k : Int} (h1 : n ≤ 8) (h2 : 1 ≤ k) (h3 : k ≤ n) : 1 ≤ (m_allCuts n k).length ∧ (m_allCuts n k).length ≤ 100 := by
  have h := (all_seq h1 h2 h3).2.1
  constructor
  · cases hl : m_allCuts n k with
    | nil => rw [hl] at h; simp at h
    | cons x l => simp
  · unfold m_allCuts
    split
    · exact (grow_at h1 h2 h3 (by omega)).1
    · simp

/-! the best -/
def bestGo (f : List Int → Int) : List (List Int) → List Int → List Int
  | [], b => b
  | x :: r, b => bestGo f r (if f x < f b then x else b)
def m_bestCuts (m : TModel) (k : Int) : List Int × Bool :=
  if m_modelOk m && m_in k 1 m.length then (bestGo (m_maxCost m) (m_allCuts m.length k) (gtd [] (m_allCuts m.length k) 0), true) else ([], false)

/-- b is the first of the least -/
def FirstMin (f : List Int → Int) (l : List (List Int)) (b : List Int) : Prop := ∃ pre post, l = pre ++ b :: post ∧ (∀ y, y ∈ pre → f b < f y) ∧ ∀ y, y ∈ post → f b ≤ f y
theorem best_first (f : List Int → Int) : ∀ (r l : List (List Int)) (b : List Int), FirstMin f l b → FirstMin f (l ++ r) (bestGo f r b)
  | [], l, b, h => by rw [List.append_nil]; exact h
  | x :: r, l, b, h => by
    rw [bestGo, show l ++ x :: r = (l ++ [x]) ++ r by simp]
    refine best_first f r (l ++ [x]) _ ?_
    obtain ⟨pre, post, hl, h1, h2⟩ := h
    by_cases hx : f x < f b
    · rw [if_pos hx]
      refine ⟨l, [], by simp, fun y hy => ?_, by simp⟩
      rw [hl] at hy
      rcases List.mem_append.1 hy with hy | hy
      · have := h1 y hy; omega
      · rcases List.mem_cons.1 hy with rfl | hy
        · exact hx
        · have := h2 y hy; omega
    · rw [if_neg hx]
      refine ⟨pre, post ++ [x], by rw [hl]; simp, h1, fun y hy => ?_⟩
      rcases List.mem_append.1 hy with hy | hy
      · exact h2 y hy
      · rw [List.mem_singleton.1 hy]; omega
theorem best_of {m : TModel} {k : Int} (h : (m_modelOk m && m_in k 1 m.length) = true) : FirstMin (m_maxCost m) (m_allCuts m.length k) (m_bestCuts m k).1 := by
  unfold m_bestCuts
  rw [if_pos h]
  simp only [Bool.and_eq_true, m_in_iff] at h
  have hm := mod_len h.1
  have hl := all_len (n := m.length) (k := k) (by omega) (by omega) (by omega)
  cases hA : m_allCuts m.length k with
  | nil => rw [hA] at hl; simp at hl
  | cons x r =>
    have e : bestGo (m_maxCost m) (x :: r) (gtd [] (x :: r) 0) = bestGo (m_maxCost m) r x := by
      rw [gtd_zero, bestGo, if_neg (by omega)]
    rw [e]
    exact best_first (m_maxCost m) r [x] x ⟨[], [], rfl, by simp, by simp⟩
end Go.Proofs.Ytephkbajoofeoaa.Am
