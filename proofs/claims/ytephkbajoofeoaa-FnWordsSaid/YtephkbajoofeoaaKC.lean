/-
  WORDS: what is saved is no more than what is kept in full; the peak.
-/
import Derived.Test.YtephkbajoofeoaaM9
namespace Go.Proofs.Ytephkbajoofeoaa.Am
set_option linter.unusedSimpArgs false
set_option linter.unusedVariables false
open Go Sz

theorem in_sum : ∀ (l : List TOp'), (∀ o, o ∈ l → m_opOk o = true) → 0 ≤ (l.map fun o : TOp' => o.2.1).sum ∧ (l.map fun o : TOp' => o.2.1).sum ≤ 6 * l.length
  | [], _ => by simp
  | o :: l, h => by
    have h1 := opOk_in (h o (List.mem_cons_self ..))
    have h2 := in_sum l (fun y hy => h y (List.mem_cons_of_mem _ hy))
    have e : ((o :: l).map fun o : TOp' => o.2.1).sum = o.2.1 + (l.map fun o : TOp' => o.2.1).sum := by simp
    rw [e, List.length_cons]
    omega

/-- the sizes of a stage: what is kept in full, what comes in and what goes out -/
theorem words_rng (c : TConfig) (s : Int) : 0 ≤ m_fullWords c s ∧ m_fullWords c s ≤ 54 ∧ 0 ≤ (m_sizesOf c s).1 ∧ (m_sizesOf c s).1 ≤ m_fullWords c s ∧ 0 ≤ (m_sizesOf c s).2 ∧ (m_sizesOf c s).2 ≤ m_fullWords c s := by
  obtain ⟨h1, h2, h3, h4⟩ := range_ok c.1 c.2.1 s
  unfold m_fullWords m_sizesOf
  simp only
  generalize m_stageRange c.1 c.2.1 s = r at h1 h2 h3 h4 ⊢
  by_cases h : r.1 < r.2
  · have hm := (h4.1 h).1
    simp only [m_cutsOk, Bool.and_eq_true] at hm
    have hm := hm.1
    have h8 := mod_len hm
    rw [if_pos h, if_neg (by omega)]
    have ha : r.1.toNat < c.1.length := by omega
    have hb : r.2.toNat - 1 < c.1.length := by omega
    have hA := opOk_in (mod_ops hm ha)
    have hB := opOk_in (mod_ops hm hb)
    have hs : slice c.1 r.1 r.2 = gtd dOp c.1 r.1.toNat :: (c.1.drop (r.1.toNat + 1)).take (r.2.toNat - r.1.toNat - 1) := by
      unfold slice
      rw [List.drop_eq_getElem_cons ha, show r.2.toNat - r.1.toNat = (r.2.toNat - r.1.toNat - 1) + 1 by omega, List.take_succ_cons]
      have : gtd dOp c.1 r.1.toNat = c.1[r.1.toNat] := gtd_some (List.getElem?_eq_getElem ha) _
      rw [this]; rfl
    rw [hs]
    have hR := in_sum ((c.1.drop (r.1.toNat + 1)).take (r.2.toNat - r.1.toNat - 1)) (fun o ho => mod_mem hm o (List.mem_of_mem_drop (List.mem_of_mem_take ho)))
    have hl : ((c.1.drop (r.1.toNat + 1)).take (r.2.toNat - r.1.toNat - 1)).length ≤ 7 := by simp; omega
    simp only [List.map_cons, List.sum_cons]
    rw [w64_ok (by omega) (by omega)]
    omega
  · rw [if_neg h, if_pos (by omega)]
    have hs : slice c.1 r.1 r.2 = [] := by unfold slice; rw [show r.2.toNat - r.1.toNat = 0 by omega, List.take_zero]
    rw [hs]
    have : w64 (((List.map (fun o : TOp' => o.2.1) []).sum : Int) + 0) = 0 := by simp [w64_ok]
    simp only [this]
    omega
theorem saved_rng (c : TConfig) (s : Int) : 0 ≤ m_savedWords c s ∧ m_savedWords c s ≤ m_fullWords c s := by
  have h := words_rng c s
  unfold m_savedWords
  split <;> omega

/-- what the peak is, where it is anything -/
theorem peak_is (c : TConfig) (s m : Int) : (m_peakOf c s m = 0 ∧ ¬ (m_in s 0 (m_stagesOf c - 1) = true ∧ m_in m 1 5 = true ∧ m_stagesOf c ≤ 4)) ∨
    ((m_in s 0 (m_stagesOf c - 1) = true ∧ m_in m 1 5 = true ∧ m_stagesOf c ≤ 4) ∧ m_peakOf c s m = (if c.2.2.1 = 2 then iMin m (m_stagesOf c - s) else m) * m_savedWords c s + iMax (m_sizesOf c s).1 (m_sizesOf c s).2 + if m_redoOf c s then m_fullWords c s else 0) := by
  have h := words_rng c s
  have hv := saved_rng c s
  by_cases hc : (m_in s 0 (m_stagesOf c - 1) && m_in m 1 5 && decide (m_stagesOf c ≤ 4)) = true
  · right
    have hc' := hc
    simp only [Bool.and_eq_true, decide_eq_true_eq] at hc'
    refine ⟨⟨hc'.1.1, hc'.1.2, hc'.2⟩, ?_⟩
    unfold m_peakOf
    rw [if_pos hc]
    simp only
    have h1 := m_in_iff.1 hc'.1.1
    have h2 := m_in_iff.1 hc'.1.2
    have hk : 1 ≤ (if c.2.2.1 = 2 then iMin m (m_stagesOf c - s) else m) ∧ (if c.2.2.1 = 2 then iMin m (m_stagesOf c - s) else m) ≤ 5 := by
      unfold iMin; split <;> (try split) <;> omega
    generalize (if c.2.2.1 = 2 then iMin m (m_stagesOf c - s) else m) = k at hk ⊢
    have hp : 0 ≤ k * m_savedWords c s ∧ k * m_savedWords c s ≤ 5 * 54 := ⟨Int.mul_nonneg (by omega) hv.1, Int.mul_le_mul hk.2 (by omega) hv.1 (by omega)⟩
    generalize k * m_savedWords c s = P at hp ⊢
    have hx : 0 ≤ iMax (m_sizesOf c s).1 (m_sizesOf c s).2 ∧ iMax (m_sizesOf c s).1 (m_sizesOf c s).2 ≤ 54 := by unfold iMax; split <;> omega
    generalize iMax (m_sizesOf c s).1 (m_sizesOf c s).2 = X at hx ⊢
    rw [w64_ok (x := P) (by omega) (by omega), w64_ok (x := P + X) (by omega) (by omega)]
    have hf : 0 ≤ (if m_redoOf c s = true then m_fullWords c s else 0) ∧ (if m_redoOf c s = true then m_fullWords c s else 0) ≤ 54 := by split <;> omega
    generalize (if m_redoOf c s = true then m_fullWords c s else 0) = F at hf ⊢
    rw [w64_ok (by omega) (by omega)]
  · left
    refine ⟨?_, fun h => hc (by simp [h.1, h.2.1, h.2.2])⟩
    unfold m_peakOf
    rw [if_neg hc]

theorem words_law1 (c : TConfig) (s m : Int) : 0 ≤ m_peakOf c s m ∧ (0 < m_peakOf c s m → m_savedWords c s ≤ m_peakOf c s m) := by
  have h := words_rng c s
  have hv := saved_rng c s
  rcases peak_is c s m with ⟨h0, _⟩ | ⟨⟨h1, h2, h3⟩, h0⟩
  · rw [h0]; exact ⟨Int.le_refl _, fun h => absurd h (by omega)⟩
  · rw [h0]
    have h1 := m_in_iff.1 h1
    have h2 := m_in_iff.1 h2
    have hk : 1 ≤ (if c.2.2.1 = 2 then iMin m (m_stagesOf c - s) else m) := by
      unfold iMin; split <;> (try split) <;> omega
    generalize (if c.2.2.1 = 2 then iMin m (m_stagesOf c - s) else m) = k at hk ⊢
    have hp : 1 * m_savedWords c s ≤ k * m_savedWords c s := Int.mul_le_mul_of_nonneg_right hk hv.1
    have hx : 0 ≤ iMax (m_sizesOf c s).1 (m_sizesOf c s).2 := by unfold iMax; split <;> omega
    have hf : 0 ≤ (if m_redoOf c s = true then m_fullWords c s else 0) := by split <;> omega
    generalize k * m_savedWords c s = P at hp ⊢
    omega

theorem words_law2 (c : TConfig) (s m : Int) (hn : m_peakOf c s m ≠ 0) (hm : m < 5) :
    m_peakOf c s m ≤ m_peakOf c s (m + 1) ∧ m_peakOf c s (m + 1) - m_peakOf c s m ≤ m_savedWords c s ∧ m_peakOf c s m ≤ m * m_savedWords c s + 2 * m_fullWords c s ∧ m_peakOf c s (m + 1) ≤ 1000 ∧ m * m_savedWords c s ≤ 1000 ∧ 0 ≤ m * m_savedWords c s ∧ 1 ≤ m := by
  have h := words_rng c s
  have hv := saved_rng c s
  rcases peak_is c s m with ⟨h0, _⟩ | ⟨⟨h1, h2, h3⟩, h0⟩
  · exact absurd h0 hn
  rcases peak_is c s (m + 1) with ⟨_, h5⟩ | ⟨⟨_, _, _⟩, h5⟩
  · have h2 := m_in_iff.1 h2
    exact absurd ⟨h1, m_in_iff.2 ⟨by omega, by omega⟩, h3⟩ h5
  · rw [h0, h5]
    have h1 := m_in_iff.1 h1
    have h2 := m_in_iff.1 h2
    have hk : 1 ≤ (if c.2.2.1 = 2 then iMin m (m_stagesOf c - s) else m) ∧ (if c.2.2.1 = 2 then iMin m (m_stagesOf c - s) else m) ≤ m ∧
        (if c.2.2.1 = 2 then iMin m (m_stagesOf c - s) else m) ≤ (if c.2.2.1 = 2 then iMin (m + 1) (m_stagesOf c - s) else m + 1) ∧ (if c.2.2.1 = 2 then iMin (m + 1) (m_stagesOf c - s) else m + 1) ≤ (if c.2.2.1 = 2 then iMin m (m_stagesOf c - s) else m) + 1 := by
      unfold iMin; split <;> (try split) <;> (try split) <;> omega
    generalize (if c.2.2.1 = 2 then iMin m (m_stagesOf c - s) else m) = k at hk ⊢
    generalize (if c.2.2.1 = 2 then iMin (m + 1) (m_stagesOf c - s) else m + 1) = k' at hk ⊢
    have p1 : k * m_savedWords c s ≤ k' * m_savedWords c s := Int.mul_le_mul_of_nonneg_right hk.2.2.1 hv.1
    have p2 : k' * m_savedWords c s ≤ (k + 1) * m_savedWords c s := Int.mul_le_mul_of_nonneg_right hk.2.2.2 hv.1
    have p3 : k * m_savedWords c s ≤ m * m_savedWords c s := Int.mul_le_mul_of_nonneg_right hk.2.1 hv.1
    have p4 : m * m_savedWords c s ≤ 5 * 54 := Int.mul_le_mul (by omega) (by omega) hv.1 (by omega)
    have p5 : 0 ≤ m * m_savedWords c s := Int.mul_nonneg (by omega) hv.1
    rw [Int.add_mul, Int.one_mul] at p2
    have hx : 0 ≤ iMax (m_sizesOf c s).1 (m_sizesOf c s).2 ∧ iMax (m_sizesOf c s).1 (m_sizesOf c s).2 ≤ m_fullWords c s := by unfold iMax; split <;> omega
    have hf : 0 ≤ (if m_redoOf c s = true then m_fullWords c s else 0) ∧ (if m_redoOf c s = true then m_fullWords c s else 0) ≤ m_fullWords c s := by split <;> omega
    generalize k * m_savedWords c s = P at p1 p2 p3 ⊢
    generalize k' * m_savedWords c s = P' at p1 p2 ⊢
    generalize m * m_savedWords c s = P2 at p3 p4 p5 ⊢
    omega
end Go.Proofs.Ytephkbajoofeoaa.Am
