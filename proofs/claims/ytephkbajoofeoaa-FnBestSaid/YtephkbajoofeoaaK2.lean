/-
  WHAT COMES OUT OF OPERATIONS: sizes, ranges, chains cut in two.
-/
import Derived.Test.YtephkbajoofeoaaM4
namespace Go.Proofs.Ytephkbajoofeoaa.Am
set_option linter.unusedSimpArgs false
set_option linter.unusedVariables false
open Go Sz

theorem clamp_rng (x : Int) : -2147483647 ≤ m_clamp x ∧ m_clamp x ≤ 2147483647 := by unfold m_clamp iMin iMax; split <;> split <;> omega
theorem fixOk_iff {x : Int} : m_fixOk x = true ↔ -2147483647 ≤ x ∧ x ≤ 2147483647 := by simp [m_fixOk]
theorem fixOk_clamp (x : Int) : m_fixOk (m_clamp x) = true := fixOk_iff.2 (clamp_rng x)
theorem clamp_id {x : Int} (h : m_fixOk x = true) : m_clamp x = x := by
  have := fixOk_iff.1 h
  unfold m_clamp iMin iMax; split <;> split <;> omega
theorem settle_ok (x : Int) : m_fixOk (m_settle x).1 = true := fixOk_clamp x
theorem fixAdd_ok (a b : Int) : m_fixOk (m_fixAdd a b).1 = true := settle_ok _
theorem fixSub_ok (a b : Int) : m_fixOk (m_fixSub a b).1 = true := settle_ok _
theorem fixMul_ok (a b : Int) : m_fixOk (m_fixMul a b).1 = true := settle_ok _
theorem relu_ok (a : Int) : m_fixOk (m_relu a) = true := by
  have := clamp_rng a
  rw [fixOk_iff]; unfold m_relu iMax; split <;> omega
theorem fixAdd_zero {a : Int} (h : m_fixOk a = true) : m_fixAdd a 0 = (a, false) := by
  have e : m_clamp 0 = 0 := rfl
  unfold m_fixAdd m_settle
  rw [e, Int.add_zero, clamp_id h, clamp_id h, h]; rfl
theorem allFix_cons {x : Int} {l : List Int} : m_allFix (x :: l) = (m_fixOk x && m_allFix l) := rfl
theorem vecOk_iff {v : List Int} : m_vecOk v = true ↔ (1 ≤ v.length ∧ v.length ≤ 6) ∧ m_allFix v = true := by
  simp only [m_vecOk, Bool.and_eq_true, m_in_iff]
  constructor
  · rintro ⟨h1, h2⟩; exact ⟨by omega, h2⟩
  · rintro ⟨h1, h2⟩; exact ⟨by omega, h2⟩
theorem vecOf_iff {v : List Int} {n : Int} : m_vecOf v n = true ↔ m_vecOk v = true ∧ (v.length : Int) = n := by simp [m_vecOf]
theorem vecOf_self {v : List Int} (h : m_vecOk v = true) : m_vecOf v v.length = true := vecOf_iff.2 ⟨h, rfl⟩

theorem vz_len (f : Int → Int → Int × Bool) : ∀ a b : List Int, (vz f a b).1.length = min a.length b.length
  | [], b => by simp [vz]
  | a :: aa, [] => by simp [vz]
  | a :: aa, b :: bb => by simp [vz, vz_len f aa bb]
theorem vz_fix {f : Int → Int → Int × Bool} (hf : ∀ a b, m_fixOk (f a b).1 = true) : ∀ a b : List Int, m_allFix (vz f a b).1 = true
  | [], b => by simp [vz, m_allFix]
  | a :: aa, [] => by simp [vz, m_allFix]
  | a :: aa, b :: bb => by simp only [vz, allFix_cons, hf, vz_fix hf aa bb, Bool.and_self]
theorem v1_len (f : Int → Int × Bool) : ∀ a : List Int, (v1 f a).1.length = a.length
  | [] => rfl
  | a :: aa => by simp [v1, v1_len f aa]
theorem v1_fix {f : Int → Int × Bool} (hf : ∀ a, m_fixOk (f a).1 = true) : ∀ a : List Int, m_allFix (v1 f a).1 = true
  | [] => rfl
  | a :: aa => by simp only [v1, allFix_cons, hf, v1_fix hf aa, Bool.and_self]
theorem dotGo_fix : ∀ (a b : List Int) (z : Int), m_fixOk z = true → m_fixOk (dotGo a b z).1 = true
  | [], b, z, h => by simpa [dotGo] using h
  | a :: aa, [], z, h => by simpa [dotGo] using h
  | a :: aa, b :: bb, z, h => by rw [dotGo]; exact dotGo_fix aa bb _ (fixAdd_ok _ _)
theorem vecDot_fix (a b : List Int) : m_fixOk (m_vecDot a b).1 = true := by
  unfold m_vecDot; split
  · exact dotGo_fix _ _ _ rfl
  · rfl
theorem pair2_iff {a b : List Int} : m_pair2 a b = true ↔ m_vecOk a = true ∧ m_vecOk b = true ∧ b.length = a.length := by
  unfold m_pair2; rw [Bool.and_eq_true, vecOf_iff]
  constructor <;> (intro h; exact ⟨h.1, h.2.1, by omega⟩)
theorem vecZ_ok {f : Int → Int → Int × Bool} (hf : ∀ a b, m_fixOk (f a b).1 = true) {a b : List Int} (h : m_pair2 a b = true) : m_vecOf (vz f a b).1 a.length = true := by
  obtain ⟨h1, h2, h3⟩ := pair2_iff.1 h
  have := (vecOk_iff.1 h1).1
  have hl := vz_len f a b
  exact vecOf_iff.2 ⟨vecOk_iff.2 ⟨by omega, vz_fix hf a b⟩, by omega⟩
theorem vecAdd_ok {a b : List Int} (h : m_pair2 a b = true) : m_vecOf (m_vecAdd a b).1 a.length = true := by unfold m_vecAdd; rw [if_pos h]; exact vecZ_ok fixAdd_ok h
theorem vecSub_ok {a b : List Int} (h : m_pair2 a b = true) : m_vecOf (m_vecSub a b).1 a.length = true := by unfold m_vecSub; rw [if_pos h]; exact vecZ_ok fixSub_ok h
theorem pair2_of {a b : List Int} {n : Int} (h1 : m_vecOf a n = true) (h2 : m_vecOf b n = true) : m_pair2 a b = true := by
  obtain ⟨h3, h4⟩ := vecOf_iff.1 h1
  obtain ⟨h5, h6⟩ := vecOf_iff.1 h2
  exact pair2_iff.2 ⟨h3, h5, by omega⟩
theorem vecScale_ok {c : Int} {a : List Int} (hc : m_fixOk c = true) (h : m_vecOk a = true) : m_vecOf (m_vecScale c a).1 a.length = true := by
  unfold m_vecScale
  rw [hc, h, Bool.and_self, if_pos rfl]
  have := (vecOk_iff.1 h).1
  have hl := v1_len (m_fixMul c) a
  exact vecOf_iff.2 ⟨vecOk_iff.2 ⟨by omega, v1_fix (fixMul_ok c) a⟩, by omega⟩
theorem allFix_map {α : Type} {f : α → Int} (hf : ∀ a, m_fixOk (f a) = true) (l : List α) : m_allFix (l.map f) = true := by
  unfold m_allFix; rw [List.all_eq_true]; intro x hx
  obtain ⟨a, _, rfl⟩ := List.mem_map.1 hx
  exact hf a
theorem vecMap_ok {α : Type} {f : α → Int} (hf : ∀ a, m_fixOk (f a) = true) {l : List α} (h1 : 1 ≤ l.length) (h2 : l.length ≤ 6) : m_vecOf (l.map f) l.length = true :=
  vecOf_iff.2 ⟨vecOk_iff.2 ⟨by simp; omega, allFix_map hf l⟩, by simp⟩
theorem vecRelu_ok {a : List Int} (h : m_vecOk a = true) : m_vecOf (m_vecRelu a) a.length = true := by
  unfold m_vecRelu; rw [if_pos h]
  have := (vecOk_iff.1 h).1
  exact vecMap_ok relu_ok (by omega) (by omega)
theorem matVec_ok {m : TMat} {x : List Int} (h : (m_matOk m && m_vecOf x m.2.1) = true) : m_vecOf (m_matVec m x).1 m.1 = true := by
  unfold m_matVec; rw [if_pos h]
  have h1 : 1 ≤ m.1 ∧ m.1 ≤ 6 := by simp only [m_matOk, Bool.and_eq_true, m_in_iff] at h; omega
  have := vecMap_ok (f := fun i : Nat => (m_vecDot (m_row m i) x).1) (fun i => vecDot_fix _ _) (l := List.range m.1.toNat) (by simp; omega) (by simp; omega)
  rw [List.length_range, show ((m.1.toNat : Nat) : Int) = m.1 by omega] at this
  exact this
theorem matBack_ok {m : TMat} {x : List Int} (h : (m_matOk m && m_vecOf x m.1) = true) : m_vecOf (m_matBack m x).1 m.2.1 = true := by
  unfold m_matBack; rw [if_pos h]
  have h1 : 1 ≤ m.2.1 ∧ m.2.1 ≤ 6 := by simp only [m_matOk, Bool.and_eq_true, m_in_iff] at h; omega
  have := vecMap_ok (f := fun i : Nat => (m_vecDot (m_col m i) x).1) (fun i => vecDot_fix _ _) (l := List.range m.2.1.toNat) (by simp; omega) (by simp; omega)
  rw [List.length_range, show ((m.2.1.toNat : Nat) : Int) = m.2.1 by omega] at this
  exact this
theorem vecMask_ok {x d : List Int} (h : m_pair2 x d = true) : m_vecOf (m_vecMask x d) x.length = true := by
  unfold m_vecMask; rw [if_pos h]
  obtain ⟨h1, h2, h3⟩ := pair2_iff.1 h
  have hl := (vecOk_iff.1 h1).1
  have hf := (vecOk_iff.1 h2).2
  refine vecOf_iff.2 ⟨vecOk_iff.2 ⟨by simp; omega, ?_⟩, by simp; omega⟩
  unfold m_allFix at hf ⊢
  rw [List.all_eq_true] at hf ⊢
  intro y hy
  rw [List.mem_iff_getElem?] at hy
  obtain ⟨i, hi⟩ := hy
  rw [List.getElem?_zipWith] at hi
  split at hi
  · rename_i a b ha hb
    cases hi
    split
    · exact hf b (List.mem_of_getElem? hb)
    · rfl
  · cases hi
theorem outer_len {d x : List Int} (hd : m_vecOk d = true) (hx : m_vecOk x = true) : (m_outer d x).1.2.2.length = d.length * x.length := by
  unfold m_outer; rw [hd, hx, Bool.and_self, if_pos rfl]
  simp only
  generalize d = l
  clear hd
  induction l with
  | nil => simp
  | cons a l ih => rw [List.flatMap_cons, List.length_append, ih]; simp [Nat.add_mul]; omega

theorem opSize_of {o : TOp'} (h : m_opOk o = true) : (o.2.2.2.length : Int) = (if o.1 = 1 ∨ o.1 = 5 then o.2.1 * o.2.2.1 else if o.1 = 2 then o.2.1 else if o.1 = 4 then 1 else 0) := by
  have h1 := opOk_in h
  simp only [m_opOk, Bool.and_eq_true, beq_iff_eq] at h
  rw [h.1.2]
  unfold m_opSize
  rw [show m_in o.2.1 1 6 = true from m_in_iff.2 ⟨h1.1, h1.2.1⟩, show m_in o.2.2.1 1 6 = true from m_in_iff.2 ⟨h1.2.2.1, h1.2.2.2⟩]
  rfl
theorem opFix {o : TOp'} (h : m_opOk o = true) : m_allFix o.2.2.2 = true := by simp only [m_opOk, Bool.and_eq_true] at h; exact h.2
theorem opEq {o : TOp'} (h : m_opOk o = true) (h1 : o.1 ≠ 1) : o.2.1 = o.2.2.1 := by
  simp only [m_opOk, Bool.and_eq_true, Bool.or_eq_true, beq_iff_eq] at h
  rcases h.1.1.2 with h | h
  · exact absurd h h1
  · exact h
theorem opMat {o : TOp'} (h : m_opOk o = true) (h1 : o.1 = 1 ∨ o.1 = 5) : m_matOk (m_matOf o) = true := by
  have h2 := opOk_in h
  have h3 := opSize_of h
  rw [if_pos h1] at h3
  simp only [m_matOk, m_matOf, Bool.and_eq_true, m_in_iff, beq_iff_eq]
  refine ⟨⟨⟨⟨by omega, by omega⟩, by omega, by omega⟩, ?_⟩, opFix h⟩
  rw [h3, Int.mul_comm]

theorem opForward_ok {o : TOp'} {x : List Int} (ho : m_opOk o = true) (hx : m_vecOf x o.2.1 = true) : m_vecOf (m_opForward o x).1 o.2.2.1 = true := by
  have hx' := vecOf_iff.1 hx
  unfold m_opForward
  rw [ho, hx, Bool.and_self, if_pos rfl]
  split
  · rename_i h1
    exact matVec_ok (m := m_matOf o) (by rw [opMat ho (.inl h1)]; simpa [m_matOf] using hx)
  · rename_i h1
    have he := opEq ho h1
    rw [← he]
    split
    · rename_i h2
      have h3 := opSize_of ho
      rw [if_neg (by omega), if_pos h2] at h3
      have h4 := opOk_in ho
      have hp : m_pair2 x o.2.2.2 = true := pair2_iff.2 ⟨hx'.1, vecOk_iff.2 ⟨by omega, opFix ho⟩, by omega⟩
      rw [← hx'.2]
      exact vecAdd_ok hp
    · split
      · rename_i h2 h3
        have h4 := opSize_of ho
        rw [if_neg (by omega), if_neg h2, if_pos h3] at h4
        have hf : m_fixOk (gtd 0 o.2.2.2 0) = true := by
          have := opFix ho
          unfold m_allFix at this
          exact List.all_eq_true.1 this _ (gtd_mem (by omega) 0)
        rw [← hx'.2]
        exact vecScale_ok hf hx'.1
      · split
        · rename_i h5
          have hm := opMat ho (.inr h5)
          have hy : m_vecOf (m_matVec (m_matOf o) x).1 o.2.2.1 = true := matVec_ok (m := m_matOf o) (by rw [hm]; simpa [m_matOf] using hx)
          rw [← he] at hy
          have := vecAdd_ok (pair2_of hx hy)
          rwa [hx'.2] at this
        · have := vecRelu_ok hx'.1
          rwa [hx'.2] at this

theorem opBackward_ok {o : TOp'} {x d : List Int} (ho : m_opOk o = true) (hx : m_vecOf x o.2.1 = true) (hd : m_vecOf d o.2.2.1 = true) :
    m_vecOf (m_opBackward o x d).1 o.2.1 = true ∧ (m_opBackward o x d).2.1.length = o.2.2.2.length := by
  have hx' := vecOf_iff.1 hx
  have hd' := vecOf_iff.1 hd
  have hs := opSize_of ho
  unfold m_opBackward
  rw [ho, hx, hd, Bool.and_self, Bool.and_self, if_pos rfl]
  split
  · rename_i h1
    rw [if_pos (.inl h1)] at hs
    refine ⟨matBack_ok (m := m_matOf o) (by rw [opMat ho (.inl h1)]; simpa [m_matOf] using hd), ?_⟩
    have := outer_len hd'.1 hx'.1
    show (m_outer d x).1.2.2.length = _
    rw [this]
    have : ((d.length * x.length : Nat) : Int) = o.2.1 * o.2.2.1 := by rw [Int.natCast_mul, hd'.2, hx'.2, Int.mul_comm]
    omega
  · rename_i h1
    have he := opEq ho h1
    split
    · rename_i h2
      rw [if_neg (by omega), if_pos h2] at hs
      refine ⟨by rw [he]; exact hd, ?_⟩
      show d.length = _
      omega
    · split
      · rename_i h2 h3
        rw [if_neg (by omega), if_neg h2, if_pos h3] at hs
        have hf : m_fixOk (gtd 0 o.2.2.2 0) = true := by
          have := opFix ho
          unfold m_allFix at this
          exact List.all_eq_true.1 this _ (gtd_mem (by omega) 0)
        refine ⟨?_, ?_⟩
        · have := vecScale_ok hf hd'.1
          rw [hd'.2, ← he] at this
          exact this
        · show [(m_vecDot d x).1].length = _
          simp; omega
      · split
        · rename_i h2 h3 h5
          rw [if_pos (.inr h5)] at hs
          have hm := opMat ho (.inr h5)
          have hy : m_vecOf (m_matBack (m_matOf o) d).1 o.2.1 = true := matBack_ok (m := m_matOf o) (by rw [hm]; simpa [m_matOf] using hd)
          refine ⟨?_, ?_⟩
          · rw [he] at hy
            have := vecAdd_ok (pair2_of hd hy)
            rw [hd'.2, ← he] at this
            exact this
          · have := outer_len hd'.1 hx'.1
            show (m_outer d x).1.2.2.length = _
            rw [this]
            have : ((d.length * x.length : Nat) : Int) = o.2.1 * o.2.2.1 := by rw [Int.natCast_mul, hd'.2, hx'.2, Int.mul_comm]
            omega
        · rename_i h2 h3 h5
          rw [if_neg (by omega), if_neg h2, if_neg h3] at hs
          have hp : m_pair2 x d = true := pair2_iff.2 ⟨hx'.1, hd'.1, by omega⟩
          refine ⟨?_, by simp; omega⟩
          have := vecMask_ok hp
          rw [hx'.2] at this
          exact this

/-! chains -/
theorem inputsGo_len : ∀ (ops : List TOp') (x : List Int), (inputsGo ops x).1.length = ops.length + 1
  | [], x => rfl
  | o :: r, x => by simp [inputsGo, inputsGo_len r]
/-- what comes out of a chain -/
def outOf (ops : List TOp') (x : List Int) : List Int := gtd [] (inputsGo ops x).1 ops.length
theorem outOf_nil (x : List Int) : outOf [] x = x := rfl
theorem outOf_cons (o : TOp') (r : List TOp') (x : List Int) : outOf (o :: r) x = outOf r (m_opForward o x).1 := by
  unfold outOf; rw [inputsGo]; simp [gtd]
theorem inputsGo_append : ∀ (a b : List TOp') (x : List Int), inputsGo (a ++ b) x = ((inputsGo a x).1.take a.length ++ (inputsGo b (outOf a x)).1, (inputsGo a x).2 || (inputsGo b (outOf a x)).2)
  | [], b, x => by simp [inputsGo, outOf_nil]
  | o :: a, b, x => by
    rw [List.cons_append, inputsGo, inputsGo_append a b, outOf_cons, inputsGo]
    simp [Bool.or_assoc]
theorem outOf_append (a b : List TOp') (x : List Int) : outOf (a ++ b) x = outOf b (outOf a x) := by
  induction a generalizing x with
  | nil => rfl
  | cons o a ih => rw [List.cons_append, outOf_cons, outOf_cons, ih]
theorem inputs_head (ops : List TOp') (x : List Int) : gtd [] (inputsGo ops x).1 0 = x := by cases ops <;> simp [inputsGo, gtd]
theorem inputs_take (ops : List TOp') (x : List Int) : (inputsGo ops x).1.take ops.length ++ [outOf ops x] = (inputsGo ops x).1 := by
  unfold outOf
  have hl := inputsGo_len ops x
  have : gtd [] (inputsGo ops x).1 ops.length = (inputsGo ops x).1[ops.length]'(by omega) := gtd_some (List.getElem?_eq_getElem (by omega)) []
  rw [this, List.take_append_getElem (by omega), List.take_of_length_le (by omega)]
theorem back_len : ∀ (ops : List TOp') (rows : List (List Int)) (d : List Int), ops.length ≤ rows.length → (m_back ops rows d).1.length = ops.length
  | [], rows, d, _ => by simp [m_back]
  | o :: os, [], d, h => by simp at h
  | o :: os, r :: rs, d, h => by simp [m_back, back_len os rs d (by simpa using h)]
theorem back_append : ∀ (a b : List TOp') (ra rb : List (List Int)) (d : List Int), ra.length = a.length →
    m_back (a ++ b) (ra ++ rb) d = ((m_back a ra (m_back b rb d).2.1).1 ++ (m_back b rb d).1, (m_back a ra (m_back b rb d).2.1).2.1, (m_back a ra (m_back b rb d).2.1).2.2 || (m_back b rb d).2.2)
  | [], b, ra, rb, d, h => by
    have : ra = [] := List.eq_nil_of_length_eq_zero (by simpa using h)
    subst this
    simp [m_back]
  | o :: a, b, [], rb, d, h => by simp at h
  | o :: a, b, r :: ra, rb, d, h => by
    rw [List.cons_append, List.cons_append, m_back, back_append a b ra rb d (by simpa using h), m_back]
    simp [Bool.or_assoc]
/-- rows behind those that are needed do not matter -/
theorem back_more : ∀ (ops : List TOp') (rows more : List (List Int)) (d : List Int), rows.length = ops.length → m_back ops (rows ++ more) d = m_back ops rows d := by
  intro ops rows more d h
  have := back_append ops [] rows more d h
  rw [List.append_nil] at this
  rw [this]
  simp [m_back]
end Go.Proofs.Ytephkbajoofeoaa.Am
