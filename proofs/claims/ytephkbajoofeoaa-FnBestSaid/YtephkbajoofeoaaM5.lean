/-
  WORDS FOR THE WALKS THROUGH WHAT IS RECKONED: appends, ranges of numbers, sizes.
-/
import Derived.Test.YtephkbajoofeoaaK3
namespace Go.Proofs.Ytephkbajoofeoaa.Am
set_option linter.unusedSimpArgs false
set_option linter.unusedVariables false
open Go Sz

def p_lim {α : Type} [Sz α] (x : α) : Prop := sz x ≤ 2147483648
def p_lim2 {α β : Type} [Sz α] [Sz β] (x : α) (y : β) : Prop := sz x + sz y ≤ 2147483648
def p_st (st s m : Int) : Prop := -1000 ≤ st ∧ st ≤ 1000
def p_st4 (st s m : Int) (_ : Bool) : Prop := p_st st s m
def m_l9Ahead (l : List TIns) (st s m : Int) : List TIns := l ++ m_ahead st s m
def m_l9Back (l : List TIns) (st s m : Int) (redo : Bool) : List TIns := l ++ m_backOf st s m redo
def p_l9 (l : List TIns) (st s m : Int) : Prop := p_st st s m ∧ l.length ≤ 1000000
def p_l9b (l : List TIns) (st s m : Int) (_ : Bool) : Prop := p_l9 l st s m
def p_l7i (ops : List TOp') (x : List Int) : Prop := ops.length ≤ 1000000 ∧ x.length ≤ 1000000
def p_row (m : TMat) (i : Int) : Prop := 0 ≤ m.2.1 ∧ m.2.1 ≤ 6 ∧ 0 ≤ i ∧ i < m.1 ∧ m.1 ≤ 6 ∧ (m.2.2.length : Int) = m.1 * m.2.1
def p_col (m : TMat) (k : Int) : Prop := m.2.1 ≤ 6 ∧ 0 ≤ k ∧ k < m.2.1 ∧ 0 ≤ m.1 ∧ m.1 ≤ 6 ∧ (m.2.2.length : Int) = m.1 * m.2.1

@[simp] theorem take_app1 {α : Type} (v : List α) (e : α) : List.take (v.length + 1) (List.take v.length v ++ [e]) = v ++ [e] := by
  rw [List.take_length, List.take_of_length_le (by simp)]
@[simp] theorem take_app {α : Type} (v xs : List α) : List.take (v.length + xs.length) (List.take v.length v ++ xs) = v ++ xs := by
  rw [List.take_length, List.take_of_length_le (by simp)]
theorem drop_ex {α : Type} {l : List α} {k : Nat} (h : k < l.length) : ∃ y q, l.drop k = y :: q := by
  cases hq : l.drop k with
  | nil => have := congrArg List.length hq; simp at this; omega
  | cons y q => exact ⟨y, q, rfl⟩
theorem snoc_len {α : Type} {v : List α} {k : Nat} {x : α} (h : v.length = k) : (v ++ [x]).length = k + 1 := by simp [h]
theorem room {n : Nat} (h : n + 1 ≤ 2147483648) : (n = n ∨ n + 1 ≤ n) ∧ n + 1 ≤ big := ⟨.inl rfl, by rw [big_eq]; omega⟩
theorem sc1 {k : Nat} (h : k < 9223372036854775807) : w64 ((k : Int) + 1) = ((k + 1 : Nat) : Int) := by rw [w64_ok (by omega) (by omega)]; omega

theorem clamp_mul (a b : Int) : -4611686018427387904 ≤ m_clamp a * m_clamp b ∧ m_clamp a * m_clamp b ≤ 4611686018427387904 := by
  obtain ⟨h1, h2⟩ := clamp_rng a
  obtain ⟨h3, h4⟩ := clamp_rng b
  generalize m_clamp a = x at *
  generalize m_clamp b = y at *
  have hx : x.natAbs ≤ 2147483647 := by omega
  have hy : y.natAbs ≤ 2147483647 := by omega
  have h := Nat.mul_le_mul hx hy
  rw [← Int.natAbs_mul] at h
  omega
theorem clamp_eq (x : Int) : (if 2147483647 < (if x < -2147483647 then -2147483647 else x) then 2147483647 else (if x < -2147483647 then -2147483647 else x)) = m_clamp x := by
  unfold m_clamp iMin iMax; repeat' split
  all_goals omega
theorem floor_eq (a : Int) : (if ((Int.tmod a 65536 != 0) && (!(decide (a < 0) == decide ((65536 : Int) < 0)))) = true then Int.tdiv a 65536 - 1 else Int.tdiv a 65536) = Int.fdiv a 65536 := by
  rw [Int.fdiv_eq_ediv_of_nonneg _ (by omega), Int.tmod_eq_emod, Int.tdiv_eq_ediv]
  have hs : Int.sign 65536 = 1 := rfl
  rw [hs]
  by_cases h : 0 ≤ a
  · have : decide (a < 0) = false := by simp; omega
    simp [h, this]
  · have : decide (a < 0) = true := by simp; omega
    by_cases h2 : (65536 : Int) ∣ a
    · have : a % 65536 = 0 := Int.emod_eq_zero_of_dvd h2
      simp [h, h2, this]
    · have : a % 65536 ≠ 0 := fun e => h2 (Int.dvd_of_emod_eq_zero e)
      simp [h, h2, this]
      omega

/-! matrices -/
theorem idx {r R C : Int} (h1 : 0 ≤ r) (h2 : r < R) (h3 : 0 ≤ C) : 0 ≤ r * C ∧ r * C + C ≤ R * C ∧ (r + 1) * C = r * C + C := by
  have h4 : (r + 1) * C = r * C + C := by rw [Int.add_mul, Int.one_mul]
  have h5 := Int.mul_le_mul_of_nonneg_right (show r + 1 ≤ R by omega) h3
  exact ⟨Int.mul_nonneg h1 h3, by omega, h4⟩
theorem matOk_in {m : TMat} (h : m_matOk m = true) : 1 ≤ m.1 ∧ m.1 ≤ 6 ∧ 1 ≤ m.2.1 ∧ m.2.1 ≤ 6 ∧ (m.2.2.length : Int) = m.1 * m.2.1 ∧ m.1 * m.2.1 ≤ 36 ∧ m_allFix m.2.2 = true := by
  simp only [m_matOk, Bool.and_eq_true, m_in_iff, beq_iff_eq] at h
  have := mul66 h.1.1.1.1 h.1.1.1.2 h.1.1.2.1 h.1.1.2.2
  exact ⟨h.1.1.1.1, h.1.1.1.2, h.1.1.2.1, h.1.1.2.2, h.1.2, this.2, h.2⟩
theorem any_snoc {f : Nat → Bool} {k : Nat} : (List.range (k + 1)).any f = ((List.range k).any f || f k) := by rw [List.range_succ, List.any_append]; simp
theorem map_snoc {α : Type} {f : Nat → α} {k : Nat} : (List.range (k + 1)).map f = (List.range k).map f ++ [f k] := by rw [List.range_succ, List.map_append]; rfl
theorem fm_snoc {α : Type} {f : Nat → List α} {k : Nat} : (List.range (k + 1)).flatMap f = (List.range k).flatMap f ++ f k := by rw [List.range_succ, List.flatMap_append]; simp
theorem fm_len {α : Type} {f : Nat → List α} {R : Nat} (n : Nat) (h : ∀ k, k < n → (f k).length = R) : ((List.range n).flatMap f).length = n * R := by
  induction n with
  | zero => simp
  | succ n ih => rw [fm_snoc, List.length_append, ih (fun k hk => h k (by omega)), h n (by omega), Nat.add_mul]; omega
theorem fm_slice {α : Type} {f : Nat → List α} {R : Nat} {k : Nat} : ∀ (n : Nat), k < n → (∀ k, k < n → (f k).length = R) → (((List.range n).flatMap f).drop (k * R)).take R = f k
  | 0, hk, _ => by omega
  | n + 1, hk, h => by
    have hl := fm_len n (fun k hk => h k (by omega))
    rw [fm_snoc]
    by_cases e : k = n
    · subst e
      rw [List.drop_append, List.drop_eq_nil_of_le (by omega), hl, Nat.sub_self, List.drop_zero, List.nil_append, List.take_of_length_le (by rw [h k (by omega)]; exact Nat.le_refl _)]
    · have ih := fm_slice (k := k) n (by omega) (fun k hk => h k (by omega))
      have : (k + 1) * R ≤ n * R := Nat.mul_le_mul_right R (show k + 1 ≤ n by omega)
      rw [Nat.add_mul, Nat.one_mul] at this
      rw [List.drop_append_of_le_length (by omega), List.take_append_of_le_length (by rw [List.length_drop, hl]; omega), ih]
theorem col_len (m : TMat) (k : Int) : (m_col m k).length = m.1.toNat := by simp [m_col]
theorem col_fix {m : TMat} (h : m_matOk m = true) {k : Nat} (hk : (k : Int) < m.2.1) : m_allFix (m_col m k) = true := by
  obtain ⟨h1, h2, h3, h4, h5, h6, h7⟩ := matOk_in h
  unfold m_allFix m_col
  rw [List.all_eq_true]
  intro x hx
  obtain ⟨i, hi, rfl⟩ := List.mem_map.1 hx
  have hi := List.mem_range.1 hi
  have hd := idx (r := i) (R := m.1) (C := m.2.1) (by omega) (by omega) (by omega)
  unfold m_allFix at h7
  generalize (i : Int) * m.2.1 = z at *
  generalize m.1 * m.2.1 = y at *
  exact List.all_eq_true.1 h7 _ (gtd_mem (show Int.toNat (z + k) < m.2.2.length by omega) 0)
theorem trans_ok {m : TMat} (h : m_matOk m = true) : m_matOk (m_transpose m) = true ∧ (m_transpose m).1 = m.2.1 ∧ (m_transpose m).2.1 = m.1 ∧ ∀ k : Nat, (k : Int) < m.2.1 → m_row (m_transpose m) k = m_col m k := by
  obtain ⟨h1, h2, h3, h4, h5, h6, h7⟩ := matOk_in h
  have ht : m_transpose m = (m.2.1, m.1, (List.range m.2.1.toNat).flatMap fun k : Nat => m_col m k) := by unfold m_transpose; rw [if_pos h]
  have hl := fm_len (f := fun k : Nat => m_col m k) m.2.1.toNat (fun k hk => col_len m k)
  have hn : ((m.2.1.toNat * m.1.toNat : Nat) : Int) = m.2.1 * m.1 := by rw [Int.natCast_mul, Int.toNat_of_nonneg (by omega), Int.toNat_of_nonneg (by omega)]
  rw [ht]
  refine ⟨?_, rfl, rfl, fun k hk => ?_⟩
  · simp only [m_matOk, Bool.and_eq_true, m_in_iff, beq_iff_eq]
    refine ⟨⟨⟨⟨h3, h4⟩, h1, h2⟩, by rw [hl, hn]⟩, ?_⟩
    unfold m_allFix
    rw [List.all_eq_true]
    intro x hx
    obtain ⟨k, hk, hx⟩ := List.mem_flatMap.1 hx
    have := col_fix h (k := k) (by have := List.mem_range.1 hk; omega)
    unfold m_allFix at this
    exact List.all_eq_true.1 this x hx
  · have hs := fm_slice (f := fun k : Nat => m_col m k) (k := k) m.2.1.toNat (by omega) (fun k hk => col_len m k)
    have hd := idx (r := k) (R := m.2.1) (C := m.1) (by omega) hk (by omega)
    have e1 : Int.toNat ((k : Int) * m.1) = k * m.1.toNat := by
      have : ((k * m.1.toNat : Nat) : Int) = (k : Int) * m.1 := by rw [Int.natCast_mul, Int.toNat_of_nonneg (by omega)]
      omega
    unfold m_row slice
    simp only
    rw [show Int.toNat (((k : Int) + 1) * m.1) - Int.toNat ((k : Int) * m.1) = m.1.toNat by omega, e1]
    exact hs
theorem matBack_eq {m : TMat} {d : List Int} (h : m_matOk m = true) (hd : m_vecOf d m.1 = true) : m_matVec (m_transpose m) d = m_matBack m d := by
  obtain ⟨h1, h2, h3, h4⟩ := trans_ok h
  unfold m_matVec m_matBack
  rw [if_pos (by rw [h1, h3, hd]; rfl), if_pos (by rw [h, hd]; rfl), h2]
  have e : ∀ i, i ∈ List.range m.2.1.toNat → m_row (m_transpose m) (i : Nat) = m_col m (i : Nat) := fun i hi => h4 i (by have := List.mem_range.1 hi; omega)
  refine Prod.ext (List.map_congr_left fun i hi => by rw [e i hi]) ?_
  show (List.range m.2.1.toNat).any _ = (List.range m.2.1.toNat).any _
  rw [Bool.eq_iff_iff, List.any_eq_true, List.any_eq_true]
  constructor
  · rintro ⟨i, hi, h⟩; exact ⟨i, hi, by rw [← e i hi]; exact h⟩
  · rintro ⟨i, hi, h⟩; exact ⟨i, hi, by rw [e i hi]; exact h⟩
theorem not_matBack {m : TMat} {d : List Int} (h : ¬ (m_matOk m = true ∧ m_vecOf d m.1 = true)) : m_matBack m d = ([], false) := by unfold m_matBack; rw [if_neg (by simpa using h)]
theorem not_matVec {m : TMat} {d : List Int} (h : ¬ (m_matOk m = true ∧ m_vecOf d m.2.1 = true)) : m_matVec m d = ([], false) := by unfold m_matVec; rw [if_neg (by simpa using h)]

/-! losses -/
theorem clamp_nonneg {x : Int} (h : 0 ≤ x) : 0 ≤ m_clamp x := by unfold m_clamp iMin iMax; repeat' split
                                                                 all_goals omega
theorem dot_self : ∀ (a : List Int) (z : Int), 0 ≤ z → 0 ≤ (dotGo a a z).1
  | [], z, h => by simpa [dotGo] using h
  | x :: r, z, h => by
    rw [dotGo]
    refine dot_self r _ ?_
    have h1 : 0 ≤ m_clamp x * m_clamp x := by
      rcases Int.le_total 0 (m_clamp x) with h2 | h2
      · exact Int.mul_nonneg h2 h2
      · exact Int.mul_nonneg_of_nonpos_of_nonpos h2 h2
    have h3 : 0 ≤ Int.fdiv (m_clamp x * m_clamp x) 65536 := by rw [Int.fdiv_eq_ediv_of_nonneg _ (by omega)]; omega
    have h4 : 0 ≤ (m_fixMul x x).1 := clamp_nonneg h3
    have h5 := clamp_nonneg h
    have h6 := clamp_nonneg h4
    exact clamp_nonneg (by omega)
theorem vecDot_self (a : List Int) : 0 ≤ (m_vecDot a a).1 := by
  unfold m_vecDot; split
  · exact dot_self a 0 (by omega)
  · show (0 : Int) ≤ 0; omega
theorem vecOf_eq (x : List Int) (n : Int) : (!(m_vecOk x) || ((x.length : Int) != n)) = !(m_vecOf x n) := by unfold m_vecOf; simp [bne]
theorem op_p0 {o : TOp'} (h : m_opOk o = true) (h4 : o.1 = 4) : 0 < o.2.2.2.length := by
  have := opSize_of h
  rw [if_neg (by omega), if_neg (by omega), if_pos h4] at this
  omega
theorem not_opF {o : TOp'} {x : List Int} (h : ¬ (m_opOk o = true ∧ m_vecOf x o.2.1 = true)) : m_opForward o x = ([], false) := by unfold m_opForward; rw [if_neg (by simpa using h)]
theorem not_opB {o : TOp'} {x d : List Int} (h : ¬ ((m_opOk o = true ∧ m_vecOf x o.2.1 = true) ∧ m_vecOf d o.2.2.1 = true)) : m_opBackward o x d = ([], [], false) := by unfold m_opBackward; rw [if_neg (by simpa using h)]
theorem op_kind {o : TOp'} (h : m_opOk o = true) : 1 ≤ o.1 ∧ o.1 ≤ 5 := by simp only [m_opOk, Bool.and_eq_true, m_in_iff] at h; exact h.1.1.1.1.1

/-! copies -/
theorem take_id0 {α : Type} (v : List α) : List.take (id v).length (List.drop 0 (id v)) = v := by simp
theorem take_z0 {α : Type} (v : List α) : List.take (0 + v.length) (List.drop 0 v) = v := by simp
theorem take_d0 {α : Type} (v : List α) : List.take v.length (List.drop 0 v) = v := by simp
theorem drop_nil {α : Type} {l : List α} {k : Nat} (h : l.length ≤ k) : l.drop k = [] := List.drop_eq_nil_of_le h
theorem take_rep (n : Nat) (x : Int) : List.take n (List.drop 0 (List.replicate n x)) = List.replicate n x := by rw [List.drop_zero, List.take_of_length_le (by simp)]
theorem cpLoop {α : Type} [Sz α] {l : List α} {A : Int → List α → Prop} {Q : List α → Prop} (hs : sz l ≤ 2147483648)
    (hA : ∀ (k : Nat) (x : α) (v : List α), k < l.length → l.length ≤ 2147483648 → (∀ d, gtd d l k = x) → v.length = k → sz x ≤ 2147483648 → A ((k + 1 : Nat) : Int) (v ++ [x]) → A (k : Nat) v)
    (hE : Q l → A (l.length : Nat) l) (hq : Q l) : A 0 [] := by
  have hl := len_sz l
  refine listLoop l (fun r k => ∀ v, v.length = k → v ++ r = l → A k v) ?_ ?_ [] rfl rfl
  · intro v hv he
    rw [List.append_nil] at he
    subst he
    exact hE hq
  · intro k x r hk hlt hg ih v hv he
    have hx := sz_drop_cons hk
    exact hA k x v hlt (by omega) hg hv (by omega) (ih _ (snoc_len hv) (by rw [← he]; simp))
theorem op_plen {o : TOp'} (h : m_opOk o = true) : o.2.2.2.length ≤ 36 := by
  have h1 := opSize_of h
  have h2 := opOk_in h
  have h3 := mul66 h2.1 h2.2.1 h2.2.2.1 h2.2.2.2
  split at h1
  · omega
  · split at h1
    · omega
    · split at h1 <;> omega
theorem mod_ops {m : TModel} (h : m_modelOk m = true) {k : Nat} (hk : k < m.length) : m_opOk (gtd dOp m k) = true := by
  simp only [m_modelOk, Bool.and_eq_true] at h
  exact (chain_get h.2 k _ (gtd_get hk dOp)).1

/-! chains of operations -/
theorem take_last {α : Type} (d : α) {v : List α} {k : Nat} (h : v.length = k + 1) : v.take k ++ [gtd d v k] = v := by
  have h1 : gtd d v k = v[k]'(by omega) := gtd_some (List.getElem?_eq_getElem (by omega)) d
  rw [h1, List.take_append_getElem (by omega), List.take_of_length_le (by omega)]
theorem gtd_snoc {α : Type} (d : α) {v : List α} {n : Nat} (y : α) (h : v.length = n) : gtd d (v ++ [y]) n = y := by
  refine gtd_some ?_ d
  rw [List.getElem?_append_right (by omega)]; simp [h]
theorem take_snoc {α : Type} {v : List α} {n : Nat} (y : α) (h : v.length = n) : (v ++ [y]).take n = v := by
  rw [List.take_append_of_le_length (by omega), List.take_of_length_le (by omega)]
theorem set_rep {α : Type} (n : Nat) (e g : α) (l : List α) : (List.replicate (n + 1) e ++ l).set n g = List.replicate n e ++ g :: l := by
  rw [List.replicate_succ', List.append_assoc, List.set_append_right _ _ (by simp)]
  simp
theorem inputs_of {m : TModel} {x : List Int} (h1 : m_modelOk m = true) (h2 : m_vecOf x (m_inOf m) = true) : m_inputs m x = inputsGo m x := by unfold m_inputs; rw [if_pos (by rw [h1, h2]; rfl)]
theorem pair_of {m : TModel} {p : TPair} (h : m_pairOk m p = true) : m_modelOk m = true ∧ m_vecOf p.1 (m_inOf m) = true ∧ m_vecOf p.2 (m_outOf m) = true := by
  simp only [m_pairOk, Bool.and_eq_true] at h; exact ⟨h.1.1, h.1.2, h.2⟩
theorem batch_one {m : TModel} {p : TPair} : m_batchOk m [p] = m_pairOk m p := by
  unfold m_batchOk m_pairOk
  cases h : m_modelOk m <;> simp [m_in, m_pairOk, h]
theorem fit_sz : ∀ {ops : List TOp'} {rows : List (List Int)}, rows.length = ops.length → (∀ o, o ∈ ops → m_opOk o = true) → gradsGo ops rows = true → sz rows ≤ 37 * ops.length
  | [], [], _, _, _ => by simp
  | [], r :: rs, h, _, _ => by simp at h
  | o :: os, [], h, _, _ => by simp at h
  | o :: os, r :: rs, h, ho, hg => by
    simp only [gradsGo, Bool.and_eq_true, beq_iff_eq] at hg
    have h1 := op_plen (ho o List.mem_cons_self)
    have h2 := fit_sz (by simpa using h) (fun p hp => ho p (List.mem_cons_of_mem _ hp)) hg.2
    have h3 := sz_ints r
    rw [sz_cons, List.length_cons]; omega
theorem mod_mem {m : TModel} (h : m_modelOk m = true) : ∀ o, o ∈ m → m_opOk o = true := by
  intro o ho
  obtain ⟨i, hi⟩ := List.getElem?_of_mem ho
  simp only [m_modelOk, Bool.and_eq_true] at h
  exact (chain_get h.2 i o hi).1
theorem micro_fit {m : TModel} {p : TPair} (h : m_pairOk m p = true) : (m_microGrads m p).1.length = m.length ∧ gradsGo m (m_microGrads m p).1 = true := by
  obtain ⟨h1, h2, h3⟩ := pair_of h
  obtain ⟨_, _, hc⟩ := chain_of h1
  have hy := outOf_ok hc h2
  have hd : m_vecOf (m_vecSub (outOf m p.1) p.2).1 (m_outOf m) = true := by
    have := vecSub_ok (pair2_of hy h3)
    rwa [(vecOf_iff.1 hy).2] at this
  have hb := back_ok hc h2 hd
  unfold m_microGrads
  rw [if_pos h]
  refine ⟨back_len _ _ _ (by rw [inputsGo_len]; omega), hb.2⟩
theorem zero_fit {m : TModel} (h : m_modelOk m = true) : (m_zeroGrads m).1.length = m.length ∧ gradsGo m (m_zeroGrads m).1 = true := by
  unfold m_zeroGrads
  rw [if_pos h]
  simp only [List.length_map, true_and]
  clear h
  induction m with
  | nil => rfl
  | cons o l ih => simp [gradsGo, ih]
theorem add_fit {m : TModel} {a b : TGrads} (h1 : a.1.length = m.length ∧ gradsGo m a.1 = true) (h2 : b.1.length = m.length ∧ gradsGo m b.1 = true) : (m_addGrads a b).1.length = m.length ∧ gradsGo m (m_addGrads a b).1 = true := by
  refine ⟨?_, rowsAdd_fit h1.1 h2.1 h1.2 h2.2⟩
  show (rowsAdd _ _).1.length = _
  rw [rowsAdd_len]; omega
theorem fit_lim {m : TModel} (h : m_modelOk m = true) {a : TGrads} (h1 : a.1.length = m.length ∧ gradsGo m a.1 = true) : sz a ≤ 296 := by
  have := fit_sz h1.1 (mod_mem h) h1.2
  have := mod_len h
  simp only [sz_prod, sz_int, sz_bool]; omega
theorem seqGo_cons (m : TModel) (p : TPair) (r : List TPair) (g : TGrads) : seqGo m (p :: r) g = seqGo m r (m_addGrads g (m_microGrads m p)) := rfl
end Go.Proofs.Ytephkbajoofeoaa.Am
