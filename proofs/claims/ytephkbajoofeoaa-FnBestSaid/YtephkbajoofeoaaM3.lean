/-
  FACTS ABOUT NUMBERS AND MODELS, for the walks.
-/
import Derived.Test.YtephkbajoofeoaaM2
import Derived.Test.YtephkbajoofeoaaTmD
namespace Go.Proofs.Ytephkbajoofeoaa.Am
set_option linter.unusedSimpArgs false
set_option linter.unusedVariables false
open Go Sz

theorem w64_def (x : Int) : w64 x = if x % 18446744073709551616 ≥ 9223372036854775808 then x % 18446744073709551616 - 18446744073709551616 else x % 18446744073709551616 := by
  show IntKind.i64.wrap x = _
  simp [IntKind.wrap, IntKind.bits, IntKind.signed]
theorem w64_add_l (a b : Int) : w64 (w64 a + b) = w64 (a + b) := by
  rw [w64_def (w64 a + b), w64_def (a + b), w64_def a]; split <;> split <;> split <;> omega
theorem w64_add_r (a b : Int) : w64 (a + w64 b) = w64 (a + b) := by rw [Int.add_comm, w64_add_l, Int.add_comm]
theorem w64_sub_l (a b : Int) : w64 (w64 a - b) = w64 (a - b) := by rw [Int.sub_eq_add_neg, w64_add_l, ← Int.sub_eq_add_neg]
theorem w64_w64 (a : Int) : w64 (w64 a) = w64 a := by have := w64_add_l a 0; simpa using this
theorem w64_0 : w64 0 = 0 := rfl
theorem w64_rng (a : Int) : -9223372036854775808 ≤ w64 a ∧ w64 a < 9223372036854775808 := by rw [w64_def]; split <;> omega
theorem mul66 {a b : Int} (h1 : 1 ≤ a) (h2 : a ≤ 6) (h3 : 1 ≤ b) (h4 : b ≤ 6) : 1 ≤ a * b ∧ a * b ≤ 36 := by
  have : a = 1 ∨ a = 2 ∨ a = 3 ∨ a = 4 ∨ a = 5 ∨ a = 6 := by omega
  rcases this with rfl | rfl | rfl | rfl | rfl | rfl <;> omega
theorem m_in_iff {x a b : Int} : m_in x a b = true ↔ a ≤ x ∧ x ≤ b := by simp [m_in]
theorem tn_sub1 {n : Nat} (h1 : 1 ≤ n) (h2 : n ≤ 9223372036854775807) : Int.toNat (w64 ((n : Int) - 1)) = n - 1 ∧ (0 : Int) ≤ w64 ((n : Int) - 1) := by
  rw [w64_ok (by omega) (by omega)]; omega
theorem mod_len {m : TModel} (h : m_modelOk m = true) : 1 ≤ m.length ∧ m.length ≤ 8 := by
  simp only [m_modelOk, Bool.and_eq_true, m_in_iff] at h; omega
def prevOf (m : TModel) (k : Nat) : Option Int := if k = 0 then none else some (gtd dOp m (k - 1)).2.2.1
def prevI (l : List Int) (k : Nat) : Option Int := if k = 0 then none else some (gtd 0 l (k - 1))
theorem opOk_in {o : TOp'} (h : m_opOk o = true) : 1 ≤ o.2.1 ∧ o.2.1 ≤ 6 ∧ 1 ≤ o.2.2.1 ∧ o.2.2.1 ≤ 6 := by
  simp only [m_opOk, Bool.and_eq_true, m_in_iff] at h; omega
theorem opCost_w (o : TOp') (h : m_opOk o = true) : w64 (o.2.1 * o.2.2.1) = o.2.1 * o.2.2.1 := by
  obtain ⟨h1, h2, h3, h4⟩ := opOk_in h
  have := mul66 h1 h2 h3 h4
  exact w64_ok (by omega) (by omega)

theorem gtd_some {α : Type} {l : List α} {i : Nat} {x : α} (h : l[i]? = some x) (d : α) : gtd d l i = x := by
  unfold gtd; rw [List.getD_eq_getElem?_getD, h]; rfl
theorem gtd_get {α : Type} {l : List α} {i : Nat} (h : i < l.length) (d : α) : l[i]? = some (gtd d l i) := by
  unfold gtd; rw [List.getD_eq_getElem?_getD, List.getElem?_eq_getElem h]; rfl
theorem gtd_mem {α : Type} {l : List α} {i : Nat} (h : i < l.length) (d : α) : gtd d l i ∈ l := List.mem_of_getElem? (gtd_get h d)
theorem gtd_cons_succ {α : Type} (d x : α) (l : List α) (i : Nat) : gtd d (x :: l) (i + 1) = gtd d l i := by simp [gtd]
theorem gtd_zero {α : Type} (d x : α) (l : List α) : gtd d (x :: l) 0 = x := by simp [gtd]

theorem cuts_lb {n : Int} : ∀ {l : List Int} {p : Option Int}, cutsGo n p l = true → ∀ (i : Nat) (x : Int), l[i]? = some x → 1 ≤ x ∧ x ≤ n ∧ p.getD 0 + i + 1 ≤ x
  | [], p, h, i, x, hx => by simp at hx
  | c :: r, p, h, i, x, hx => by
    simp only [cutsGo, Bool.and_eq_true, m_in_iff] at h
    have hp : p.getD 0 < c := by
      cases p with
      | none => simp; omega
      | some q => simpa using h.1.2
    cases i with
    | zero => simp at hx; subst hx; simp; omega
    | succ i =>
      have := cuts_lb h.2 i x (by simpa using hx)
      simp at this ⊢; omega
theorem cuts_rise {n : Int} : ∀ {l : List Int} {p : Option Int}, cutsGo n p l = true → ∀ (i : Nat) (x y : Int), l[i]? = some x → l[i + 1]? = some y → x < y
  | [], p, h, i, x, y, hx, hy => by simp at hx
  | c :: r, p, h, i, x, y, hx, hy => by
    simp only [cutsGo, Bool.and_eq_true] at h
    cases i with
    | zero =>
      simp at hx; subst hx
      have := (cuts_lb h.2 0 y (by simpa using hy)).2.2
      simp at this; omega
    | succ i => exact cuts_rise h.2 i x y (by simpa using hx) (by simpa using hy)
theorem cuts_len {m : TModel} {cuts : List Int} (h : m_cutsOk m cuts = true) : 1 ≤ m.length ∧ m.length ≤ 8 ∧ cuts.length < m.length := by
  simp only [m_cutsOk, Bool.and_eq_true] at h
  have hm := mod_len h.1
  refine ⟨hm.1, hm.2, ?_⟩
  cases hc : cuts.length with
  | zero => omega
  | succ k =>
    have := cuts_lb h.2 k (gtd 0 cuts k) (gtd_get (by omega) 0)
    simp at this; omega
/-- where a stage begins and ends -/
theorem range_ok (m : TModel) (cuts : List Int) (s : Int) : 0 ≤ (m_stageRange m cuts s).1 ∧ (m_stageRange m cuts s).1 ≤ (m_stageRange m cuts s).2 ∧ (m_stageRange m cuts s).2 ≤ m.length ∧
    ((m_stageRange m cuts s).1 < (m_stageRange m cuts s).2 ↔ m_cutsOk m cuts = true ∧ 0 ≤ s ∧ s ≤ cuts.length) := by
  unfold m_stageRange
  by_cases h : (m_cutsOk m cuts && m_in s 0 cuts.length) = true
  · rw [if_pos h]
    simp only [Bool.and_eq_true, m_in_iff] at h
    have hl := cuts_len h.1
    have hc : cutsGo (m.length - 1) none cuts = true := by have := h.1; simp only [m_cutsOk, Bool.and_eq_true] at this; exact this.2
    have h1 : ∀ k : Nat, k < cuts.length → 1 ≤ gtd 0 cuts k ∧ gtd 0 cuts k ≤ (m.length : Int) - 1 := fun k hk => by
      have := cuts_lb hc k _ (gtd_get hk 0); omega
    have h2 : ∀ k : Nat, k + 1 < cuts.length → gtd 0 cuts k < gtd 0 cuts (k + 1) := fun k hk => cuts_rise hc k _ _ (gtd_get (by omega) 0) (gtd_get hk 0)
    by_cases ha : 0 < s
    · have h3 := h1 (s.toNat - 1) (by omega)
      by_cases hb : s < cuts.length
      · have h4 := h1 s.toNat (by omega)
        have h5 := h2 (s.toNat - 1) (by omega)
        rw [show s.toNat - 1 + 1 = s.toNat by omega] at h5
        simp only [if_pos ha, if_pos hb]
        exact ⟨by omega, by omega, by omega, fun _ => ⟨h.1, h.2⟩, fun _ => by omega⟩
      · simp only [if_pos ha, if_neg hb]
        exact ⟨by omega, by omega, by omega, fun _ => ⟨h.1, h.2⟩, fun _ => by omega⟩
    · by_cases hb : s < cuts.length
      · have h4 := h1 s.toNat (by omega)
        simp only [if_neg ha, if_pos hb]
        exact ⟨by omega, by omega, by omega, fun _ => ⟨h.1, h.2⟩, fun _ => by omega⟩
      · simp only [if_neg ha, if_neg hb]
        exact ⟨by omega, by omega, by omega, fun _ => ⟨h.1, h.2⟩, fun _ => by omega⟩
  · rw [if_neg h]
    refine ⟨by simp, by simp, by simp, fun h' => by simp at h', fun h' => ?_⟩
    exact absurd (by simp only [Bool.and_eq_true, m_in_iff]; exact h') h
theorem range_le8 {m : TModel} {cuts : List Int} {s : Int} (h : (m_stageRange m cuts s).1 < (m_stageRange m cuts s).2) : (m_stageRange m cuts s).2 ≤ 8 := by
  have h1 := range_ok m cuts s
  have := cuts_len (h1.2.2.2.1 h).1
  omega

theorem chain_get : ∀ {l : List TOp'} {p : Option Int}, chainGo p l = true → ∀ (i : Nat) (x : TOp'), l[i]? = some x → m_opOk x = true ∧ (∀ y : TOp', l[i + 1]? = some y → y.2.1 = x.2.2.1)
  | [], p, h, i, x, hx => by simp at hx
  | o :: r, p, h, i, x, hx => by
    simp only [chainGo, Bool.and_eq_true] at h
    cases i with
    | zero =>
      simp at hx; subst hx
      refine ⟨h.1.1, fun y hy => ?_⟩
      cases r with
      | nil => simp at hy
      | cons q r =>
        simp at hy; subst hy
        have := h.2
        simp only [chainGo, Bool.and_eq_true] at this
        have := this.1.2
        simp at this; omega
    | succ i =>
      have := chain_get h.2 i x (by simpa using hx)
      exact ⟨this.1, fun y hy => this.2 y (by simpa using hy)⟩
theorem size_out {m : TModel} (h : m_modelOk m = true) {k : Nat} (h0 : 0 < k) (hk : k ≤ m.length) : sizeAt m k = (gtd dOp m (k - 1)).2.2.1 := by
  unfold sizeAt
  by_cases hlt : k < m.length
  · rw [if_pos hlt]
    simp only [m_modelOk, Bool.and_eq_true] at h
    have := (chain_get h.2 (k - 1) _ (gtd_get (by omega) dOp)).2 (gtd dOp m k) (by rw [show k - 1 + 1 = k by omega]; exact gtd_get hlt dOp)
    exact this
  · rw [if_neg hlt, show m.length = k by omega]
theorem size_zero {m : TModel} (h : m_modelOk m = true) : sizeAt m 0 = (gtd dOp m 0).2.1 := by
  have := mod_len h
  unfold sizeAt
  rw [if_pos (by omega)]

/-- a loop from 'a' to just ahead of 'b' -/
theorem sliceLoop {α : Type} (l : List α) (a b : Int) (h0 : 0 ≤ a) (h1 : a ≤ b) (h2 : b ≤ l.length) (P : List α → Nat → Prop) (he : P [] b.toNat)
    (hs : ∀ (k : Nat) (x : α) (r : List α), a ≤ k → (k : Int) < b → k < l.length → (∀ d, gtd d l k = x) → P r (k + 1) → P (x :: r) k) : P (slice l a b) a.toNat := by
  suffices ∀ (n k : Nat), k + n = b.toNat → a.toNat ≤ k → P ((l.drop k).take n) k from this (b.toNat - a.toNat) a.toNat (by omega) (Nat.le_refl _)
  intro n
  induction n with
  | zero => intro k hk _; rw [List.take_zero, show k = b.toNat by omega]; exact he
  | succ n ih =>
    intro k hk hak
    have hlt : k < l.length := by omega
    obtain ⟨x, r, hx⟩ : ∃ x r, l.drop k = x :: r := by
      cases hx : l.drop k with
      | nil => have := congrArg List.length hx; simp at this; omega
      | cons x r => exact ⟨x, r, rfl⟩
    rw [hx, List.take_succ_cons]
    have := ih (k + 1) (by omega) (by omega)
    rw [drop_succ hx] at this
    exact hs k x _ (by omega) (by omega) hlt (gtd_drop hx) this

def selP (b : Bool) (x y : Prop) : Prop := match b with | true => x | false => y
theorem all_gtd {α : Type} (d : α) {l : List α} {f : α → Bool} : l.all f = true ↔ ∀ j, j < l.length → f (gtd d l j) = true := by
  rw [List.all_eq_true]
  constructor
  · intro h j hj; exact h _ (gtd_mem hj d)
  · intro h x hx
    obtain ⟨j, hj⟩ := List.getElem?_of_mem hx
    have := h j (List.getElem?_eq_some_iff.1 hj).1
    rwa [gtd_some hj] at this
theorem rest_len {α : Type} {l r : List α} {x : α} {k : Nat} (h : l.drop k = x :: r) : r.length = l.length - k - 1 := by
  have := congrArg List.length h
  simp at this; omega
theorem last_eq {α : Type} {l r : List α} {x : α} {k : Nat} (h : l.drop k = x :: r) (hl : l.length ≤ 9223372036854775807) : ((k : Int) == w64 ((l.length : Int) - 1)) = decide (r.length = 0) := by
  have h1 := rest_len h
  have h2 := lt_of_drop h
  rw [w64_ok (by omega) (by omega), Bool.eq_iff_iff]
  simp only [beq_iff_eq, decide_eq_true_eq]
  omega
theorem stages_le {c : TConfig} : 0 ≤ m_stagesOf c ∧ m_stagesOf c ≤ 8 ∧ (m_stagesOf c ≠ 0 ↔ m_cutsOk c.1 c.2.1 = true) ∧ (m_cutsOk c.1 c.2.1 = true → m_stagesOf c = c.2.1.length + 1) := by
  unfold m_stagesOf
  by_cases h : m_cutsOk c.1 c.2.1 = true
  · have := cuts_len h
    rw [if_pos h, w64_ok (by omega) (by omega)]
    exact ⟨by omega, by omega, ⟨fun _ => h, fun _ => by omega⟩, fun _ => rfl⟩
  · rw [if_neg h]
    exact ⟨by omega, by omega, ⟨fun h0 => absurd rfl h0, fun h1 => absurd h1 h⟩, fun h1 => absurd h1 h⟩
def p_left (p : TPipe) : Prop := ∀ s, s ∈ p.2.1 → s.1 ≤ 9223372036854775807
theorem left_spec {s : TStage} (h : s.1 ≤ 9223372036854775807) (hl : s.2.1.length ≤ 9223372036854775807) :
    (if 0 < w64 ((s.2.1.length : Int) - (if 0 < s.1 then s.1 else 0)) then w64 ((s.2.1.length : Int) - (if 0 < s.1 then s.1 else 0)) else 0) = m_left1 s := by
  have e : w64 ((s.2.1.length : Int) - (if 0 < s.1 then s.1 else 0)) = (s.2.1.length : Int) - (if 0 < s.1 then s.1 else 0) := by
    split <;> exact w64_ok (by omega) (by omega)
  rw [e]
  unfold m_left1 iMin iMax
  repeat' split
  all_goals omega
theorem left_impl {s : TStage} (hl : s.2.1.length ≤ 9223372036854775807) :
    w64 ((s.2.1.length : Int) - (if (s.2.1.length : Int) < (if s.1 < 0 then 0 else s.1) then (s.2.1.length : Int) else (if s.1 < 0 then 0 else s.1))) = m_left1 s := by
  have e : (s.2.1.length : Int) - (if (s.2.1.length : Int) < (if s.1 < 0 then 0 else s.1) then (s.2.1.length : Int) else (if s.1 < 0 then 0 else s.1)) = m_left1 s := by
    unfold m_left1 iMin iMax
    repeat' split
    all_goals omega
  rw [e]
  apply w64_ok
  · unfold m_left1 iMin iMax
    repeat' split
    all_goals omega
  · unfold m_left1 iMin iMax
    repeat' split
    all_goals omega
end Go.Proofs.Ytephkbajoofeoaa.Am
