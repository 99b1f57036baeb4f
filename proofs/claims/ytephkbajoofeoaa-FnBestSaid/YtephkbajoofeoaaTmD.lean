/-
  THE LAWS' OWN FUNCTIONS: sizes, copies, likeness: what they ask, shown once for all types.
-/
import Derived.Test.YtephkbajoofeoaaM1
namespace Go.Proofs.Ytephkbajoofeoaa.Am
set_option linter.unusedSimpArgs false
set_option linter.unusedVariables false
open Go Sz

theorem pl_0 : pl 1048576 := ⟨by omega, by omega⟩
theorem pl_szN {n : Nat} {left : Int} (h : pl left) : pl (m_szN n left) := by
  unfold m_szN pl at *
  split <;> omega

theorem sz_step {α β : Type} [Sz α] [Sz β] {x : α} {y : β} {left : Int} (hl : 0 ≤ m_sz x left) : m_sz y (m_sz x left) = m_sz (x, y) left := by
  unfold m_sz m_szN at *
  rw [sz_pair]
  split at hl
  · rename_i h1
    rw [if_pos h1]
    split <;> split <;> omega
  · omega

theorem sz_neg {α γ : Type} [Sz α] [Sz γ] {x : α} {z : γ} {left : Int} (hl : m_sz x left < 0) (h : sz x ≤ sz z) (hp : -1 ≤ left) : -1 = m_sz z left := by
  unfold m_sz m_szN at *
  split at hl
  · omega
  · rw [if_neg (by omega)]

theorem law_p {α : Type} [Sz α] {x : α} {left : Int} (h : ¬ m_sz x left < 0) (hl : left ≤ 1048576) : p_to x := by
  unfold m_sz m_szN at h
  unfold p_to
  split at h <;> omega
theorem sz_le {α : Type} [Sz α] {x : α} {left : Int} (h : ¬ m_sz x left < 0) (hl : left ≤ 1048576) : m_sz x left ≤ 1048576 := by
  unfold m_sz m_szN at *
  split at h <;> split <;> omega
theorem law_ints {l : List Int} (h : ¬ (l.length : Int) > 1048576) : p_to l := by
  unfold p_to
  rw [sz_ints]
  omega
theorem law_bools {l : List Bool} (h : ¬ (l.length : Int) > 1048576) : p_to l := by
  unfold p_to
  rw [sz_bools]
  omega

theorem sz_flat {α : Type} [Sz α] (l : List α) (h : ∀ x : α, sz x = 0) : sz l = l.length := by
  induction l with
  | nil => rfl
  | cons x l ih => simp [ih, h]; omega

/-- 'left -= len(a)' -/
theorem sz_len {α : Type} [Sz α] {a : List α} {left : Int} (h : p_sz a left) (hb : a.length ≤ 9223372036854775807) : w64 (left - (a.length : Int)) = left - a.length := by
  unfold p_sz pl at h
  exact w64_ok (by omega) (by omega)

theorem szFlat {α : Type} [Sz α] {a : List α} {left : Int} {Q : Int → Prop} (hf : ∀ x : α, sz x = 0) (h : p_sz a left) (hb : a.length ≤ 9223372036854775807) (hq : Q (m_sz a left)) :
    ((decide (w64 (left - (a.length : Int)) < (0 : Int)) = true → Q (-1)) ∧ (decide (w64 (left - (a.length : Int)) < (0 : Int)) = false → Q (w64 (left - (a.length : Int))))) := by
  rw [sz_len h hb]
  unfold m_sz m_szN at hq
  rw [sz_flat a hf] at hq
  constructor
  · intro h1
    simp only [decide_eq_true_eq] at h1
    rw [if_neg (by omega)] at hq
    exact hq
  · intro h1
    simp only [decide_eq_false_iff_not] at h1
    rw [if_pos (by omega)] at hq
    exact hq

theorem szLoop {α : Type} [Sz α] (d : α) {a : List α} {left : Int} {Q : Int → Prop} {A : Int → Int → Prop} (h : p_sz a left) (hb : a.length ≤ 9223372036854775807)
    (hA : ∀ (l i : Int), ((decide (i < (a.length : Int)) = true → ((((0 : Int) ≤ i ∧ Int.toNat i < a.length) ∧ (p_sz (gtd d a (Int.toNat i)) l)) ∧ ((decide (m_sz (gtd d a (Int.toNat i)) l < (0 : Int)) = true → Q (-1)) ∧ (decide (m_sz (gtd d a (Int.toNat i)) l < (0 : Int)) = false → A (m_sz (gtd d a (Int.toNat i)) l) (w64 (i + (1 : Int))))))) ∧ (decide (i < (a.length : Int)) = false → Q l)) → A l i)
    (hq : Q (m_sz a left)) :
    ((decide (w64 (left - (a.length : Int)) < (0 : Int)) = true → Q (-1)) ∧ (decide (w64 (left - (a.length : Int)) < (0 : Int)) = false → A (w64 (left - (a.length : Int))) 0)) := by
  rw [sz_len h hb]
  constructor
  · intro h1
    simp only [decide_eq_true_eq] at h1
    have hle := len_sz a
    rw [m_sz, m_szN, if_neg (by omega)] at hq
    exact hq
  · intro h1
    simp only [decide_eq_false_iff_not] at h1
    have key : ∀ l : Int, 0 ≤ l → l ≤ 1048576 → (if (sz a - a.length : Int) ≤ l then l - (sz a - a.length : Int) else -1) = m_sz a left → A l (0 : Nat) := by
      refine listLoop a (fun r k => ∀ l : Int, 0 ≤ l → l ≤ 1048576 → (if (sz r - r.length : Int) ≤ l then l - (sz r - r.length : Int) else -1) = m_sz a left → A l k) ?_ ?_
      · intro l hl hl2 he
        refine hA l _ ⟨fun hc => by simp at hc, fun _ => ?_⟩
        have e0 : ((sz ([] : List α) : Nat) : Int) - (([] : List α).length : Nat) = 0 := rfl
        rw [e0, if_pos hl] at he
        rw [← he] at hq
        simpa using hq
      · intro k x r hk hlt hg ih l hl hl2 he
        have hr := len_sz r
        have e1 : ((sz (x :: r) : Nat) : Int) - ((x :: r).length : Nat) = sz x + (sz r - r.length) := by
          rw [sz_cons, List.length_cons]; omega
        rw [e1] at he
        refine hA l _ ⟨fun _ => ?_, fun hc => by simp at hc; omega⟩
        rw [Int.toNat_natCast, hg d]
        refine ⟨⟨⟨by omega, hlt⟩, by unfold p_sz pl; omega⟩, fun h2 => ?_, fun h2 => ?_⟩
        · simp only [decide_eq_true_eq] at h2
          unfold m_sz m_szN at h2
          split at h2
          · omega
          · rw [if_neg (by omega)] at he; rw [he]; exact hq
        · simp only [decide_eq_false_iff_not] at h2
          unfold m_sz m_szN at h2 ⊢
          split at h2
          rotate_left
          · omega
          rw [if_pos (by assumption), w64_ok (by omega) (by omega), show (k : Int) + 1 = (k + 1 : Nat) by omega]
          refine ih _ (by omega) (by omega) ?_
          rw [← he]
          split <;> split <;> omega
    have := key (left - a.length) (by omega) (by unfold p_sz pl at h; omega) (by
      unfold m_sz m_szN
      split <;> split <;> omega)
    exact this

theorem set_take {α : Type} {out a : List α} {k : Nat} {x : α} {r : List α} (hk : a.drop k = x :: r) (hl : out.length = a.length) (ht : out.take k = a.take k) : (out.set k x).take (k + 1) = a.take (k + 1) := by
  have hlt := lt_of_drop hk
  have hx : a[k]? = some x := by
    have := congrArg List.head? hk
    simpa [List.head?_drop] using this
  apply List.ext_getElem?
  intro i
  simp only [List.getElem?_take, List.getElem?_set]
  split
  rotate_left
  · rfl
  by_cases h1 : k = i
  · subst h1
    obtain ⟨_, hx2⟩ := List.getElem?_eq_some_iff.1 hx
    simp [hl, hlt]
    exact hx2.symm
  · rw [if_neg h1]
    have := congrArg (fun l => l[i]?) ht
    simp only [List.getElem?_take] at this
    rw [if_pos (by omega), if_pos (by omega)] at this
    exact this

theorem toLoop {α : Type} [Sz α] (d : α) {a : List α} {Q : List α → Prop} {A : Int → List α → Prop} (h : p_to a)
    (hA : ∀ (i : Int) (out : List α), ((decide (i < (a.length : Int)) = true → ((((0 : Int) ≤ i ∧ Int.toNat i < a.length) ∧ (p_to (gtd d a (Int.toNat i)) ∧ (((0 : Int) ≤ i ∧ Int.toNat i < out.length) ∧ ((0 + (Int.toNat i)) < out.length)))) ∧ A (w64 (i + (1 : Int))) (List.take out.length ((out).set (0 + (Int.toNat i)) (gtd d a (Int.toNat i)))))) ∧ (decide (i < (a.length : Int)) = false → Q (List.take out.length (List.drop 0 out)))) → A i out)
    (hq : Q a) : (((0 : Int) ≤ (a.length : Int) ∧ (a.length : Int) ≤ big) ∧ A 0 (List.take (Int.toNat (a.length : Int)) (List.replicate (Int.toNat (a.length : Int)) d))) := by
  have hle := len_sz a
  unfold p_to at h
  refine ⟨⟨by omega, by rw [bigI]; omega⟩, ?_⟩
  have key : ∀ out : List α, out.length = a.length → out.take 0 = a.take 0 → A (0 : Nat) out := by
    refine listLoop a (fun r k => ∀ out : List α, out.length = a.length → out.take k = a.take k → A k out) ?_ ?_
    · intro out hl ht
      refine hA _ out ⟨fun hc => by simp at hc, fun _ => ?_⟩
      rw [← hl, List.take_length, hl, List.take_length] at ht
      rw [List.drop_zero, List.take_length, ht]
      exact hq
    · intro k x r hk hlt hg ih out hl ht
      refine hA _ out ⟨fun _ => ?_, fun hc => by simp at hc; omega⟩
      rw [Int.toNat_natCast, hg d]
      have hx := sz_drop_cons hk
      refine ⟨⟨⟨by omega, hlt⟩, by unfold p_to; omega, ⟨by omega, by omega⟩, by omega⟩, ?_⟩
      rw [w64_ok (by omega) (by omega), show (k : Int) + 1 = (k + 1 : Nat) by omega, Nat.zero_add]
      have e : List.take out.length (out.set k x) = out.set k x := by rw [List.take_of_length_le]; simp
      rw [e]
      exact ih _ (by simp [hl]) (set_take hk hl ht)
  refine key _ (by simp) (by simp)

theorem toFlat {α : Type} [Sz α] (d : α) {a : List α} {Q : List α → Prop} {A : Int → List α → Prop} (h : p_to a)
    (hA : ∀ (i : Int) (out : List α), ((decide (i < (a.length : Int)) = true → ((((0 : Int) ≤ i ∧ Int.toNat i < a.length) ∧ (((0 : Int) ≤ i ∧ Int.toNat i < out.length) ∧ ((0 + (Int.toNat i)) < out.length))) ∧ A (w64 (i + (1 : Int))) (List.take out.length ((out).set (0 + (Int.toNat i)) (gtd d a (Int.toNat i)))))) ∧ (decide (i < (a.length : Int)) = false → Q (List.take out.length (List.drop 0 out)))) → A i out)
    (hq : Q a) : (((0 : Int) ≤ (a.length : Int) ∧ (a.length : Int) ≤ big) ∧ A 0 (List.take (Int.toNat (a.length : Int)) (List.replicate (Int.toNat (a.length : Int)) d))) :=
  toLoop d h (fun i out hh => hA i out ⟨fun hc => ⟨⟨(hh.1 hc).1.1, (hh.1 hc).1.2.2⟩, (hh.1 hc).2⟩, hh.2⟩) hq

theorem eqLoopG {α : Type} [DecidableEq α] (d : α) {a b : List α} {Q : Bool → Prop} {A : Int → Prop} {E : α → α → Bool} (hE : ∀ x y, E x y = decide (x = y)) (hb : a.length ≤ 9223372036854775807)
    (hA : ∀ (i : Int), ((decide (i < (a.length : Int)) = true → ((((0 : Int) ≤ i ∧ Int.toNat i < a.length) ∧ ((0 : Int) ≤ i ∧ Int.toNat i < b.length)) ∧ (((!(E (gtd d a (Int.toNat i)) (gtd d b (Int.toNat i)))) = true → Q false) ∧ ((!(E (gtd d a (Int.toNat i)) (gtd d b (Int.toNat i)))) = false → A (w64 (i + (1 : Int))))))) ∧ (decide (i < (a.length : Int)) = false → Q true)) → A i)
    (hq : Q (m_eq a b)) : ((((a.length : Int) != (b.length : Int)) = true → Q false) ∧ (((a.length : Int) != (b.length : Int)) = false → A 0)) := by
  constructor
  · intro h
    have : a ≠ b := by rintro rfl; simp at h
    simpa [m_eq, this] using hq
  · intro h
    have hl : a.length = b.length := by
      have h : ((a.length : Int) == (b.length : Int)) = true := by simpa [bne] using h
      have := of_decide_eq_true (by simpa using h : decide ((a.length : Int) = b.length) = true)
      omega
    have key : m_eq (a.drop 0) (b.drop 0) = m_eq a b → A (0 : Nat) := by
      refine listLoop a (fun r k => m_eq r (b.drop k) = m_eq a b → A k) ?_ ?_
      · intro he
        refine hA _ ⟨fun hc => by simp at hc, fun _ => ?_⟩
        rw [← he] at hq
        simpa [m_eq, hl] using hq
      · intro k x r hk hlt hg ih he
        refine hA _ ⟨fun _ => ?_, fun hc => by simp at hc; omega⟩
        obtain ⟨y, s, hbk⟩ : ∃ y s, b.drop k = y :: s := by
          cases hbk : b.drop k with
          | nil => have := congrArg List.length hbk; simp at this; omega
          | cons y s => exact ⟨y, s, rfl⟩
        rw [Int.toNat_natCast, hg d, gtd_drop hbk d, hE]
        refine ⟨⟨⟨by omega, hlt⟩, by omega, by omega⟩, fun h1 => ?_, fun h1 => ?_⟩
        · have hne : x ≠ y := by simpa using h1
          rw [← he, hbk] at hq
          simpa [m_eq, hne] using hq
        · have hxy : x = y := by simpa using h1
          rw [w64_ok (by omega) (by omega), show (k : Int) + 1 = (k + 1 : Nat) by omega]
          refine ih ?_
          rw [← he, hbk, drop_succ hbk]
          simp [m_eq, hxy]
    exact key rfl

theorem eqFlatInt {a b : List Int} {Q : Bool → Prop} {A : Int → Prop} (hb : a.length ≤ 9223372036854775807)
    (hA : ∀ (i : Int), ((decide (i < (a.length : Int)) = true → ((((0 : Int) ≤ i ∧ Int.toNat i < a.length) ∧ ((0 : Int) ≤ i ∧ Int.toNat i < b.length)) ∧ ((((gtd (0 : Int) a (Int.toNat i)) != (gtd (0 : Int) b (Int.toNat i))) = true → Q false) ∧ (((gtd (0 : Int) a (Int.toNat i)) != (gtd (0 : Int) b (Int.toNat i))) = false → A (w64 (i + (1 : Int))))))) ∧ (decide (i < (a.length : Int)) = false → Q true)) → A i)
    (hq : Q (m_eq a b)) : ((((a.length : Int) != (b.length : Int)) = true → Q false) ∧ (((a.length : Int) != (b.length : Int)) = false → A 0)) :=
  eqLoopG (0 : Int) (E := fun x y => x == y) (fun x y => by rw [Bool.eq_iff_iff]; simp) hb (fun i h => hA i h) hq

theorem eqFlatBool {a b : List Bool} {Q : Bool → Prop} {A : Int → Prop} (hb : a.length ≤ 9223372036854775807)
    (hA : ∀ (i : Int), ((decide (i < (a.length : Int)) = true → ((((0 : Int) ≤ i ∧ Int.toNat i < a.length) ∧ ((0 : Int) ≤ i ∧ Int.toNat i < b.length)) ∧ (((!((gtd false a (Int.toNat i)) == (gtd false b (Int.toNat i)))) = true → Q false) ∧ ((!((gtd false a (Int.toNat i)) == (gtd false b (Int.toNat i)))) = false → A (w64 (i + (1 : Int))))))) ∧ (decide (i < (a.length : Int)) = false → Q true)) → A i)
    (hq : Q (m_eq a b)) : ((((a.length : Int) != (b.length : Int)) = true → Q false) ∧ (((a.length : Int) != (b.length : Int)) = false → A 0)) :=
  eqLoopG false (E := fun x y => x == y) (fun x y => by rw [Bool.eq_iff_iff]; simp) hb (fun i h => hA i h) hq

/-- 'for each x: if not p(x): return false' -/
theorem allLoop {α : Type} (d : α) {l : List α} {c p : α → Bool} {Q : Bool → Prop} {A : Int → Prop} {e : Bool} (hb : l.length ≤ 9223372036854775807) (hc : ∀ x, c x = !p x)
    (hA : ∀ (i : Int), ((decide (i < (l.length : Int)) = true → (((0 : Int) ≤ i ∧ Int.toNat i < l.length) ∧ ((c (gtd d l (Int.toNat i)) = true → Q false) ∧ (c (gtd d l (Int.toNat i)) = false → A (w64 (i + (1 : Int))))))) ∧ (decide (i < (l.length : Int)) = false → Q e)) → A i)
    (hq : Q (l.all p && e)) : A 0 := by
  have key : (l.drop 0).all p = l.all p → A (0 : Nat) := by
    refine listLoop l (fun r k => r.all p = l.all p → A k) ?_ ?_
    · intro he
      refine hA _ ⟨fun h => by simp at h, fun _ => ?_⟩
      rw [← he] at hq
      simpa using hq
    · intro k x r hk hlt hg ih he
      refine hA _ ⟨fun _ => ?_, fun h => by simp at h; omega⟩
      rw [Int.toNat_natCast, hg, w64_ok (by omega) (by omega)]
      refine ⟨⟨by omega, hlt⟩, fun h => ?_, fun h => ih ?_⟩
      · have hp : p x = false := by simpa [hc] using h
        have : l.all p = false := by rw [← he, List.all_cons, hp]; rfl
        rw [this] at hq
        exact hq
      · have hp : p x = true := by simpa [hc] using h
        rw [← he, List.all_cons, hp]
        rfl
  exact key rfl

end Go.Proofs.Ytephkbajoofeoaa.Am
