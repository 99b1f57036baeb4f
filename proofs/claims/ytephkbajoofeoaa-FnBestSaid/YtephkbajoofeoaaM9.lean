/-
  DRAWS of the laws of queues, cuts and words.
-/
import Derived.Test.YtephkbajoofeoaaM8
namespace Go.Proofs.Ytephkbajoofeoaa.Am
set_option linter.unusedSimpArgs false
set_option linter.unusedVariables false
open Go Sz

def q_bat (_ : TCur) (_ : TModel) (t : List TPair × TCur) : Prop := 1 ≤ t.1.length ∧ t.1.length ≤ 4 ∧ p_cur t.2
def q_anyBat (_ : TCur) (_ : TModel) (t : List TPair × TCur) : Prop := t.1.length ≤ 6 ∧ p_cur t.2
def q_drawPush (_ : List Int) (t : TQueue × TItem) : Prop := okQueue t.1 ∧ t.2.2.length ≤ 7
@[reducible] def q_drawCutsOk (_ : List Int) (t : TModel × List Int) : Prop := t.1.length ≤ 9
@[reducible] def q_drawBestCuts (_ : List Int) (t : TModel × Int) : Prop := t.1.length ≤ 9
@[reducible] def q_drawPipeNew (_ : List Int) (t : TConfig × List TPair) : Prop := t.1.2.2.2.1.length ≤ 4
def q_config (_ : TCur) (t : TConfig × List TPair × TCur) : Prop := t.1.2.1.length ≤ 3 ∧ 1 ≤ t.1.2.2.2.1.length ∧ t.1.2.2.2.1.length ≤ 4 ∧ t.1.2.2.2.2.1.length ≤ 4 ∧ 1 ≤ t.1.2.2.2.2.2.length ∧ t.1.2.2.2.2.2.length ≤ 4 ∧ p_cur t.2.2
@[reducible] def q_anyConfig (_ : TCur) (t : TConfig × List TPair × TCur) : Prop := t.1.2.2.2.1.length ≤ 4
theorem items_sz {l : List TItem} (h : ∀ x, x ∈ l → x.2.length ≤ 7) : sz l ≤ 8 * l.length := by
  induction l with
  | nil => exact Nat.le_refl 0
  | cons x l ih =>
    have h1 := h x (List.mem_cons_self ..)
    have h2 := ih (fun y hy => h y (List.mem_cons_of_mem _ hy))
    have h3 := sz_ints x.2
    simp only [sz_cons, sz_prod, sz_int, List.length_cons]
    omega
theorem queue_sz {q : TQueue} (h : okQueue q) : sz q ≤ 32 := by
  have := items_sz h.2.2
  have h1 := h.1
  simp only [sz_prod, sz_int]
  omega
theorem push_items {q : TQueue} {x : TItem} {n : Nat} (hq : q.2.length ≤ n) (h : ∀ x, x ∈ q.2 → x.2.length ≤ 7) (hx : x.2.length ≤ 7) :
    (m_push q x).1.2.length ≤ n + 1 ∧ (m_push q x).1.1 = q.1 ∧ ∀ y, y ∈ (m_push q x).1.2 → y.2.length ≤ 7 := by
  unfold m_push
  split
  · refine ⟨by simp; omega, rfl, fun y hy => ?_⟩
    rcases List.mem_append.1 hy with hy | hy
    · exact h y hy
    · rw [List.mem_singleton.1 hy]; exact hx
  · exact ⟨Nat.le_succ_of_le hq, rfl, h⟩
theorem items_sum {l : List TItem} (h : l.all m_itemOk = true) : 0 ≤ (l.map fun x => (x.2.length : Int)).sum ∧ (l.map fun x => (x.2.length : Int)).sum ≤ 6 * l.length := by
  induction l with
  | nil => simp
  | cons x l ih =>
    simp only [List.all_cons, Bool.and_eq_true] at h
    have h1 := ih h.2
    have h2 := h.1
    simp only [m_itemOk, m_vecOk, Bool.and_eq_true, m_in_iff] at h2
    have e : ((x :: l).map fun x => (x.2.length : Int)).sum = x.2.length + (l.map fun x => (x.2.length : Int)).sum := by simp
    rw [e, List.length_cons]
    omega
theorem push_ok {q : TQueue} {x : TItem} (hq : m_queueOk q = true) (hx : m_itemOk x = true) (hl : (q.2.length : Int) < q.1) : m_push q x = ((q.1, q.2 ++ [x]), true) := by
  simp [m_push, hq, hx, hl]
theorem drop_ok {q : TQueue} {x : TItem} (hq : m_queueOk q = true) (hx : m_itemOk x = true) (hl : (q.2.length : Int) < q.1) (k : Nat) : m_queueOk (q.1, q.2.drop k ++ [x]) = true := by
  simp only [m_queueOk, Bool.and_eq_true, decide_eq_true_eq, List.all_append, List.all_cons, List.all_nil, List.length_append, List.length_drop, List.length_singleton, Bool.and_true] at hq ⊢
  refine ⟨⟨hq.1.1, by omega⟩, ?_, hx⟩
  rw [List.all_eq_true] at hq ⊢
  exact fun y hy => hq.2 y (List.mem_of_mem_drop hy)
theorem words_push {q : TQueue} {x : TItem} (hq : m_queueOk q = true) (hx : m_itemOk x = true) (hl : (q.2.length : Int) < q.1) : m_queueWords (q.1, q.2 ++ [x]) = w64 (m_queueWords q + x.2.length) := by
  have h := drop_ok hq hx hl 0
  rw [List.drop_zero] at h
  unfold m_queueWords
  rw [if_pos h, if_pos hq]
  simp only [m_queueOk, Bool.and_eq_true, decide_eq_true_eq] at hq
  have h1 := items_sum hq.2
  rw [w64_ok (x := (q.2.map _).sum) (by omega) (by omega)]
  simp [List.map_append, List.sum_append]
theorem pop_ok {q : TQueue} {x : TItem} (hq : m_queueOk q = true) (hx : m_itemOk x = true) (hl : (q.2.length : Int) < q.1) (k : Nat) :
    m_pop (q.1, q.2.drop k ++ [x]) = ((q.1, (q.2.drop k ++ [x]).tail), gtd (0, []) (q.2.drop k ++ [x]) 0, true) := by
  simp [m_pop, drop_ok hq hx hl k]
theorem pop_nil (n : Int) : (m_pop (n, [])).2.2 = false := by simp [m_pop]
theorem itemOk_iff (x : TItem) : m_itemOk x = (m_vecOk x.2 && decide (x.1 ≥ 0) && decide (x.1 < 5)) := rfl
end Go.Proofs.Ytephkbajoofeoaa.Am
