/-
  CHAINS OF OPERATIONS IN STAGES: sizes; what comes out of the whole is what comes out of the stages one behind the other.
-/
import Derived.Test.YtephkbajoofeoaaK2
namespace Go.Proofs.Ytephkbajoofeoaa.Am
set_option linter.unusedSimpArgs false
set_option linter.unusedVariables false
open Go Sz

/-- operations that fit one behind the other, from so many to so many -/
def Chain : Int → List TOp' → Int → Prop
  | i, [], o => i = o
  | i, a :: r, o => m_opOk a = true ∧ a.2.1 = i ∧ Chain a.2.2.1 r o

theorem Chain.append : ∀ {a b : List TOp'} {i o : Int}, Chain i (a ++ b) o ↔ ∃ k, Chain i a k ∧ Chain k b o
  | [], b, i, o => by simp [Chain]
  | x :: a, b, i, o => by
    rw [List.cons_append, Chain, Chain.append]
    constructor
    · rintro ⟨h1, h2, k, h3, h4⟩; exact ⟨k, ⟨h1, h2, h3⟩, h4⟩
    · rintro ⟨k, ⟨h1, h2, h3⟩, h4⟩; exact ⟨h1, h2, k, h3, h4⟩

theorem chain_of_go : ∀ {l : List TOp'} {p : Option Int}, chainGo p l = true → ∃ i o, Chain i l o ∧ (∀ q, p = some q → l ≠ [] → q = i)
  | [], p, h => ⟨0, 0, rfl, fun q _ h => absurd rfl h⟩
  | a :: r, p, h => by
    simp only [chainGo, Bool.and_eq_true] at h
    obtain ⟨i, o, h1, h2⟩ := chain_of_go h.2
    have hp : ∀ q, p = some q → a :: r ≠ [] → q = a.2.1 := fun q hq _ => by
      have := h.1.2
      rw [hq] at this
      simpa using this
    cases r with
    | nil => exact ⟨a.2.1, a.2.2.1, ⟨h.1.1, rfl, rfl⟩, hp⟩
    | cons b r =>
      have := h2 _ rfl (by simp)
      rw [← this] at h1
      exact ⟨a.2.1, o, ⟨h.1.1, rfl, h1⟩, hp⟩
theorem go_of_chain : ∀ {l : List TOp'} {i o : Int} {p : Option Int}, Chain i l o → (∀ q, p = some q → q = i) → chainGo p l = true
  | [], i, o, p, h, hp => rfl
  | a :: r, i, o, p, h, hp => by
    obtain ⟨h1, h2, h3⟩ := h
    simp only [chainGo, Bool.and_eq_true]
    refine ⟨⟨h1, ?_⟩, go_of_chain h3 (fun q hq => by cases hq; rfl)⟩
    cases p with
    | none => rfl
    | some q => simp [hp q rfl, h2]
theorem Chain.in_eq {a : TOp'} {r : List TOp'} {i o : Int} (h : Chain i (a :: r) o) : a.2.1 = i := h.2.1
theorem Chain.out_eq : ∀ {l : List TOp'} {i o : Int}, Chain i l o → l ≠ [] → (gtd dOp l (l.length - 1)).2.2.1 = o
  | [], i, o, h, hn => absurd rfl hn
  | [a], i, o, h, hn => h.2.2
  | a :: b :: r, i, o, h, hn => by
    have := Chain.out_eq h.2.2 (by simp)
    simpa [gtd] using this
theorem modelOk_of {l : List TOp'} {i o : Int} (h : Chain i l o) (h1 : 1 ≤ l.length) (h2 : l.length ≤ 8) : m_modelOk l = true ∧ m_inOf l = i ∧ m_outOf l = o := by
  have hm : m_modelOk l = true := by
    simp only [m_modelOk, Bool.and_eq_true, m_in_iff]
    exact ⟨by omega, go_of_chain h (by simp)⟩
  refine ⟨hm, ?_, ?_⟩
  · unfold m_inOf; rw [if_pos hm]
    cases l with
    | nil => simp at h1
    | cons a r => exact h.2.1
  · unfold m_outOf; rw [if_pos hm]
    exact h.out_eq (by intro e; rw [e] at h1; simp at h1)
theorem chain_of {l : List TOp'} (h : m_modelOk l = true) : 1 ≤ l.length ∧ l.length ≤ 8 ∧ Chain (m_inOf l) l (m_outOf l) := by
  have hl := mod_len h
  refine ⟨hl.1, hl.2, ?_⟩
  have h' := h
  simp only [m_modelOk, Bool.and_eq_true] at h'
  obtain ⟨i, o, h1, _⟩ := chain_of_go h'.2
  have := modelOk_of h1 hl.1 hl.2
  rw [this.2.1, this.2.2]
  exact h1

theorem outOf_ok : ∀ {l : List TOp'} {i o : Int} {x : List Int}, Chain i l o → m_vecOf x i = true → m_vecOf (outOf l x) o = true
  | [], i, o, x, h, hx => by rw [outOf_nil, ← show i = o from h]; exact hx
  | a :: r, i, o, x, h, hx => by
    obtain ⟨h1, h2, h3⟩ := h
    rw [outOf_cons]
    exact outOf_ok h3 (opForward_ok h1 (by rw [h2]; exact hx))
theorem back_ok : ∀ {l : List TOp'} {i o : Int} {x d : List Int}, Chain i l o → m_vecOf x i = true → m_vecOf d o = true →
    m_vecOf (m_back l (inputsGo l x).1 d).2.1 i = true ∧ gradsGo l (m_back l (inputsGo l x).1 d).1 = true
  | [], i, o, x, d, h, hx, hd => by
    refine ⟨?_, rfl⟩
    show m_vecOf d i = true
    rw [show i = o from h]; exact hd
  | a :: r, i, o, x, d, h, hx, hd => by
    obtain ⟨h1, h2, h3⟩ := h
    rw [inputsGo]
    have hx' : m_vecOf x a.2.1 = true := by rw [h2]; exact hx
    have ih := back_ok h3 (opForward_ok h1 hx') hd
    have := opBackward_ok h1 hx' ih.1
    rw [m_back]
    refine ⟨by rw [← h2]; exact this.1, ?_⟩
    simp only [gradsGo, Bool.and_eq_true, beq_iff_eq]
    exact ⟨this.2, ih.2⟩
/-- the rows that go into a chain are right -/
theorem rows_ok (all : List TOp') {o : Int} : ∀ {l : List TOp'} {i : Int} {x : List Int} {k : Nat}, Chain i l o → all.drop k = l → k ≤ all.length → (l = [] → sizeAt all k = i) → m_vecOf x i = true → goesGo all k (inputsGo l x).1 = true
  | [], i, x, k, h, hk, hle, hs, hx => by
    simp only [inputsGo, goesGo, Bool.and_true]
    rw [hs rfl]; exact hx
  | a :: r, i, x, k, h, hk, hle, hs, hx => by
    obtain ⟨h1, h2, h3⟩ := h
    have hlt := lt_of_drop hk
    have hx' : m_vecOf x a.2.1 = true := by rw [h2]; exact hx
    simp only [inputsGo, goesGo, Bool.and_eq_true]
    refine ⟨?_, rows_ok all h3 (drop_succ hk) hlt (fun hr => ?_) (opForward_ok h1 hx')⟩
    · unfold sizeAt; rw [if_pos hlt, gtd_drop hk]; exact hx'
    · have : all.length = k + 1 := by have := rest_len hk; rw [hr] at this; simp at this; omega
      unfold sizeAt
      rw [if_neg (by omega), show all.length - 1 = k by omega, gtd_drop hk]
theorem goes_ok {l : List TOp'} {i o : Int} {x : List Int} (h : Chain i l o) (hl : l ≠ []) (hx : m_vecOf x i = true) : goesGo l 0 (inputsGo l x).1 = true :=
  rows_ok l h (by simp) (by simp) (fun h0 => absurd h0 hl) hx
theorem goesGo_take : ∀ (ops : List TOp') (rows : List (List Int)) (k n : Nat), goesGo ops k rows = true → goesGo ops k (rows.take n) = true
  | ops, [], k, n, h => by simp [goesGo]
  | ops, r :: rs, k, 0, h => by simp [goesGo]
  | ops, r :: rs, k, n + 1, h => by
    simp only [goesGo, List.take_succ_cons, Bool.and_eq_true] at h ⊢
    exact ⟨h.1, goesGo_take ops rs (k + 1) n h.2⟩

/-- the chain cut behind the first stage: rows and what goes back -/
theorem back_cut (a b : List TOp') (x d : List Int) :
    m_back (a ++ b) (inputsGo (a ++ b) x).1 d =
      ((m_back a (inputsGo a x).1 (m_back b (inputsGo b (outOf a x)).1 d).2.1).1 ++ (m_back b (inputsGo b (outOf a x)).1 d).1,
       (m_back a (inputsGo a x).1 (m_back b (inputsGo b (outOf a x)).1 d).2.1).2.1,
       (m_back a (inputsGo a x).1 (m_back b (inputsGo b (outOf a x)).1 d).2.1).2.2 || (m_back b (inputsGo b (outOf a x)).1 d).2.2) := by
  have hl := inputsGo_len a x
  have ht : ((inputsGo a x).1.take a.length).length = a.length := by simp; omega
  rw [inputsGo_append]
  simp only
  rw [back_append a b _ _ d ht]
  have e : ∀ d', m_back a ((inputsGo a x).1.take a.length) d' = m_back a (inputsGo a x).1 d' := fun d' => by
    rw [← back_more a _ [outOf a x] d' ht, inputs_take]
  rw [e]

theorem rowsAdd_append : ∀ (a b c d : List (List Int)), a.length = c.length → rowsAdd (a ++ b) (c ++ d) = ((rowsAdd a c).1 ++ (rowsAdd b d).1, (rowsAdd a c).2 || (rowsAdd b d).2)
  | [], b, c, d, h => by
    have : c = [] := List.eq_nil_of_length_eq_zero (by simpa using h.symm)
    subst this
    simp [rowsAdd]
  | x :: a, b, [], d, h => by simp at h
  | x :: a, b, y :: c, d, h => by
    rw [List.cons_append, List.cons_append, rowsAdd, rowsAdd_append a b c d (by simpa using h), rowsAdd]
    simp [Bool.or_assoc]
theorem rowsAdd_len : ∀ (a b : List (List Int)), (rowsAdd a b).1.length = min a.length b.length
  | [], b => by simp [rowsAdd]
  | x :: a, [] => by simp [rowsAdd]
  | x :: a, y :: b => by simp [rowsAdd, rowsAdd_len a b]
theorem rowsAdd_fit : ∀ {ops : List TOp'} {a b : List (List Int)}, a.length = ops.length → b.length = ops.length → gradsGo ops a = true → gradsGo ops b = true → gradsGo ops (rowsAdd a b).1 = true
  | [], a, b, h1, h2, h3, h4 => by
    have : a = [] := List.eq_nil_of_length_eq_zero (by simpa using h1)
    subst this
    simp [rowsAdd, gradsGo]
  | o :: ops, [], b, h1, h2, h3, h4 => by simp at h1
  | o :: ops, x :: a, [], h1, h2, h3, h4 => by simp at h2
  | o :: ops, x :: a, y :: b, h1, h2, h3, h4 => by
    simp only [gradsGo, Bool.and_eq_true, beq_iff_eq] at h3 h4
    simp only [rowsAdd, gradsGo, Bool.and_eq_true, beq_iff_eq]
    refine ⟨?_, rowsAdd_fit (by simpa using h1) (by simpa using h2) h3.2 h4.2⟩
    rw [vz_len]; omega
end Go.Proofs.Ytephkbajoofeoaa.Am
