/-
  WHAT IS DRAWN: what is known of it.
-/
import Derived.Test.YtephkbajoofeoaaM5
namespace Go.Proofs.Ytephkbajoofeoaa.Am
set_option linter.unusedSimpArgs false
set_option linter.unusedVariables false
open Go Sz

abbrev TCur := List Int × Int × Int
def p_new (l : List Int) : Prop := l.length ≤ 1048576
def p_cur (c : TCur) : Prop := 0 ≤ c.2.1 ∧ c.1.length ≤ 1048576
@[reducible] def p_cur2 {α : Type} (c : TCur) (_ : α) : Prop := p_cur c
@[reducible] def q_new (_ : List Int) (t : TCur) : Prop := p_cur t
def q_drawPlan (_ : List Int) (_ : Int × Int × Int × Int × Bool) : Prop := True
def q_drawPlanOk (_ : List Int) (_ : List TIns × Int × Int × Int × Bool) : Prop := True
def m_big (code : List Int) : Bool := decide ((code.length : Int) > 1048576)
def m_at (code : List Int) (i : Int) : Int := if i < code.length then w64 (gtd 0 code i.toNat) else Int.tmod (w64 (w64 (i * 37) + w64 (code.length * 11))) 256
def p_at (_ : List Int) (i : Int) : Prop := 0 ≤ i
def q_byte (_ : TCur) (t : Int × TCur) : Prop := 0 ≤ t.1 ∧ t.1 ≤ 255 ∧ p_cur t.2
def q_below (_ : TCur) (n : Int) (t : Int × TCur) : Prop := 0 ≤ t.1 ∧ (0 < n → t.1 < n) ∧ (n ≤ 0 → t.1 = 0) ∧ p_cur t.2
@[reducible] def q_once (_ : TCur) (_ : Int) (t : Bool × TCur) : Prop := p_cur t.2
def p_pickInt (c : TCur) (l : List Int) : Prop := p_cur c ∧ 1 ≤ l.length ∧ l.length ≤ 100
def q_pickInt (_ : TCur) (l : List Int) (t : Int × TCur) : Prop := t.1 ∈ l ∧ p_cur t.2
def q_fix (_ : TCur) (t : Int × TCur) : Prop := m_fixOk t.1 = true ∧ p_cur t.2
@[reducible] def q_raw (_ : TCur) (t : Int × TCur) : Prop := p_cur t.2
def p_vec (c : TCur) (n : Int) : Prop := p_cur c ∧ n ≤ 1000
def q_vec (_ : TCur) (n : Int) (t : List Int × TCur) : Prop := t.1.length = n.toNat ∧ m_allFix t.1 = true ∧ p_cur t.2
def q_any (_ : TCur) (t : List Int × TCur) : Prop := t.1.length ≤ 7 ∧ p_cur t.2
def p_op (c : TCur) (n : Int) : Prop := p_cur c ∧ 1 ≤ n ∧ n ≤ 3
def q_op (_ : TCur) (n : Int) (t : TOp' × TCur) : Prop := m_opOk t.1 = true ∧ t.1.2.1 = n ∧ 1 ≤ t.1.2.2.1 ∧ t.1.2.2.1 ≤ 3 ∧ t.1.2.2.2.length ≤ 36 ∧ p_cur t.2
def q_anyOp (_ : TCur) (t : TOp' × TCur) : Prop := t.1.2.2.2.length ≤ 40 ∧ p_cur t.2
def q_model (_ : TCur) (t : TModel × TCur) : Prop := m_modelOk t.1 = true ∧ t.1.length ≤ 6 ∧ p_cur t.2
def q_anyModel (_ : TCur) (t : TModel × TCur) : Prop := t.1.length ≤ 9 ∧ p_cur t.2
def p_batch (c : TCur) (m : TModel) : Prop := p_cur c ∧ m_modelOk m = true
def q_batch (_ : TCur) (m : TModel) (t : List TPair × TCur) : Prop := m_batchOk m t.1 = true ∧ p_cur t.2
def q_anyBatch (_ : TCur) (m : TModel) (t : List TPair × TCur) : Prop := t.1.length ≤ 6 ∧ p_cur t.2
def p_cuts (c : TCur) (m : TModel) : Prop := p_cur c ∧ m.length ≤ 9
def q_cuts (_ : TCur) (m : TModel) (t : List Int × TCur) : Prop := (m_modelOk m = true → m_cutsOk m t.1 = true) ∧ t.1.length ≤ 3 ∧ p_cur t.2
def q_anyCuts (_ : TCur) (m : TModel) (t : List Int × TCur) : Prop := t.1.length ≤ 4 ∧ p_cur t.2
@[reducible] def q_some (_ : TCur) (t : Int × Int × Int × Int × Bool × TCur) : Prop := p_cur t.2.2.2.2.2
def okQueue (q : TQueue) : Prop := q.2.length ≤ 4 ∧ q.1 ≤ 6 ∧ ∀ x, x ∈ q.2 → x.2.length ≤ 7
def q_queue (_ : TCur) (t : TQueue × TCur) : Prop := okQueue t.1 ∧ p_cur t.2

/-! plans -/
theorem ahead_len (st s m : Int) : (m_ahead st s m).length ≤ 3 := by unfold m_ahead; split <;> split <;> simp
theorem bof_len (st s m : Int) (redo : Bool) : (m_backOf st s m redo).length ≤ 4 := by unfold m_backOf; split <;> split <;> split <;> simp
theorem fm_le {α : Type} {f : Nat → List α} {R : Nat} (n : Nat) (h : ∀ k, k < n → (f k).length ≤ R) : ((List.range n).flatMap f).length ≤ n * R := by
  induction n with
  | zero => simp
  | succ n ih =>
    have h1 := ih (fun k hk => h k (by omega))
    have h2 := h n (by omega)
    rw [fm_snoc, List.length_append, Nat.add_mul]; omega
theorem planned_iff {st s mi : Int} : m_planned st s mi = true ↔ 1 ≤ st ∧ st ≤ 4 ∧ 0 ≤ s ∧ s < st ∧ 1 ≤ mi ∧ mi ≤ 5 := by
  simp only [m_planned, Bool.and_eq_true, m_in_iff]; omega
theorem warm_rng {ds st s mi : Int} (h : m_planned st s mi = true) : 0 ≤ m_warmUp ds st s mi ∧ m_warmUp ds st s mi ≤ mi := by
  have := planned_iff.1 h
  unfold m_warmUp; rw [if_pos h]
  split
  · unfold iMin; split <;> omega
  · omega
def aheadTo (st s : Int) (w : Nat) : List TIns := (List.range w).flatMap fun m : Nat => m_ahead st s (m : Int)
def step2 (st s mi : Int) (redo : Bool) (w m : Nat) : List TIns := (if (m : Int) + w < mi then m_ahead st s ((m : Int) + w) else []) ++ m_backOf st s (m : Int) redo
def backTo (st s mi : Int) (redo : Bool) (w k : Nat) : List TIns := (List.range k).flatMap fun m : Nat => step2 st s mi redo w m
theorem plan_eq {ds st s mi : Int} {redo : Bool} (h : (m_in ds 1 2 && m_planned st s mi) = true) :
    m_plan ds st s mi redo = aheadTo st s (m_warmUp ds st s mi).toNat ++ backTo st s mi redo (m_warmUp ds st s mi).toNat mi.toNat ++ [(8, 0)] := by
  unfold m_plan; rw [if_pos h]; rfl
theorem plan_nil {ds st s mi : Int} {redo : Bool} (h : ¬ (m_in ds 1 2 && m_planned st s mi) = true) : m_plan ds st s mi redo = [] := by
  unfold m_plan; rw [if_neg h]
theorem aheadTo_le (st s : Int) (w : Nat) : (aheadTo st s w).length ≤ w * 3 := fm_le w (fun k _ => ahead_len st s k)
theorem backTo_le (st s mi : Int) (redo : Bool) (w k : Nat) : (backTo st s mi redo w k).length ≤ k * 7 := by
  refine fm_le k (fun m _ => ?_)
  have h1 := ahead_len st s ((m : Int) + w)
  have h2 := bof_len st s m redo
  unfold step2
  rw [List.length_append]
  split
  · omega
  · simp only [List.length_nil]; omega
theorem aheadTo_snoc (st s : Int) (w : Nat) : aheadTo st s (w + 1) = aheadTo st s w ++ m_ahead st s w := fm_snoc
theorem backTo_snoc (st s mi : Int) (redo : Bool) (w k : Nat) : backTo st s mi redo w (k + 1) = backTo st s mi redo w k ++ step2 st s mi redo w k := fm_snoc
theorem guard_plan {ds st s mi : Int} : ((((!(m_in ds 1 2)) || (!(m_in st 1 4))) || (!(m_in s 0 (w64 (st - 1))))) || (!(m_in mi 1 5))) = !(m_in ds 1 2 && m_planned st s mi) := by
  by_cases hst : m_in st 1 4 = true
  · have := m_in_iff.1 hst
    rw [w64_ok (by omega) (by omega)]
    unfold m_planned
    cases m_in ds 1 2 <;> cases m_in st 1 4 <;> cases m_in s 0 (st - 1) <;> cases m_in mi 1 5 <;> rfl
  · simp only [Bool.not_eq_true] at hst
    unfold m_planned
    rw [hst]; cases m_in ds 1 2 <;> rfl
theorem guard_plan2 {ds st s mi : Int} : (((ds != 1) && (ds != 2)) || (!(m_planned st s mi))) = !(m_in ds 1 2 && m_planned st s mi) := by
  have : ((ds != 1) && (ds != 2)) = !(m_in ds 1 2) := by
    rw [Bool.eq_iff_iff]; simp [m_in]; omega
  rw [this]; cases m_in ds 1 2 <;> cases m_planned st s mi <;> rfl
theorem roomL {α : Type} {l x : List α} (h : l.length + x.length ≤ 1000000) : (l.length = l.length ∨ l.length + (List.take x.length (List.drop 0 x)).length ≤ l.length) ∧ l.length + (List.take x.length (List.drop 0 x)).length ≤ big := by
  rw [List.drop_zero, List.take_length]; exact ⟨.inl rfl, by rw [big_eq]; omega⟩
theorem takeL {α : Type} (l x : List α) : List.take (l.length + (List.take x.length (List.drop 0 x)).length) (List.take l.length l ++ List.take x.length (List.drop 0 x)) = l ++ x := by
  rw [List.drop_zero, List.take_length, take_app]
end Go.Proofs.Ytephkbajoofeoaa.Am
