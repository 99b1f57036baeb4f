/-
  DRAWS: small facts; and the law of plans by computation over all plans there are.
-/
import Derived.Test.YtephkbajoofeoaaM7
namespace Go.Proofs.Ytephkbajoofeoaa.Am
set_option linter.unusedSimpArgs false
set_option linter.unusedVariables false
open Go Sz

theorem leafP {α : Type} {q : α → Prop} {R : α → TRes} {x : α} (h : q x) : ∃ t, q t ∧ R x = R t := ⟨x, h, rfl⟩
theorem and255 (a : Int) : 0 ≤ w64 (((BitVec.ofInt (IntKind.i64.bits) a &&& BitVec.ofInt (IntKind.i64.bits) 255).toNat : Nat) : Int) ∧ w64 (((BitVec.ofInt (IntKind.i64.bits) a &&& BitVec.ofInt (IntKind.i64.bits) 255).toNat : Nat) : Int) ≤ 255 := by
  have h : (BitVec.ofInt (IntKind.i64.bits) a &&& BitVec.ofInt (IntKind.i64.bits) 255).toNat ≤ 255 := by
    rw [BitVec.toNat_and]
    have : (BitVec.ofInt (IntKind.i64.bits) 255).toNat = 255 := by decide
    rw [this]
    exact Nat.and_le_right
  rw [w64_ok (by omega) (by omega)]
  omega
theorem tdiv_rng {a b B : Int} (hb : 0 < b) (h1 : -B ≤ a) (h2 : a ≤ B) : -B ≤ Int.tdiv a b ∧ Int.tdiv a b ≤ B := by
  by_cases h : 0 ≤ a
  · have h3 : 0 ≤ Int.tdiv a b := Int.tdiv_nonneg h (by omega)
    have h4 : Int.tdiv a b ≤ a := by
      rw [Int.tdiv_eq_ediv_of_nonneg h]
      exact Int.ediv_le_self b h
    omega
  · have h5 : Int.tdiv a b = - Int.tdiv (-a) b := by rw [Int.neg_tdiv]; omega
    have h3 : 0 ≤ Int.tdiv (-a) b := Int.tdiv_nonneg (by omega) (by omega)
    have h4 : Int.tdiv (-a) b ≤ -a := by
      rw [Int.tdiv_eq_ediv_of_nonneg (by omega)]
      exact Int.ediv_le_self b (by omega)
    omega
theorem not_big {code : List Int} (h : m_big code = false) : p_new code := by
  unfold m_big at h; unfold p_new
  have := of_decide_eq_false h
  omega

def planLaw (ds n s M : Int) (rd : Bool) : Bool :=
  let most := if ds = 2 then (if n - s < M then n - s else M) else M
  let l := m_plan ds n s M rd
  m_planOk l n s M rd && decide (m_inFlight l = most) && decide (0 ≤ m_warmUp ds n s M) && decide (m_warmUp ds n s M ≤ most)
def planLawAll : Bool := [1, 2].all fun ds : Int => [1, 2, 3, 4].all fun n : Int => [0, 1, 2, 3].all fun s : Int => [1, 2, 3, 4, 5].all fun M : Int => [true, false].all fun rd =>
  !(decide (s < n)) || planLaw ds n s M rd
set_option maxRecDepth 100000 in
theorem planLawAll_ok : planLawAll = true := by kernel_rfl

theorem plan_law {ds n s M : Int} (rd : Bool) (h1 : 1 ≤ ds) (h2 : ds ≤ 2) (h3 : n ≤ 4) (h4 : 0 ≤ s) (h5 : s < n) (h6 : 1 ≤ M) (h7 : M ≤ 5) : planLaw ds n s M rd = true := by
  have h := planLawAll_ok
  unfold planLawAll at h
  rw [List.all_eq_true] at h
  have h := h ds (by have : ds = 1 ∨ ds = 2 := by omega
                     rcases this with rfl | rfl <;> simp)
  rw [List.all_eq_true] at h
  have h := h n (by have : n = 1 ∨ n = 2 ∨ n = 3 ∨ n = 4 := by omega
                    rcases this with rfl | rfl | rfl | rfl <;> simp)
  rw [List.all_eq_true] at h
  have h := h s (by have : s = 0 ∨ s = 1 ∨ s = 2 ∨ s = 3 := by omega
                    rcases this with rfl | rfl | rfl | rfl <;> simp)
  rw [List.all_eq_true] at h
  have h := h M (by have : M = 1 ∨ M = 2 ∨ M = 3 ∨ M = 4 ∨ M = 5 := by omega
                    rcases this with rfl | rfl | rfl | rfl | rfl <;> simp)
  rw [List.all_eq_true] at h
  have h := h rd (by cases rd <;> simp)
  simpa [h5] using h

/-! marks -/
def markGo : List TIns → Int → List TIns
  | [], _ => []
  | _ :: r, k => (k, k + 1) :: markGo r (k + 1 + 1)
def heldGo : List TIns → Int → Int
  | [], k => k
  | x :: r, k => if x.1 ≠ k then -1 else if x.2 ≠ k + 1 then -1 else heldGo r (k + 1 + 1)
def m_markIns (l : List TIns) (k : Int) : Int × List TIns := (k + 2 * l.length, markGo l k)
def m_heldIns (l : List TIns) (k : Int) : Int := heldGo l k
def p_markIns (l : List TIns) (k : Int) : Prop := 0 ≤ k ∧ k ≤ 1000000 ∧ l.length ≤ 1000000
theorem markGo_len : ∀ (l : List TIns) (k : Int), (markGo l k).length = l.length
  | [], k => rfl
  | _ :: r, k => by simp [markGo, markGo_len r]
theorem held_mark : ∀ (l : List TIns) (k : Int), heldGo (markGo l k) k = k + 2 * l.length
  | [], k => by simp [markGo, heldGo]
  | _ :: r, k => by simp only [markGo, heldGo, ne_eq, not_true_eq_false, if_false, held_mark r, List.length_cons]; omega
theorem gtd_set {α : Type} {d : α} {l : List α} {i : Nat} {x : α} (h : i < l.length) : gtd d (l.set i x) i = x := gtd_some (by simp [h]) d
theorem set_mid {α : Type} (a : List α) (x y : α) (r : List α) : (a ++ x :: r).set a.length y = (a ++ [y]) ++ r := by simp [List.set_append]
theorem gtd_mid {α : Type} (d : α) (a : List α) (x : α) (r : List α) : gtd d (a ++ x :: r) a.length = x := gtd_some (by simp) d

theorem opSize_rng (k : Int) {a b : Int} (p : List Int) (h1 : 1 ≤ a) (h2 : a ≤ 3) (h3 : 1 ≤ b) (h4 : b ≤ 3) : 0 ≤ m_opSize (k, a, b, p) ∧ m_opSize (k, a, b, p) ≤ 9 := by
  have ha : a = 1 ∨ a = 2 ∨ a = 3 := by omega
  have hb : b = 1 ∨ b = 2 ∨ b = 3 := by omega
  simp only [m_opSize, m_in]
  rcases ha with rfl | rfl | rfl <;> rcases hb with rfl | rfl | rfl <;> simp <;> split <;> (try split) <;> (try split) <;> omega
theorem opOk_mk {k a b : Int} {p : List Int} (h0 : 1 ≤ k) (h0' : k ≤ 5) (h1 : 1 ≤ a) (h2 : a ≤ 3) (h3 : 1 ≤ b) (h4 : b ≤ 3) (h5 : k = 1 ∨ a = b) (h6 : p.length = (m_opSize (k, a, b, [])).toNat) (h7 : m_allFix p = true) : m_opOk (k, a, b, p) = true := by
  have h := (opSize_rng k [] h1 h2 h3 h4).1
  have e : m_opSize (k, a, b, p) = m_opSize (k, a, b, []) := rfl
  simp only [m_opOk, m_in, Bool.and_eq_true, decide_eq_true_eq, Bool.or_eq_true, beq_iff_eq, e]
  refine ⟨⟨⟨⟨⟨⟨h0, h0'⟩, ?_⟩, ?_⟩, h5⟩, ?_⟩, h7⟩ <;> omega
theorem allFix_snoc {l : List Int} {x : Int} (h : m_allFix l = true) (hx : m_fixOk x = true) : m_allFix (l ++ [x]) = true := by
  simp only [m_allFix, List.all_append, List.all_cons, List.all_nil, Bool.and_true, Bool.and_eq_true] at h ⊢
  exact ⟨h, hx⟩
def lastOut : Option Int → List TOp' → Option Int
  | p, [] => p
  | _, x :: r => lastOut (some x.2.2.1) r
def outIs (p : Option Int) (l : List TOp') (n : Int) : Bool := match lastOut p l with | none => true | some q => q == n
theorem chain_snoc : ∀ (l : List TOp') (p : Option Int) (o : TOp'), chainGo p l = true → m_opOk o = true → outIs p l o.2.1 = true → chainGo p (l ++ [o]) = true
  | [], p, o, h, ho, hl => by
    simp only [List.nil_append, chainGo, ho, Bool.true_and, Bool.and_true]
    exact hl
  | x :: l, p, o, h, ho, hl => by
    simp only [chainGo, Bool.and_eq_true, List.cons_append] at h ⊢
    exact ⟨h.1, chain_snoc l (some x.2.2.1) o h.2 ho hl⟩
theorem out_snoc : ∀ (l : List TOp') (p : Option Int) (o : TOp'), outIs p (l ++ [o]) o.2.2.1 = true
  | [], p, o => by simp [outIs, lastOut]
  | x :: l, p, o => out_snoc l (some x.2.2.1) o
theorem cuts_snoc {i : Int} (hi : 1 ≤ i) : ∀ (l : List Int) (p : Option Int), cutsGo (i - 1) p l = true → (match p with | none => true | some q => decide (q < i)) = true → cutsGo i p (l ++ [i]) = true
  | [], p, h, hp => by
    simp only [List.nil_append, cutsGo, Bool.and_true, Bool.and_eq_true]
    exact ⟨m_in_iff.2 ⟨hi, Int.le_refl _⟩, hp⟩
  | c :: r, p, h, hp => by
    simp only [List.cons_append, cutsGo, Bool.and_eq_true] at h ⊢
    have h1 := m_in_iff.1 h.1.1
    exact ⟨⟨m_in_iff.2 ⟨h1.1, by omega⟩, h.1.2⟩, cuts_snoc hi r (some c) h.2 (by simp; omega)⟩
theorem cuts_mono {n n' : Int} (hn : n ≤ n') : ∀ (l : List Int) (p : Option Int), cutsGo n p l = true → cutsGo n' p l = true
  | [], p, h => rfl
  | c :: r, p, h => by
    simp only [cutsGo, Bool.and_eq_true] at h ⊢
    have h1 := m_in_iff.1 h.1.1
    exact ⟨⟨m_in_iff.2 ⟨h1.1, by omega⟩, h.1.2⟩, cuts_mono hn r (some c) h.2⟩

set_option hygiene false in
macro "cur" : tactic => `(tactic| repeat' first
  | assumption
  | refine s_l1New_post _ ?_
  | refine (s_l1Below_post _ _ ?_).2.2.2
  | refine s_l1Once_post _ _ ?_
  | refine (s_l1PickInt_post _ _ ⟨?_, by simp, by simp⟩).2
  | refine (s_l2Fix_post _ ?_).2
  | refine s_l2Raw_post _ ?_)
set_option hygiene false in
/-- for draws ahead of l2Fix -/
macro "cur0" : tactic => `(tactic| repeat' first
  | assumption
  | refine s_l1New_post _ ?_
  | refine (s_l1Below_post _ _ ?_).2.2.2
  | refine s_l1Once_post _ _ ?_
  | refine (s_l1PickInt_post _ _ ⟨?_, by simp, by simp⟩).2)
end Go.Proofs.Ytephkbajoofeoaa.Am
