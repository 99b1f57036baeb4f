/-
  REGIONS WHOSE ORDER IS DRAWN: one order serves for all, where those that may change places leave each other alone.
-/
import Derived.Test.YtephkbajoofeoaaAmN
import Derived.Orders
namespace Go.Proofs.Ytephkbajoofeoaa.Am
set_option linter.unusedSimpArgs false
set_option linter.unusedVariables false
open Go Go.RowKit

/-- A run in the order of a list of places, with a log that is fixed. -/
def Run (Γ : Tab) (l : List AO) (L : Nat → List Nat × List Nat) : List Nat → St → St → Prop
  | [], σ, σ' => σ' = σ
  | i :: p, σ, σ' => ∃ ao σ1, l[i]? = some ao ∧ step1 Γ ao σ = some (σ1, (L i).1, (L i).2) ∧ Run Γ l L p σ1 σ'

def Indep (l : List AO) (L : Nat → List Nat × List Nat) (i j : Nat) : Prop :=
  ∀ oi oj, l[i]? = some oi → l[j]? = some oj → oi.free oj = true ∧ apartL (L i).2 ((L j).1 ++ (L j).2) = true ∧ apartL (L j).2 (L i).1 = true

theorem Run.pull {Γ : Tab} {l : List AO} {L : Nat → List Nat × List Nat} {j : Nat} {p2 : List Nat} : ∀ (p1 : List Nat) {σ σ' : St}, Run Γ l L (p1 ++ j :: p2) σ σ' → (∀ i, i ∈ p1 → Indep l L i j) → Run Γ l L (j :: (p1 ++ p2)) σ σ'
  | [], _, _, h, _ => h
  | i :: p1, σ, σ', h, hi => by
    obtain ⟨ao, σ1, h1, h2, h3⟩ := h
    obtain ⟨bo, σ2, h4, h5, h6⟩ := Run.pull p1 h3 fun k hk => hi k (List.mem_cons_of_mem _ hk)
    obtain ⟨f1, f2, f3⟩ := hi i (List.mem_cons_self ..) ao bo h1 h4
    obtain ⟨σ1', h7, h8⟩ := swap f1 h2 h5 f2 f3
    exact ⟨bo, σ1', h4, h7, ao, σ2, h1, h8, h6⟩

theorem Run.mem {Γ : Tab} {l : List AO} {L : Nat → List Nat × List Nat} {j : Nat} : ∀ (p : List Nat) {σ σ' : St}, Run Γ l L p σ σ' → j ∈ p → ∃ ao s s', l[j]? = some ao ∧ step1 Γ ao s = some (s', (L j).1, (L j).2)
  | [], _, _, _, hj => by cases hj
  | i :: p, σ, σ', h, hj => by
    obtain ⟨ao, σ1, h1, h2, h3⟩ := h
    rcases List.mem_cons.1 hj with rfl | hj
    · exact ⟨ao, σ, σ1, h1, h2⟩
    · exact Run.mem p h3 hj

theorem run_of_draw {Γ : Tab} {l : List AO} {L : Nat → List Nat × List Nat} : ∀ (aos : List AO) (i : Nat) (σ σ' : St) (log : List (List Nat × List Nat)), drawF Γ aos σ = some (σ', log) → (∀ j, aos[j]? = l[i + j]?) → (∀ j x, log[j]? = some x → L (i + j) = x) →
    Run Γ l L (List.range' i aos.length) σ σ' ∧ log.length = aos.length
  | [], i, σ, σ', log, h, _, _ => by simp [drawF] at h; obtain ⟨rfl, rfl⟩ := h; exact ⟨rfl, rfl⟩
  | o :: r, i, σ, σ', log, h, hl, hL => by
    simp only [drawF] at h
    split at h
    rotate_left
    · cases h
    rename_i σ1 a w hs
    split at h
    rotate_left
    · cases h
    rename_i σ2 lg hr
    cases h
    have h0 : L i = (a, w) := hL 0 _ rfl
    obtain ⟨h1, h2⟩ := run_of_draw r (i + 1) σ1 σ' lg hr (fun j => by have := hl (j + 1); simpa [Nat.add_assoc, Nat.add_comm 1 j] using this) (fun j x hx => by
      have := hL (j + 1) x (by simpa using hx)
      rwa [show i + (j + 1) = i + 1 + j by omega] at this)
    refine ⟨?_, by simp [h2]⟩
    rw [List.length_cons, List.range'_succ]
    exact ⟨o, σ1, by simpa using (hl 0).symm, by rw [h0]; exact hs, h1⟩

theorem acc_quiet {ev : Opd → AV} {op : AOp} (h : op.touches = false) : acc ev op = [] := by
  cases op <;> simp [AOp.touches] at h <;> rfl

theorem blks_quiet {Γ : Tab} {ev : Opd → AV} {h : Nat → Blk} {b : Nat} {op : AOp} {e : Eff} (hw : op.writes = false) (hd : delta Γ ev h b op = some e) : e.blks = [] := by
  cases op <;> simp [AOp.writes] at hw <;> simp only [delta] at hd <;> (repeat' split at hd) <;> first | (cases hd; rfl) | cases hd | (have hd := (Option.some.inj hd).symm; subst hd; rfl)

theorem writes_touches {op : AOp} (h : op.touches = false) : op.writes = false := by
  cases op <;> simp [AOp.touches] at h <;> rfl

theorem step1_quiet {Γ : Tab} {o : AO} {s s' : St} {a w : List Nat} (h : step1 Γ o s = some (s', a, w)) : (o.op.touches = false → a = []) ∧ (o.op.writes = false → w = []) := by
  unfold step1 at h
  split at h
  · split at h
    rotate_left
    · cases h
    rename_i e he
    cases h
    exact ⟨acc_quiet, fun hw => by rw [blks_quiet hw he]; rfl⟩
  · split at h
    rotate_left
    · cases h
      exact ⟨fun _ => rfl, fun _ => rfl⟩
    · cases h
    split at h
    · split at h
      rotate_left
      · cases h
      rename_i e he
      cases h
      exact ⟨acc_quiet, fun hw => by rw [blks_quiet hw he]; rfl⟩
    · cases h
      exact ⟨fun _ => rfl, fun _ => rfl⟩

theorem apartL_nil (l : List Nat) : apartL [] l = true := rfl
theorem apartL_nil' (l : List Nat) : apartL l [] = true := by unfold apartL; simp

theorem step1_nx {Γ : Tab} {o : AO} {s s' : St} {a w : List Nat} (h : step1 Γ o s = some (s', a, w)) : s'.nx = s.nx := by
  obtain ⟨v, bl, rfl, _⟩ := step1_form h
  rfl

theorem pairs_mem {ops : Array Oper} {i j : Nat} (hij : i < j) (hj : j < ops.size) (hw : waits ops i j = false) : (i, j) ∈ pairs ops := by
  unfold pairs pairsOf
  rw [List.mem_flatMap]
  refine ⟨j, List.mem_range.2 hj, ?_⟩
  rw [List.mem_filterMap]
  unfold waits at hw
  exact ⟨i, List.mem_range.2 hij, by rw [hw]; simp⟩

/-- Those that need not wait for each other leave each other alone. -/
theorem indep_of {Γ : Tab} {l : List AO} {ops : Array Oper} {σ σ' : St} {log : List (List Nat × List Nat)} (hfree : freeOk l (pairs ops) = true) (hlog : noconf log (memPairs l (pairs ops)) = true)
    (hlen : log.length = l.length) (hr : Run Γ l (fun j => (log[j]?).getD ([], [])) (List.range' 0 l.length) σ σ') {i j : Nat} (hij : i < j) (hj : j < ops.size) (hjl : j < l.length) (hw : waits ops i j = false) :
    Indep l (fun j => (log[j]?).getD ([], [])) i j := by
  have hm := pairs_mem hij hj hw
  intro oi oj hi hoj
  have f1 : oi.free oj = true := by
    have := List.all_eq_true.1 hfree (i, j) hm
    simpa [hi, hoj] using this
  obtain ⟨ai, s1, s1', hai, hs1⟩ := Run.mem (j := i) _ hr (by simp; omega)
  obtain ⟨aj, s2, s2', haj, hs2⟩ := Run.mem (j := j) _ hr (by simp; omega)
  rw [hi] at hai
  rw [hoj] at haj
  cases hai
  cases haj
  obtain ⟨q1, q2⟩ := step1_quiet hs1
  obtain ⟨q3, q4⟩ := step1_quiet hs2
  refine ⟨f1, ?_⟩
  by_cases hin : (i, j) ∈ memPairs l (pairs ops)
  · have := List.all_eq_true.1 hlog (i, j) hin
    obtain ⟨x, hx⟩ : ∃ x, log[i]? = some x := ⟨log[i]'(by omega), List.getElem?_eq_getElem (by omega)⟩
    obtain ⟨y, hy⟩ : ∃ y, log[j]? = some y := ⟨log[j]'(by omega), List.getElem?_eq_getElem (by omega)⟩
    obtain ⟨a, w⟩ := x
    obtain ⟨a', w'⟩ := y
    simp only [hx, hy, Bool.and_eq_true] at this
    simp only [hx, hy, Option.getD_some]
    exact this
  · have hno : (oi.op.touches && oj.op.touches && (oi.op.writes || oj.op.writes)) = false := by
      cases hb : (oi.op.touches && oj.op.touches && (oi.op.writes || oj.op.writes)) with
      | false => rfl
      | true => exact absurd (List.mem_filter.2 ⟨hm, by simp only [hi, hoj, hb]⟩) hin
    cases t1 : oi.op.touches with
    | false =>
      rw [q1 t1, q2 (writes_touches t1)]
      exact ⟨rfl, apartL_nil' _⟩
    | true =>
      cases t2 : oj.op.touches with
      | false =>
        rw [q3 t2, q4 (writes_touches t2)]
        exact ⟨apartL_nil' _, rfl⟩
      | true =>
        rw [t1, t2] at hno
        simp only [Bool.and_self, Bool.true_and, Bool.or_eq_false_iff] at hno
        rw [q2 hno.1, q4 hno.2]
        exact ⟨rfl, rfl⟩

/-- The numbers that are still free. -/
def Pend (nx n : Nat) (p : List Nat) (k : Nat) : Prop := nx + 16 * n ≤ k ∨ ∃ j, j ∈ p ∧ nx + 16 * j ≤ k ∧ k < nx + 16 * j + 16

theorem ancTab_spec : ∀ (l : List Oper) (acc : List (List Nat)), (∀ (k : Nat) (x : List Nat), acc[k]? = some x → (ancTab l acc)[k]? = some x) ∧
    ∀ (j : Nat) (o : Oper), l[j]? = some o → ∀ x, x ∈ ((ancTab l acc)[acc.length + j]?).getD [] → ∃ k, k ∈ depsOf o ∧ (x = k ∨ x ∈ ((ancTab l acc)[k]?).getD [])
  | [], acc => ⟨fun k x h => h, fun j o h => by simp at h⟩
  | o :: l, acc => by
    obtain ⟨h1, h2⟩ := ancTab_spec l (acc ++ [((depsOf o).flatMap fun k => k :: (acc[k]?).getD []).eraseDups])
    have hpre : ∀ (k : Nat) (x : List Nat), acc[k]? = some x → (ancTab (o :: l) acc)[k]? = some x := fun k x hk => h1 k x (by rw [List.getElem?_append_left (List.getElem?_eq_some_iff.1 hk).1]; exact hk)
    refine ⟨hpre, fun j o' hj x hx => ?_⟩
    cases j with
    | zero =>
      simp only [List.getElem?_cons_zero, Option.some.injEq] at hj
      subst hj
      have h3 := h1 acc.length ((depsOf o).flatMap fun k => k :: (acc[k]?).getD []).eraseDups (by simp)
      have h3 : (ancTab (o :: l) acc)[acc.length]? = some (((depsOf o).flatMap fun k => k :: (acc[k]?).getD []).eraseDups) := h3
      rw [Nat.add_zero, h3, Option.getD_some] at hx
      rw [List.mem_eraseDups, List.mem_flatMap] at hx
      obtain ⟨k, hk, hx⟩ := hx
      refine ⟨k, hk, ?_⟩
      rcases List.mem_cons.1 hx with h | h
      · exact .inl h
      · right
        cases hq : acc[k]? with
        | none => rw [hq] at h; cases h
        | some y => rw [hq] at h; rw [hpre k y hq]; exact h
    | succ j =>
      have := h2 j o' (by simpa using hj) x (by
        rw [List.length_append, List.length_singleton, Nat.add_assoc, Nat.add_comm 1 j]
        exact hx)
      exact this

theorem ancs_spec {ops : Array Oper} {j : Nat} {o : Oper} (ho : ops[j]? = some o) {x : Nat} (hx : x ∈ ((ancs ops)[j]?).getD []) : ∃ k, k ∈ depsOf o ∧ (x = k ∨ x ∈ ((ancs ops)[k]?).getD []) := by
  have := (ancTab_spec ops.toList []).2 j o (by simpa using ho) x (by simpa [ancs] using hx)
  exact this

theorem mem_depsOf {o : Oper} {k : Nat} (h : k ∈ depsOf o) : ∃ e ∈ o.after, Region.binds .any e = true ∧ e.on = k := by
  unfold depsOf at h
  obtain ⟨e, he, rfl⟩ := List.mem_map.1 h
  obtain ⟨h1, h2⟩ := List.mem_filter.1 he
  exact ⟨e, by simpa using h1, h2, rfl⟩

/-- What is done has all done that it waits for: so nothing that is still open is waited for by one whose own edges are done. -/
theorem waits_false {ops : Array Oper} {p : List Nat} (hedge : edgesOk ops = true) (hcl : ∀ (j : Nat) (o : Oper), ops[j]? = some o → j ∉ p → ∀ k, k ∈ depsOf o → k ∉ p) {j : Nat} {o : Oper} (ho : ops[j]? = some o) (hd : ∀ k, k ∈ depsOf o → k ∉ p) {i : Nat} (hi : i ∈ p) : waits ops i j = false := by
  have key : ∀ (n j : Nat) (o : Oper), j < n → ops[j]? = some o → (∀ k, k ∈ depsOf o → k ∉ p) → ∀ x, x ∈ ((ancs ops)[j]?).getD [] → x ∉ p := by
    intro n
    induction n with
    | zero => intro j o hj; omega
    | succ n ih =>
      intro j o hj ho hd x hx
      obtain ⟨k, hk, h⟩ := ancs_spec ho hx
      rcases h with rfl | h
      · exact hd _ hk
      · have hkj : k < j := by
          obtain ⟨e, he, hb, rfl⟩ := mem_depsOf hk
          have h1 := List.all_eq_true.1 hedge j (List.mem_range.2 (Array.getElem?_eq_some_iff.1 ho).1)
          rw [ho] at h1
          have h2 := Array.all_eq_true_iff_forall_mem.1 h1 e he
          simpa [hb] using h2
        have hks : k < ops.size := by have := (Array.getElem?_eq_some_iff.1 ho).1; omega
        exact ih k ops[k] (by omega) (Array.getElem?_eq_getElem hks) (hcl k ops[k] (Array.getElem?_eq_getElem hks) (hd k hk)) x h
  cases hw : waits ops i j with
  | false => rfl
  | true =>
    unfold waits at hw
    exact absurd hi (key (j + 1) j o (by omega) ho hd i (by simpa using hw))

section
variable {C : Ctx} {Q : Exit → Act → World → Prop} {Γ : Tab} {ops : Array Oper}

theorem draw_sound (hΓ : TabOk C.P Γ) {l : List AO} {L : Nat → List Nat × List Nat} {σf : St} {nx : Nat} (hc : cList C.P C.N ops ops.toList 0 = some l) (hedge : edgesOk ops = true)
    (hind : ∀ i j, i < j → j < ops.size → waits ops i j = false → Indep l L i j)
    (hQ : ∀ a w, SatU C (fun k => nx + 16 * ops.size ≤ k) σf a w → Q .normal a w) :
    ∀ (fuel : Nat) (p : List Nat) (listed : Array Bool) (σ : St) (a : Act) (w : World), p.length ≤ fuel → p.Pairwise (· < ·) → (∀ j, j ∈ p → j < ops.size) → (∀ j, j < ops.size → (listed.getD j true = false ↔ j ∈ p)) →
      listed.size = ops.size → (∀ (j : Nat) (o : Oper), ops[j]? = some o → j ∉ p → ∀ k, k ∈ depsOf o → k ∉ p) → σ.nx = nx → Run Γ l L p σ σf → SatU C (Pend nx ops.size p) σ a w → wpAny C.P .any ops Q fuel listed a w := by
  have hget : ∀ (i : Nat) (o : Oper), ops[i]? = some o → ∃ ao, l[i]? = some ao ∧ cAO C.P C.N ops o i = some ao := fun i o ho => by
    obtain ⟨_, h⟩ := cList_get hc
    obtain ⟨ao, h1, h2, _⟩ := h i o (by simpa using ho)
    exact ⟨ao, h1, by simpa using h2⟩
  have hdone : ∀ (σ : St) (a : Act) (w : World) (listed : Array Bool), (∀ j, j < ops.size → (listed.getD j true = false ↔ j ∈ ([] : List Nat))) → σ.nx = nx → Run Γ l L [] σ σf → SatU C (Pend nx ops.size []) σ a w → Region.ready .any ops listed = [] ∧ Q .normal a w := by
    intro σ a w listed hl hn hr S
    refine ⟨?_, ?_⟩
    · cases hx : Region.ready .any ops listed with
      | nil => rfl
      | cons i r =>
        have hi : i ∈ Region.ready .any ops listed := by rw [hx]; exact List.mem_cons_self ..
        obtain ⟨h0, o, ho, _⟩ := mem_ready.1 hi
        have := (hl i (Array.getElem?_eq_some_iff.1 ho).1).1 h0
        cases this
    · have hr : σf = σ := hr
      subst hr
      obtain ⟨ι, S⟩ := S
      exact hQ a w ⟨ι, S.weak fun k hk => .inl hk⟩
  intro fuel
  induction fuel with
  | zero =>
    intro p listed σ a w hf hp hlt hl hsz hcl hn hr S
    have : p = [] := List.eq_nil_of_length_eq_zero (by omega)
    subst this
    exact hdone σ a w listed hl hn hr S
  | succ fuel ih =>
    intro p listed σ a w hf hp hlt hl hsz hcl hn hr S
    refine ⟨fun h0 => ?_, fun i hi => ?_⟩
    · cases p with
      | nil => exact (hdone σ a w listed hl hn hr S).2
      | cons j p =>
        exfalso
        have hj := hlt j (List.mem_cons_self ..)
        have hjr : j ∈ Region.ready .any ops listed := by
          refine mem_ready.2 ⟨(hl j hj).2 (List.mem_cons_self ..), ops[j], Array.getElem?_eq_getElem hj, fun e he hb => ?_⟩
          have h1 := List.all_eq_true.1 hedge j (List.mem_range.2 hj)
          rw [Array.getElem?_eq_getElem hj] at h1
          have h2 := Array.all_eq_true_iff_forall_mem.1 h1 e he
          simp only [hb, Bool.not_true, Bool.false_or, decide_eq_true_eq] at h2
          have h3 : e.on ∉ j :: p := by
            intro hm
            rcases List.mem_cons.1 hm with h | h
            · omega
            · have := List.rel_of_pairwise_cons hp h
              omega
          have h4 : e.on < listed.size := by omega
          have h5 : ¬ listed.getD e.on true = false := fun h => h3 ((hl e.on (by omega)).1 h)
          simp only [Array.getD, h4, dif_pos] at h5 ⊢
          simpa using h5
        rw [h0] at hjr
        cases hjr
    · obtain ⟨h0, o, ho, hall⟩ := mem_ready.1 hi
      have hin : i < ops.size := (Array.getElem?_eq_some_iff.1 ho).1
      have hip : i ∈ p := (hl i hin).1 h0
      obtain ⟨p1, p2, rfl⟩ := List.append_of_mem hip
      have hpw := List.pairwise_append.1 hp
      have hlt1 : ∀ k, k ∈ p1 → k < i := fun k hk => hpw.2.2 k hk i (List.mem_cons_self ..)
      have hlt2 : ∀ k, k ∈ p2 → i < k := fun k hk => List.rel_of_pairwise_cons hpw.2.1 hk
      have hdeps : ∀ k, k ∈ depsOf o → k ∉ p1 ++ i :: p2 := fun k hk hm => by
        obtain ⟨e, he, hb, rfl⟩ := mem_depsOf hk
        have h1 := hall e he hb
        have hlt' := hlt _ hm
        have h2 := (hl e.on hlt').2 hm
        have h4 : e.on < listed.size := by omega
        simp only [Array.getD, h4, dif_pos] at h1 h2
        rw [h1] at h2
        cases h2
      have hr' := Run.pull p1 hr fun k hk =>
        hind k i (hlt1 k hk) hin (waits_false hedge hcl ho hdeps (List.mem_append.2 (.inl hk)))
      obtain ⟨ao, σ1, h1, h2, h3⟩ := hr'
      obtain ⟨ao', h4, h5⟩ := hget i o ho
      rw [h4] at h1
      cases h1
      have hmem : ∀ k, k ∈ p1 ++ p2 ↔ k ∈ p1 ++ i :: p2 ∧ k ≠ i := by
        intro k
        simp only [List.mem_append, List.mem_cons]
        constructor
        · rintro (h | h)
          · exact ⟨.inl h, by have := hlt1 k h; omega⟩
          · exact ⟨.inr (.inr h), by have := hlt2 k h; omega⟩
        · rintro ⟨h | h | h, hk⟩
          · exact .inl h
          · exact absurd h hk
          · exact .inr h
      refine wpOp_mono (fun a' w' S' => ?_) (step_sound (U' := Pend nx ops.size (p1 ++ p2)) hΓ S ho h5 (fun k k1 k2 => .inr ⟨i, hip, by omega, by omega⟩) (fun k hk => ?_) h2)
      · refine ih (p1 ++ p2) _ σ1 a' w' ?_ ?_ (fun j hj => hlt j ((hmem j).1 hj).1) (fun j hj => ?_) (by simpa using hsz) (fun j o' ho' hj k hk => ?_) ((step1_nx h2).trans hn) h3 S'
        · simp only [List.length_append, List.length_cons] at hf ⊢
          omega
        · exact hp.sublist (List.Sublist.append (List.Sublist.refl _) (List.sublist_cons_self ..))
        · rw [hmem]
          by_cases hji : j = i
          · subst hji
            have : j < listed.size := by omega
            simp [this]
          · rw [getD_set_ne true (Ne.symm hji), hl j hj]
            exact ⟨fun h => ⟨h, hji⟩, fun h => h.1⟩
        · intro hkm
          have hkm := ((hmem k).1 hkm).1
          by_cases hji : j = i
          · subst hji
            rw [ho] at ho'
            cases ho'
            exact hdeps k hk hkm
          · exact hcl j o' ho' (fun hm => hj ((hmem j).2 ⟨hm, hji⟩)) k hk hkm
      · rcases hk with hk | ⟨j, hj, k1, k2⟩
        · refine ⟨.inl hk, ?_⟩
          omega
        · have hj' := (hmem j).1 hj
          refine ⟨.inr ⟨j, hj'.1, k1, k2⟩, ?_⟩
          have := hj'.2
          omega

end
end Go.Proofs.Ytephkbajoofeoaa.Am
