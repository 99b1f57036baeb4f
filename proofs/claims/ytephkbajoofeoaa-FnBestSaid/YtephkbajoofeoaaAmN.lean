/-
  OPERATIONS THAT LEAVE EACH OTHER ALONE MAY CHANGE PLACES; one operation in its place is sound; regions in the order of the text.
-/
import Derived.Test.YtephkbajoofeoaaAmM
namespace Go.Proofs.Ytephkbajoofeoaa.Am
set_option linter.unusedSimpArgs false
set_option linter.unusedVariables false
open Go Go.RowKit

theorem updL_out : ∀ (l : List (Nat × Blk)) (h : Nat → Blk) (i : Nat), i ∉ keys l → updL h l i = h i
  | [], _, _, _ => rfl
  | (k, x) :: l, h, i, hi => by
    simp only [keys, List.map_cons, List.mem_cons, not_or] at hi
    simp only [updL]
    rw [updL_out l _ i hi.2, upd_ne _ _ _ _ hi.1]

theorem updL_in : ∀ (l : List (Nat × Blk)) (g h : Nat → Blk) (i : Nat), (i ∈ keys l ∨ g i = h i) → updL g l i = updL h l i
  | [], g, h, i, hi => by
    rcases hi with hi | hi
    · simp [keys] at hi
    · exact hi
  | (k, x) :: l, g, h, i, hi => by
    simp only [updL]
    refine updL_in l _ _ i ?_
    by_cases hk : i = k
    · subst hk; right; rw [upd_same, upd_same]
    · rcases hi with hi | hi
      · simp only [keys, List.map_cons, List.mem_cons] at hi
        rcases hi with hi | hi
        · exact absurd hi hk
        · exact .inl hi
      · right; rw [upd_ne _ _ _ _ hk, upd_ne _ _ _ _ hk]; exact hi

theorem updL_comm {l m : List (Nat × Blk)} (hlm : ∀ i, i ∈ keys l → i ∉ keys m) (h : Nat → Blk) : updL (updL h l) m = updL (updL h m) l := by
  funext i
  by_cases h1 : i ∈ keys l
  · rw [updL_out m _ i (hlm i h1), updL_in l (updL h m) h i (.inl h1)]
  · rw [updL_out l (updL h m) i h1]
    exact updL_in m _ _ i (.inr (updL_out l h i h1))

theorem step1_form {Γ : Tab} {o : AO} {σ σ' : St} {a w : List Nat} (h : step1 Γ o σ = some (σ', a, w)) :
    ∃ v bl, σ' = ⟨putO σ.t o.dst v, updL σ.h bl, σ.nx⟩ ∧ w = keys bl ∧ ∀ (t' : Nat → AV) (h' : Nat → Blk), (∀ s, s ∈ o.reads → t' s = σ.t s) → (∀ id, id ∈ a → h' id = σ.h id) →
      step1 Γ o ⟨t', h', σ.nx⟩ = some (⟨putO t' o.dst v, updL h' bl, σ.nx⟩, a, w) := by
  unfold step1 at h
  split at h
  · rename_i hg
    split at h
    rotate_left
    · cases h
    rename_i e he
    cases h
    refine ⟨e.val, e.blks, rfl, rfl, fun t' h' ht hh => ?_⟩
    obtain ⟨d1, d2⟩ := delta_congr (Γ := Γ) (t := σ.t) (t' := t') (h := σ.h) (h' := h') (b := σ.nx + o.off) (op := o.op) (fun s hs => ht s (List.mem_append.2 (.inl hs))) hh
    unfold step1
    simp only [hg, d1, d2, he]
    rfl
  · rename_i s wt hg
    have hs : s ∈ o.reads := by unfold AO.reads; rw [hg]; simp
    split at h
    rotate_left
    · rename_i hc
      cases h
      refine ⟨.t [], [], rfl, rfl, fun t' h' ht hh => ?_⟩
      unfold step1
      simp only [hg, ht s hs, hc]
      rfl
    · cases h
    rename_i c hc
    split at h
    · rename_i hcw
      split at h
      rotate_left
      · cases h
      rename_i e he
      cases h
      refine ⟨e.val, e.blks, rfl, rfl, fun t' h' ht hh => ?_⟩
      obtain ⟨d1, d2⟩ := delta_congr (Γ := Γ) (t := σ.t) (t' := t') (h := σ.h) (h' := h') (b := σ.nx + o.off) (op := o.op) (fun s hs => ht s (List.mem_append.2 (.inl hs))) hh
      unfold step1
      simp only [hg, ht s hs, hc, hcw, if_true, d1, d2, he]
      rfl
    · rename_i hcw
      cases h
      refine ⟨.t [], [], rfl, rfl, fun t' h' ht hh => ?_⟩
      unfold step1
      simp only [hg, ht s hs, hc, if_neg hcw]
      rfl

theorem putO_get {t : Nat → AV} {d : Option Nat} {v : AV} {s : Nat} (h : ∀ x, d = some x → s ≠ x) : putO t d v s = t s := by
  cases d with
  | none => rfl
  | some x => exact upd_ne _ _ _ _ (h x rfl)

theorem apartL_spec {l m : List Nat} (h : apartL l m = true) : ∀ x, x ∈ l → x ∉ m := by
  intro x hx hm
  have := List.all_eq_true.1 h x hx
  simp [hm] at this

theorem swap {Γ : Tab} {p o : AO} {σ σp σ2 : St} {ap wp ao wo : List Nat} (hfree : p.free o = true) (h1 : step1 Γ p σ = some (σp, ap, wp)) (h2 : step1 Γ o σp = some (σ2, ao, wo))
    (hap : apartL wp (ao ++ wo) = true) (hap2 : apartL wo ap = true) : ∃ σ1, step1 Γ o σ = some (σ1, ao, wo) ∧ step1 Γ p σ1 = some (σ2, ap, wp) := by
  obtain ⟨vp, lp, rfl, rfl, hp⟩ := step1_form h1
  obtain ⟨vo, lo, rfl, rfl, ho⟩ := step1_form h2
  unfold AO.free at hfree
  rw [Bool.and_eq_true] at hfree
  obtain ⟨f1, f2⟩ := hfree
  have hA := apartL_spec hap
  have hB := apartL_spec hap2
  have hpd : ∀ d, p.dst = some d → d ∉ o.reads ∧ ∀ d', o.dst = some d' → d ≠ d' := by
    intro d hd
    rw [hd] at f1
    simp only [Bool.and_eq_true, Bool.not_eq_true'] at f1
    refine ⟨by simpa using f1.1, fun d' hd' => ?_⟩
    have := f1.2
    rw [hd'] at this
    simpa using this
  have hod : ∀ d, o.dst = some d → d ∉ p.reads := by
    intro d hd
    rw [hd] at f2
    simpa using f2
  have s1 := ho σ.t σ.h (fun s hs => (putO_get fun x hx e => (hpd x hx).1 (e ▸ hs)).symm) (fun id hid => (updL_out lp σ.h id (fun hk => hA id hk (List.mem_append.2 (.inl hid)))).symm)
  refine ⟨_, s1, ?_⟩
  have s2 := hp (putO σ.t o.dst vo) (updL σ.h lo) (fun s hs => putO_get fun x hx e => hod x hx (e ▸ hs)) (fun id hid => updL_out lo σ.h id (fun hk => hB id hk hid))
  rw [s2]
  congr 2
  · congr 1
    · cases hpd' : p.dst with
      | none => cases o.dst <;> rfl
      | some d =>
        cases hod' : o.dst with
        | none => rfl
        | some d' =>
          have hne := (hpd d hpd').2 d' hod'
          funext s
          simp only [putO, upd]
          by_cases e1 : s = d
          · by_cases e2 : s = d'
            · exact absurd (e1.symm.trans e2) hne
            · rw [if_pos e1, if_neg e2, if_pos e1]
          · by_cases e2 : s = d'
            · rw [if_neg e1, if_pos e2, if_pos e2]
            · rw [if_neg e1, if_neg e2, if_neg e2, if_neg e1]
    · exact updL_comm (fun i hi hk => hA i hk (List.mem_append.2 (.inr hi))) σ.h

theorem Sat.nx {C : Ctx} {U : Nat → Prop} {t : Nat → AV} {h : Nat → Blk} {n m : Nat} {a : Act} {w : World} {ι : Nat → Option Nat} (S : Sat C U ⟨t, h, n⟩ a w ι) : Sat C U ⟨t, h, m⟩ a w ι :=
  ⟨S.fra, S.vals, S.size, S.defers, S.blk, S.inj, S.rng, S.fresh, S.live, S.lent, S.hand⟩

theorem Sat.weak {C : Ctx} {U U' : Nat → Prop} {σ : St} {a : Act} {w : World} {ι : Nat → Option Nat} (S : Sat C U σ a w ι) (h : ∀ i, U' i → U i) : Sat C U' σ a w ι :=
  { S with fresh := fun i hi => S.fresh i (h i hi) }

theorem cAO_spec {P : Program} {N : Nat} {ops : Array Oper} {o : Oper} {i : Nat} {ao : AO} (h : cAO P N ops o i = some ao) :
    ∃ op gd, cOp P o = some op ∧ cGd ops o.guard = some gd ∧ ao = ⟨o.dst, op, gd, 16 * i⟩ ∧ (∀ d, o.dst = some d → d < N) ∧ ∀ s b, gd = some (s, b) → s < N := by
  unfold cAO at h
  generalize h1 : cOp P o = x at h
  generalize h2 : cGd ops o.guard = y at h
  cases x with
  | none => cases y <;> cases h
  | some op =>
    cases y with
    | none => cases h
    | some gd =>
      simp only at h
      split at h
      rotate_left
      · cases h
      rename_i hcond
      have h := (Option.some.inj h).symm
      unfold okAO at hcond
      rw [Bool.and_eq_true] at hcond
      obtain ⟨hd0, hg0⟩ := hcond
      refine ⟨op, gd, rfl, rfl, h, fun d hd => ?_, fun s b hs => ?_⟩
      · rw [hd] at hd0; simpa using hd0
      · rw [hs] at hg0; simpa using hg0

section
variable {C : Ctx} {U U' : Nat → Prop} {σ σ' : St} {a : Act} {w : World} {Q : Exit → Act → World → Prop} {Γ : Tab} {ops : Array Oper}

/-- One operation in its place. -/
theorem step_sound (hΓ : TabOk C.P Γ) (S : SatU C U σ a w) {i : Nat} {o : Oper} {ao : AO} (hi : ops[i]? = some o) (hc : cAO C.P C.N ops o i = some ao) (hb : ∀ k, σ.nx + 16 * i ≤ k → k < σ.nx + 16 * i + 16 → U k)
    (hU' : ∀ k, U' k → U k ∧ ¬ (σ.nx + 16 * i ≤ k ∧ k < σ.nx + 16 * i + 16)) {ac wr : List Nat} (hs : step1 Γ ao σ = some (σ', ac, wr)) :
    wpOp C.P ops Q i (fun a' w' => SatU C U' σ' a' w') a w := by
  obtain ⟨op, gd, hop, hgd, rfl, hd, hg0⟩ := cAO_spec hc
  obtain ⟨ι, S⟩ := S
  have hskip : Sat C U' ⟨putO σ.t o.dst (.t []), σ.h, σ.nx⟩ (a.put o.dst undef) w ι := by
    have S' := S.weak (U' := U') fun k hk => (hU' k hk).1
    cases hx : o.dst with
    | none => simpa [putO, Act.put] using S'
    | some d => simpa [putO] using S'.put d (hd d hx) undef (.t []) (.t #[] [] rfl (by simp))
  unfold wpOp
  rw [hi]
  simp only
  unfold step1 at hs
  split at hs
  · rename_i hgn
    simp only at hgn
    subst hgn
    have hon : o.guard = none := by
      cases hx : o.guard with
      | none => rfl
      | some x =>
        obtain ⟨j, bb⟩ := x
        rw [hx] at hgd
        simp only [cGd] at hgd
        split at hgd <;> cases hgd
    have hw : Region.wanted o (yielded ops a.tmps) = true := by simp [Region.wanted, hon]
    rw [if_pos hw]
    split at hs
    rotate_left
    · cases hs
    rename_i e he
    cases hs
    exact .inl (op_sound hΓ S hd hb hU' hop he)
  · rename_i s wt hgs
    simp only at hgs
    subst hgs
    obtain ⟨j, d, hog, hjd⟩ : ∃ j d, o.guard = some (j, wt) ∧ (ops[j]?).bind (·.dst) = some s := by
      cases hx : o.guard with
      | none => rw [hx] at hgd; simp [cGd] at hgd
      | some x =>
        obtain ⟨j, bb⟩ := x
        rw [hx] at hgd
        simp only [cGd] at hgd
        split at hgd
        · rename_i s' hs'
          cases hgd
          exact ⟨j, 0, rfl, hs'⟩
        · cases hgd
    have hsN : s < C.N := hg0 s wt rfl
    split at hs
    rotate_left
    · rename_i hcv
      cases hs
      have hval : a.tmps.getD s undef = undef := by
        have h1 := S.vals s
        rw [hcv] at h1
        cases hq : a.tmps.getD s undef with
        | tuple vs =>
          rw [hq] at h1
          cases h1 with
          | t vs _ hl _ =>
            have : vs = #[] := by simpa using hl
            rw [this]; rfl
        | _ => rw [hq] at h1; cases h1
      have hyield : yielded ops a.tmps j = none := by
        unfold yielded
        rw [hjd]
        have h3 : s < a.tmps.size := by rw [S.size]; exact hsN
        rw [Array.getD_eq_getD_getElem?, Array.getElem?_eq_getElem h3] at hval
        simp only [Option.bind_some, Array.getElem?_eq_getElem h3]
        simp only [Option.getD_some] at hval
        rw [hval]
        rfl
      have hw : ¬ Region.wanted o (yielded ops a.tmps) = true := by simp [Region.wanted, hog, hyield]
      rw [if_neg hw]
      exact ⟨ι, hskip⟩
    · cases hs
    rename_i c hcv
    have hval : a.tmps[s]? = some (.bool c) := by
      have h1 := S.vals s
      rw [hcv] at h1
      have h2 := h1.int
      have h3 : s < a.tmps.size := by rw [S.size]; exact hsN
      rw [Array.getD_eq_getD_getElem?, Array.getElem?_eq_getElem h3] at h2
      rw [Array.getElem?_eq_getElem h3]
      simpa using h2
    have hyield : yielded ops a.tmps j = some c := by
      unfold yielded
      rw [hjd]
      simp [hval]
    split at hs
    · rename_i hcw
      split at hs
      rotate_left
      · cases hs
      rename_i e he
      cases hs
      have hw : Region.wanted o (yielded ops a.tmps) = true := by simp [Region.wanted, hog, hyield, hcw]
      rw [if_pos hw]
      exact .inl (op_sound hΓ S hd hb hU' hop he)
    · rename_i hcw
      cases hs
      have hw : ¬ Region.wanted o (yielded ops a.tmps) = true := by simp [Region.wanted, hog, hyield, hcw]
      rw [if_neg hw]
      exact ⟨ι, hskip⟩

theorem cList_get {P : Program} {N : Nat} {ops : Array Oper} : ∀ {l : List Oper} {i : Nat} {aos : List AO}, cList P N ops l i = some aos → aos.length = l.length ∧ ∀ (j : Nat) (o : Oper), l[j]? = some o → ∃ ao, aos[j]? = some ao ∧ cAO P N ops o (i + j) = some ao ∧ ao.off = 16 * (i + j)
  | [], i, aos, h => by simp [cList] at h; subst h; simp
  | o :: l, i, aos, h => by
    simp only [cList] at h
    split at h
    · rename_i ao aos' h1 h2
      cases h
      obtain ⟨h3, h4⟩ := cList_get h2
      refine ⟨by simp [h3], fun j o' hj => ?_⟩
      cases j with
      | zero =>
        simp at hj
        subst hj
        obtain ⟨_, _, _, _, h5, _⟩ := cAO_spec h1
        exact ⟨ao, rfl, h1, by rw [h5]; rfl⟩
      | succ j =>
        simp at hj
        obtain ⟨ao', h5, h6, h7⟩ := h4 j o' hj
        exact ⟨ao', by simpa using h5, by rw [show i + (j + 1) = i + 1 + j by omega]; exact h6, by rw [show i + (j + 1) = i + 1 + j by omega]; exact h7⟩
    · cases h

/-- A region in the order of the text. -/
theorem seq_sound (hΓ : TabOk C.P Γ) {K : St → Prop} : ∀ (l : List Oper) (i : Nat) (aos : List AO) (σ : St) (a : Act) (w : World), cList C.P C.N ops l i = some aos → (∀ j, l[j]? = ops[i + j]?) →
    SatU C (fun k => σ.nx + 16 * i ≤ k) σ a w → regK Γ aos K σ → (∀ σ' a w, SatU C (fun k => σ.nx + 16 * (i + l.length) ≤ k) σ' a w → σ'.nx = σ.nx → K σ' → Q .normal a w) →
    wpOps C.P ops Q (List.range' i l.length) a w
  | [], i, aos, σ, a, w, hc, hl, S, hk, hQ => by
    simp [cList] at hc
    subst hc
    exact hQ σ a w (by simpa using S) rfl hk
  | o :: l, i, aos, σ, a, w, hc, hl, S, hk, hQ => by
    have h0 : ops[i]? = some o := by simpa using (hl 0).symm
    simp only [cList] at hc
    split at hc
    rotate_left
    · cases hc
    rename_i ao aos' h1 h2
    cases hc
    have hoff : ao.off = 16 * i := by
      obtain ⟨_, _, _, _, h5, _⟩ := cAO_spec h1
      rw [h5]
    have hl' : ∀ j, l[j]? = ops[i + 1 + j]? := fun j => by have := hl (j + 1); simpa [Nat.add_assoc, Nat.add_comm 1 j] using this
    have go : ∀ σ', (∃ ac wr, step1 Γ ao σ = some (σ', ac, wr)) → regK Γ aos' K σ' → σ'.nx = σ.nx → wpOps C.P ops Q (List.range' i (l.length + 1)) a w := by
      rintro σ' ⟨ac, wr, hs⟩ hk' hn
      rw [List.range'_succ, wpOps_cons]
      refine wpOp_mono (fun a' w' S' => ?_) (step_sound (U' := fun k => σ.nx + 16 * (i + 1) ≤ k) hΓ S h0 h1 (fun k hk _ => hk) (fun k hk => ⟨by omega, by omega⟩) hs)
      exact seq_sound hΓ l (i + 1) aos' σ' a' w' h2 hl' (by rw [hn]; exact S') hk' (fun σ2 a2 w2 S2 hn2 hK2 => hQ σ2 a2 w2 (by
        rw [hn] at S2
        simpa [Nat.add_assoc, Nat.add_comm 1 l.length] using S2) (hn2.trans hn) hK2)
    simp only [regK] at hk
    split at hk
    · rename_i hg
      split at hk
      rotate_left
      · exact hk.elim
      rename_i e he
      exact go (σ.app ao.dst e) ⟨acc (Opd.ev σ.t) ao.op, keys e.blks, by unfold step1; simp only [hg, he]⟩ hk rfl
    · rename_i s wt hg
      split at hk
      rotate_left
      · rename_i hcv
        exact go _ ⟨[], [], by unfold step1; simp only [hg, hcv]⟩ hk rfl
      · exact hk.elim
      rename_i c hcv
      by_cases hcw : c = wt
      · have hk := hk.1 hcw
        split at hk
        rotate_left
        · exact hk.elim
        rename_i e he
        exact go (σ.app ao.dst e) ⟨acc (Opd.ev σ.t) ao.op, keys e.blks, by unfold step1; simp only [hg, hcv, hcw, if_true, he]⟩ hk rfl
      · exact go _ ⟨[], [], by unfold step1; simp only [hg, hcv, if_neg hcw]⟩ (hk.2 hcw) rfl

end
end Go.Proofs.Ytephkbajoofeoaa.Am
