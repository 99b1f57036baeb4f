/-
  SOUNDNESS OF A CALL: what stands behind it.
-/
import Derived.Test.YtephkbajoofeoaaAmK1
namespace Go.Proofs.Ytephkbajoofeoaa.Am
set_option linter.unusedSimpArgs false
set_option linter.unusedVariables false
open Go Go.RowKit

section
variable {C : Ctx} {U U' : Nat → Prop} {σ : St} {a : Act} {w : World} {ι : Nat → Option Nat}

theorem Same.alive {x y : Blk} (h : Same x y) : y.alive = true := by
  cases x <;> cases y <;> first | rfl | exact h.elim
theorem ne_sh {x : Blk} {b : Nat} (h : x ≠ .none ∧ x ≠ .dead) : x.sh b ≠ .none ∧ x.sh b ≠ .dead := by
  cases x <;> simp_all [Blk.sh]
theorem ne_fz {x : Blk} (h : x ≠ .none ∧ x ≠ .dead) : fzB x ≠ .none ∧ fzB x ≠ .dead := by
  cases x <;> simp_all [fzB]
theorem alive_ne {y : Blk} (h : y.alive = true) : y ≠ .none ∧ y ≠ .dead := by
  cases y <;> simp_all [Blk.alive]

set_option maxHeartbeats 1000000 in
/-- What stands behind a call, in the caller's words. -/
theorem Sat.called (S : Sat C U σ a w ι) {b : Nat} {r : Res} {refs lents hds lb : List Nat} {gb : List (Option Nat × Blk)} {F0 : Nat → Prop} {v : Value} {w' : World} {ι' : Nat → Option Nat}
    (hb : ∀ i, b ≤ i → i < b + 16 → U i) (hU' : ∀ i, U' i → U i ∧ ¬ (b ≤ i ∧ i < b + 16)) (h16 : r.hb.length ≤ 16) (hal : (r.bx.isEmpty = true ∧ r.gv.isEmpty = true) ∨ r.al = true)
    (hF0 : r.al = true → ∀ k, F0 k → Fz C w ι (updL σ.h (frz σ.h refs)) k) (hrefs : r.al = true → ∀ id, id ∈ refs → ∃ e sz m es, σ.h id = .sl e sz m es)
    (hnd : lents.Nodup) (hlen : lb.length = lents.length) (hlents : ∀ (k id : Nat), lents[k]? = some id → ∃ b cs, lb[k]? = some b ∧ ι id = some b ∧ σ.h id = .box cs)
    (hgnd : hds.Nodup) (hglen : gb.length = hds.length) (hgl : ∀ (k id : Nat), hds[k]? = some id → ∃ e sz es, gb[k]? = some (ι id, .sl e sz true es) ∧ σ.h id = .sl e sz true es) (hdr : ∀ id, id ∈ hds → id ∉ refs)
    (P : Post w F0 lb gb r v w' ι') :
    ∃ h'' ι'', updL σ.h (numbered b (r.hb.map (Blk.sh b)) ++ boxes lents r.bx ++ hands hds r.gv ++ (if r.al then frz σ.h refs else [])) = h'' ∧ Sat C U' ⟨σ.t, h'', σ.nx⟩ a w' ι'' ∧ VR w' (Fz C w' ι'' h'') ι'' h'' v (r.v.sh b) := by
  obtain ⟨n, hn⟩ : ∃ n, n = r.hb.length := ⟨_, rfl⟩
  obtain ⟨h'', hh''⟩ : ∃ h'', h'' = updL σ.h (numbered b (r.hb.map (Blk.sh b)) ++ boxes lents r.bx ++ hands hds r.gv ++ (if r.al then frz σ.h refs else [])) := ⟨_, rfl⟩
  have hbxl : r.bx.length = lents.length := P.bxl.trans hlen
  have hgvl : r.gv.length = hds.length := P.gvl.trans hglen
  have hdsl : ∀ id, id ∈ hds → ∃ e sz es, σ.h id = .sl e sz true es := by
    intro id hm
    obtain ⟨k, hk, hke⟩ := List.getElem_of_mem hm
    obtain ⟨e, sz, es, _, h2⟩ := hgl k _ (List.getElem?_eq_getElem hk)
    rw [hke] at h2
    exact ⟨e, sz, es, h2⟩
  have hdbox : ∀ id, id ∈ lents → id ∉ hds := by
    intro id hm hm2
    obtain ⟨k, hk, hke⟩ := List.getElem_of_mem hm
    obtain ⟨_, cs, _, _, h3⟩ := hlents k _ (List.getElem?_eq_getElem hk)
    obtain ⟨e, sz, es, h4⟩ := hdsl id hm2
    rw [hke, h4] at h3
    cases h3
  -- the new heap, place by place
  have hnew : ∀ i, i < n → h'' (i + b) = (r.h i).sh b := by
    intro i hi
    have hfr := S.fresh (i + b) (hb _ (by omega) (by omega))
    have h1 : i + b ∉ lents := fun hm => by
      obtain ⟨k, hk, hke⟩ := List.getElem_of_mem hm
      obtain ⟨_, cs, _, _, h3⟩ := hlents k _ (List.getElem?_eq_getElem hk)
      rw [hke, hfr.1] at h3
      cases h3
    have h2 : r.al = true → i + b ∉ refs := fun ha hm => by
      obtain ⟨e, sz, m, es, h3⟩ := hrefs ha _ hm
      rw [hfr.1] at h3
      cases h3
    have h0 : i + b ∉ hds := fun hm => by
      obtain ⟨e, sz, es, h3⟩ := hdsl _ hm
      rw [hfr.1] at h3
      cases h3
    have hbase : updL (updL (updL σ.h (numbered b (r.hb.map (Blk.sh b)))) (boxes lents r.bx)) (hands hds r.gv) (i + b) = (r.h i).sh b := by
      rw [(hands_get hds r.gv _ (i + b) hgnd hgvl).1 h0, (boxes_get lents r.bx _ (i + b) hnd hbxl).1 h1, numbered_get, if_pos ⟨by omega, by simp; omega⟩]
      have : i < r.hb.length := by omega
      simp [Res.h, this]
    rw [hh'', updL_append, updL_append, updL_append]
    cases ha : r.al
    · simpa [updL] using hbase
    · simp only [if_true]
      rw [frz_get, if_neg (h2 ha)]
      exact hbase
  have hlent : ∀ (k id : Nat) (cs : List AV), lents[k]? = some id → r.bx[k]? = some cs → h'' id = .box cs := by
    intro k id cs hk hcs
    have hm : id ∈ lents := List.mem_of_getElem? hk
    obtain ⟨_, cs', _, _, h3⟩ := hlents k id hk
    have h2 : r.al = true → id ∉ refs := fun ha hm => by
      obtain ⟨e, sz, m, es, h4⟩ := hrefs ha _ hm
      rw [h3] at h4
      cases h4
    rw [hh'', updL_append, updL_append, updL_append]
    have hbase : updL (updL (updL σ.h (numbered b (r.hb.map (Blk.sh b)))) (boxes lents r.bx)) (hands hds r.gv) id = .box cs := by
      rw [(hands_get hds r.gv _ id hgnd hgvl).1 (hdbox id hm)]
      exact (boxes_get lents r.bx (updL σ.h (numbered b (r.hb.map (Blk.sh b)))) id hnd hbxl).2 k cs hk hcs
    cases ha : r.al
    · simpa [updL] using hbase
    · simp only [if_true]
      rw [frz_get, if_neg (h2 ha)]
      exact hbase
  have hhand : ∀ (k id : Nat) (B : Blk), hds[k]? = some id → r.gv[k]? = some B → h'' id = B := by
    intro k id B hk hB
    have hm : id ∈ hds := List.mem_of_getElem? hk
    have hbase := (hands_get hds r.gv (updL (updL σ.h (numbered b (r.hb.map (Blk.sh b)))) (boxes lents r.bx)) id hgnd hgvl).2 k B hk hB
    rw [hh'', updL_append, updL_append, updL_append]
    cases ha : r.al
    · simpa [updL] using hbase
    · simp only [if_true]
      rw [frz_get, if_neg (hdr id hm)]
      exact hbase
  have hold : ∀ i, ¬ (b ≤ i ∧ i < b + n) → i ∉ lents → i ∉ hds → h'' i = if r.al = true ∧ i ∈ refs then fzB (σ.h i) else σ.h i := by
    intro i h1 h2 h0
    have hbase : updL (updL (updL σ.h (numbered b (r.hb.map (Blk.sh b)))) (boxes lents r.bx)) (hands hds r.gv) i = σ.h i := by
      rw [(hands_get hds r.gv _ i hgnd hgvl).1 h0, (boxes_get lents r.bx _ i hnd hbxl).1 h2, numbered_get, if_neg (by simpa [← hn] using h1)]
    rw [hh'', updL_append, updL_append, updL_append]
    cases ha : r.al
    · simpa [updL] using hbase
    · simp only [if_true, true_and]
      rw [frz_get]
      split
      · rfl
      · exact hbase
  obtain ⟨ι'', hι''⟩ : ∃ ι'' : Nat → Option Nat, ι'' = fun i => if b ≤ i ∧ i < b + n then ι' (i - b) else if i ∈ hds ∧ (h'' i).alive = false then Option.none else ι i := ⟨_, rfl⟩
  have hιn : ∀ i, i < n → ι'' (i + b) = ι' i := fun i hi => by rw [hι'']; simp only; rw [if_pos (by omega)]; congr 1; omega
  have hιq : ∀ i, ¬ (b ≤ i ∧ i < b + n) → ι'' i = if i ∈ hds ∧ (h'' i).alive = false then Option.none else ι i := fun i hi => by rw [hι'']; simp only; rw [if_neg hi]
  have hιo : ∀ i, ¬ (b ≤ i ∧ i < b + n) → i ∉ hds → ι'' i = ι i := fun i hi h0 => by rw [hιq i hi, if_neg (fun h => h0 h.1)]
  have hιa : ∀ i, ¬ (b ≤ i ∧ i < b + n) → (h'' i).alive = true → ι'' i = ι i := fun i hi h0 => by rw [hιq i hi, if_neg (fun h => by rw [h0] at h; cases h.2)]
  have hιs : ∀ i k, ¬ (b ≤ i ∧ i < b + n) → ι'' i = some k → ι i = some k ∧ (i ∈ hds → (h'' i).alive = true) := fun i k hi hk => by
    rw [hιq i hi] at hk
    split at hk
    · cases hk
    · rename_i h0
      refine ⟨hk, fun hm => ?_⟩
      cases hx : (h'' i).alive with
      | true => rfl
      | false => exact absurd ⟨hm, hx⟩ h0
  have hout : ∀ i, n ≤ i → r.h i = .none ∧ ι' i = Option.none := fun i hi => by
    refine ⟨by simp [Res.h, List.getElem?_eq_none (show r.hb.length ≤ i by omega)], ?_⟩
    cases hx : ι' i with
    | none => rfl
    | some k => have := (P.rng i k hx).2.2; omega
  have hshift : ∀ i, i < n → ι'' (i + b) = ι' i ∧ h'' (i + b) = (r.h i).sh b := fun i hi => ⟨hιn i hi, hnew i hi⟩
  have newnone : ∀ i, b ≤ i ∧ i < b + n → σ.h i = .none ∧ ι i = Option.none := fun i hi => S.fresh i (hb i hi.1 (by omega))
  have newcase : ∀ i, b ≤ i ∧ i < b + n → ∃ j, j < n ∧ i = j + b := fun i hi => ⟨i - b, by omega, by omega⟩
  have lentown : ∀ id k, id ∈ lents → ι id = some k → k ∈ lb ∧ (σ.h id).own = true := by
    intro id k hm hk
    obtain ⟨j, hj, hje⟩ := List.getElem_of_mem hm
    obtain ⟨b', cs, h1, h2, h3⟩ := hlents j _ (List.getElem?_eq_getElem hj)
    rw [hje] at h2 h3
    rw [hk] at h2
    cases h2
    exact ⟨List.mem_of_getElem? h1, by rw [h3]; rfl⟩
  have lblent : ∀ k, k ∈ lb → ∃ id, id ∈ lents ∧ ι id = some k := by
    intro k hm
    obtain ⟨j, hj, hje⟩ := List.getElem_of_mem hm
    have hj2 : j < lents.length := by omega
    obtain ⟨b', cs, h1, h2, h3⟩ := hlents j _ (List.getElem?_eq_getElem hj2)
    rw [List.getElem?_eq_getElem hj, hje] at h1
    cases h1
    exact ⟨_, List.getElem_mem hj2, h2⟩
  have hheap : ∀ k, k < w.heap.size → k ∉ lb → ¬ given gb k → w'.heap[k]? = w.heap[k]? := P.block
  have givid : ∀ k, given gb k → ∃ id, id ∈ hds ∧ ι id = some k := by
    intro k ⟨B, hm⟩
    obtain ⟨j, hj, hje⟩ := List.getElem_of_mem hm
    have hj2 : j < hds.length := by omega
    obtain ⟨e, sz, es, h1, _⟩ := hgl j _ (List.getElem?_eq_getElem hj2)
    rw [List.getElem?_eq_getElem hj, hje] at h1
    simp only [Option.some.injEq, Prod.mk.injEq] at h1
    exact ⟨_, List.getElem_mem hj2, h1.1.symm⟩
  have notgiv : ∀ k, Fz C w ι σ.h k → ¬ given gb k := by
    intro k hk hg
    obtain ⟨id, h1, h2⟩ := givid k hg
    obtain ⟨e, sz, es, h3⟩ := hdsl id h1
    have := hk.2.2 id h2
    rw [h3] at this
    cases this
  have givfr : ∀ k, given gb k → C.fr k := by
    intro k hg
    obtain ⟨id, h1, h2⟩ := givid k hg
    obtain ⟨e, sz, es, h3⟩ := hdsl id h1
    exact (S.rng id k h2).1.elim (fun h => h) fun ⟨_, cs, h4⟩ => by rw [h3] at h4; cases h4
  have deadid : ∀ k, (∃ (j : Nat) (B0 : Blk), gb[j]? = some (some k, B0) ∧ r.gv[j]? = some Blk.dead) → given gb k ∧ ∃ id, id ∈ hds ∧ ι id = some k ∧ h'' id = .dead := by
    intro k ⟨j, B0, h1, h2⟩
    refine ⟨⟨B0, List.mem_of_getElem? h1⟩, ?_⟩
    have hj : j < hds.length := by have := (List.getElem?_eq_some_iff.1 h1).1; omega
    obtain ⟨e, sz, es, h3, _⟩ := hgl j _ (List.getElem?_eq_getElem hj)
    rw [h1] at h3
    simp only [Option.some.injEq, Prod.mk.injEq] at h3
    exact ⟨_, List.getElem_mem hj, h3.1.symm, hhand j _ _ (List.getElem?_eq_getElem hj) h2⟩
  have handcase : ∀ i, i ∈ hds → ∃ (j : Nat) (e : TypeId) (sz : Nat) (es : List (List D)), σ.h i = .sl e sz true es ∧ gb[j]? = some (ι i, .sl e sz true es) ∧ r.gv[j]? = some (h'' i) := by
    intro i hm
    obtain ⟨j, hj, hje⟩ := List.getElem_of_mem hm
    obtain ⟨e, sz, es, h1, h2⟩ := hgl j _ (List.getElem?_eq_getElem hj)
    rw [hje] at h1 h2
    have hj2 : j < r.gv.length := by omega
    have := hhand j _ _ (List.getElem?_eq_getElem hj) (List.getElem?_eq_getElem hj2)
    rw [hje] at this
    exact ⟨j, e, sz, es, h2, h1, by rw [this]; exact List.getElem?_eq_getElem hj2⟩
  have notlb : ∀ k, Fz C w ι σ.h k → k ∉ lb := by
    intro k hk hm
    obtain ⟨id, h1, h2⟩ := lblent k hm
    have h3 := hk.2.2 id h2
    rw [(lentown id k h1 h2).2] at h3
    cases h3
  have hF : ∀ k, Fz C w ι σ.h k → Fz C w' ι'' h'' k ∧ w'.heap[k]? = w.heap[k]? := by
    intro k hk
    refine ⟨⟨by have := hk.1; have := P.size; omega, hk.2.1, fun i hi => ?_⟩, hheap k hk.1 (notlb k hk) (notgiv k hk)⟩
    by_cases hc : b ≤ i ∧ i < b + n
    · obtain ⟨j, hj, rfl⟩ := newcase i hc
      rw [hιn j hj] at hi
      rcases (P.rng j k hi).1 with h5 | h5
      · have := hk.1
        omega
      · exact absurd (deadid k h5).1 (notgiv k hk)
    · have hi := (hιs i k hc hi).1
      have hown := hk.2.2 i hi
      have hnl : i ∉ lents := fun hm => by rw [(lentown i k hm hi).2] at hown; cases hown
      have hnh : i ∉ hds := fun hm => by
        obtain ⟨e, sz, es, h3⟩ := hdsl i hm
        rw [h3] at hown
        cases hown
      rw [hold i hc hnl hnh]
      split
      · cases hx : (fzB (σ.h i)).own with
        | false => rfl
        | true => rw [fzB_own _ hx] at hown; cases hown
      · exact hown
  have hg : ∀ i, Goes w w' ι ι'' σ.h h'' i := by
    intro i
    unfold Goes
    by_cases hc : b ≤ i ∧ i < b + n
    · exact .inl (newnone i hc).1
    · by_cases hl : i ∈ lents
      · obtain ⟨j, hj, hje⟩ := List.getElem_of_mem hl
        obtain ⟨b', cs, h1, h2, h3⟩ := hlents j _ (List.getElem?_eq_getElem hj)
        have hj2 : j < r.bx.length := by omega
        have h4 := hlent j _ _ (List.getElem?_eq_getElem hj) (List.getElem?_eq_getElem hj2)
        obtain ⟨_, h6, e, vals, h7, h8⟩ := P.bx j b' _ h1 (List.getElem?_eq_getElem hj2)
        rw [hje] at h2 h3 h4
        right; right
        refine ⟨hιo i hc (hdbox i hl), ?_, fun k hk => ?_⟩
        · rw [h3, h4]
          have hblk := S.blk i
          rw [h3] at hblk
          cases hblk with
          | box bk et vs _ hi' hb' hl' _ _ =>
            rw [h2] at hi'; cases hi'
            unfold World.shape? at h6
            rw [hb', h7] at h6
            simp only [Option.some.injEq, Prod.mk.injEq] at h6
            show (r.bx[j]).length = cs.length
            rw [← h8.size, h6.2, hl']
        · rw [h2] at hk; cases hk; exact h6
      · by_cases hh : i ∈ hds
        · obtain ⟨j, e, sz, es, h1, h2, h3⟩ := handcase i hh
          rcases P.gv j _ _ _ h2 h3 with h4 | ⟨h4, _, h5⟩
          · exact .inr (.inl h4)
          · right; right
            exact ⟨hιa i hc h4.alive, by rw [h1]; exact h4, h5⟩
        rw [hold i hc hl hh]
        have hsh : ∀ k, ι i = some k → w'.shape? k = w.shape? k := fun k hk => by
          unfold World.shape?
          rw [hheap k (S.rng i k hk).2 (fun hm => by
            obtain ⟨id, h1, h2⟩ := lblent k hm
            exact hl (by rw [S.inj i id k hk h2]; exact h1)) (fun hm => by
            obtain ⟨id, h1, h2⟩ := givid k hm
            exact hh (by rw [S.inj i id k hk h2]; exact h1))]
        cases hx : σ.h i with
        | none => exact .inl rfl
        | dead => right; left; split <;> rfl
        | box cs => right; right; refine ⟨hιo i hc hh, ?_, hsh⟩; split <;> exact rfl
        | sl e sz m es => right; right; refine ⟨hιo i hc hh, ?_, hsh⟩; split <;> exact ⟨rfl, rfl, rfl⟩
  have hFz : ∀ k, FzC w w' F0 gb r ι' k → Fz C w' ι'' h'' k := by
    intro k ⟨h1, h2, h3, h4⟩
    have holdown : ∀ i, ¬ (b ≤ i ∧ i < b + n) → ι i = some k → (h'' i).own = false := by
      intro i hc hi
      by_cases hh : i ∈ hds
      · obtain ⟨j, e, sz, es, g1, g2, g3⟩ := handcase i hh
        rw [hi] at g2
        exact h4 j _ _ g2 g3
      rcases h2 with ⟨ha, h2⟩ | h2 | h2
      · have hz := (hF0 ha k h2).2.2 i hi
        rw [frz_get] at hz
        have hnl : i ∉ lents := fun hm => by
          have h5 := (lentown i k hm hi).2
          obtain ⟨j, hj, hje⟩ := List.getElem_of_mem hm
          obtain ⟨_, cs, _, _, h6⟩ := hlents j _ (List.getElem?_eq_getElem hj)
          rw [hje] at h6
          rw [h6] at hz
          split at hz <;> cases hz
        rw [hold i hc hnl hh]
        split
        · rename_i hcc; rw [if_pos hcc.2] at hz; exact hz
        · rename_i hcc
          rw [if_neg (fun hm => hcc ⟨ha, hm⟩)] at hz
          exact hz
      · have := (S.rng i k hi).2; omega
      · obtain ⟨id, g1, g2⟩ := givid k h2
        rw [S.inj _ _ _ g2 hi] at g1
        exact absurd g1 hh
    refine ⟨h1, ?_, fun i hi => ?_⟩
    · rcases h2 with ⟨ha, h2⟩ | h2 | h2
      · exact (hF0 ha k h2).2.1
      · have := S.fra.size; exact .inr (.inl (by omega))
      · exact .inr (givfr k h2)
    · by_cases hc : b ≤ i ∧ i < b + n
      · obtain ⟨j, hj, rfl⟩ := newcase i hc
        rw [hιn j hj] at hi
        rw [hnew j hj]
        have := h3 j hi
        cases hx : r.h j <;> simp_all [Blk.sh, Blk.own]
      · exact holdown i hc (hιs i k hc hi).1
  have clash : ∀ p j k, ¬ (b ≤ j ∧ j < b + n) → ι' p = some k → ι'' j = some k → False := by
    intro p j k hc hp hj
    obtain ⟨h1, h2⟩ := hιs j k hc hj
    rcases (P.rng p k hp).1 with h3 | h3
    · have := (S.rng j k h1).2
      omega
    · obtain ⟨_, id, h4, h5, h6⟩ := deadid k h3
      have := S.inj _ _ _ h1 h5
      subst this
      have := h2 h4
      rw [h6] at this
      cases this
  refine ⟨h'', ι'', hh''.symm, S.evolve ?_ hF hg (fun i cs hx => ?_) (fun i => ?_) (fun i j k hi hj => ?_) (fun i k hi => ?_) (fun i hi => ?_) (fun i k hi => ?_), (P.val.shift hshift hout).up hFz⟩
  · refine ⟨P.os.trans S.fra.os, P.tape.trans S.fra.tape, P.output.trans S.fra.output, Nat.le_trans S.fra.size P.size, fun k hk hX => ?_⟩
    rw [hheap k (by have := S.fra.size; omega) (fun hm => ?_) (fun hm => ?_)]
    · exact S.fra.block k hk hX
    · obtain ⟨id, h1, h2⟩ := lblent k hm
      rcases (S.rng id k h2).1 with h3 | ⟨h3, _⟩
      · exact h3.fra.elim (fun h => by omega) hX
      · exact hX h3
    · exact (givfr k hm).fra.elim (fun h => by omega) hX
  · by_cases hc : b ≤ i ∧ i < b + n
    · rw [(S.fresh i (hb i hc.1 (by omega))).1] at hx; cases hx
    · by_cases hl : i ∈ lents
      · obtain ⟨j, hj, hje⟩ := List.getElem_of_mem hl
        have hj2 : j < r.bx.length := by omega
        have h4 := hlent j _ _ (List.getElem?_eq_getElem hj) (List.getElem?_eq_getElem hj2)
        rw [hje] at h4
        rw [h4]; simp
      · by_cases hh : i ∈ hds
        · obtain ⟨e, sz, es, h3⟩ := hdsl i hh
          rw [hx] at h3
          cases h3
        rw [hold i hc hl hh, hx]
        split <;> simp [fzB]
  · by_cases hc : b ≤ i ∧ i < b + n
    · right
      obtain ⟨j, hj, rfl⟩ := newcase i hc
      rw [hnew j hj]
      exact (P.blk j).shift hFz hshift hout hj
    · by_cases hl : i ∈ lents
      · right
        obtain ⟨j, hj, hje⟩ := List.getElem_of_mem hl
        obtain ⟨b', cs, h1, h2, h3⟩ := hlents j _ (List.getElem?_eq_getElem hj)
        have hj2 : j < r.bx.length := by omega
        have h4 := hlent j _ _ (List.getElem?_eq_getElem hj) (List.getElem?_eq_getElem hj2)
        obtain ⟨h5, _, e, vals, h7, h8⟩ := P.bx j b' _ h1 (List.getElem?_eq_getElem hj2)
        rw [hje] at h2 h4
        rw [h4]
        refine .box b' e vals _ ((hιo i hc (hdbox i hl)).trans h2) h7 h8.size h8.one (fun k v x hk hx => ?_)
        have hx5 := List.all_eq_true.1 h5 x (List.mem_of_getElem? hx)
        cases x with
        | c d => exact (h8.vr k v _ hk hx).data hFz
        | _ => simp [isC] at hx5
      · by_cases hh : i ∈ hds
        · right
          obtain ⟨j, e, sz, es, h1, h2, h3⟩ := handcase i hh
          rcases P.gv j _ _ _ h2 h3 with h4 | ⟨h4, h5, _⟩
          · rw [h4]; exact .dead
          · have hal' : (h'' i).alive = true := h4.alive
            have hιi := hιa i hc hal'
            cases hx : h'' i with
            | sl e' sz' m es' =>
              rw [hx] at h5
              cases h5 with
              | slnil _ _ _ hz hi => exact .slnil e' sz' m hz (hιi.trans hi)
              | sl bk _ _ _ _ cur Cc hz hi hb hC hle hC2 hsz hv => exact .sl bk e' sz' m es' cur Cc hz (hιi.trans hi) hb hC hle hC2 hsz (fun i j x d hx hd => let ⟨v, h1, h2⟩ := hv i j x d hx hd; ⟨v, h1, h2.mono fun b hb => ⟨hFz b hb, rfl⟩⟩)
            | none => exact .none
            | dead => exact .dead
            | box cs => rw [hx] at h4; exact h4.elim
        have hsame : ∀ k, ι i = some k → w'.heap[k]? = w.heap[k]? := fun k hk => hheap k (S.rng i k hk).2 (fun hm => by
            obtain ⟨id, h1, h2⟩ := lblent k hm
            exact hl (by rw [S.inj i id k hk h2]; exact h1)) (fun hm => by
            obtain ⟨id, h1, h2⟩ := givid k hm
            exact hh (by rw [S.inj i id k hk h2]; exact h1))
        have hm := (S.blk i).mono hF hg (hιo i hc hh) hsame
        have ho := hold i hc hl hh
        split at ho
        · right
          rw [ho]
          cases hx : σ.h i with
          | none => exact .none
          | dead => exact .dead
          | box cs => rw [hx] at hm; exact hm
          | sl e sz m es =>
            rw [hx] at hm
            cases hm with
            | slnil _ _ _ hz hi => exact .slnil e sz false hz hi
            | sl bk _ _ _ _ cur Cc hz hi hb hC hle hC2 hsz hv => exact .sl bk e sz false es cur Cc hz hi hb hC hle hC2 hsz hv
        · left
          exact ⟨ho, hιo i hc hh, hsame⟩
  · by_cases h1 : b ≤ i ∧ i < b + n
    · obtain ⟨p, hp, rfl⟩ := newcase i h1
      rw [hιn p hp] at hi
      by_cases h2 : b ≤ j ∧ j < b + n
      · obtain ⟨q, hq, rfl⟩ := newcase j h2
        rw [hιn q hq] at hj
        rw [P.inj p q k hi hj]
      · exact (clash p j k h2 hi hj).elim
    · by_cases h2 : b ≤ j ∧ j < b + n
      · obtain ⟨q, hq, rfl⟩ := newcase j h2
        rw [hιn q hq] at hj
        exact (clash q i k h1 hj hi).elim
      · exact S.inj i j k (hιs i k h1 hi).1 (hιs j k h2 hj).1
  · by_cases h1 : b ≤ i ∧ i < b + n
    · obtain ⟨p, hp, rfl⟩ := newcase i h1
      rw [hιn p hp] at hi
      have h2 := P.rng p k hi
      have := S.fra.size
      rcases h2.1 with h5 | h5
      · exact ⟨.inl (.inl (by omega)), h2.2.1⟩
      · exact ⟨.inl (givfr k (deadid k h5).1), h2.2.1⟩
    · have hi := (hιs i k h1 hi).1
      obtain ⟨h2, h3⟩ := S.rng i k hi
      refine ⟨h2.imp (fun h => h) fun ⟨hX, cs, hcs⟩ => ⟨hX, ?_⟩, by have := P.size; omega⟩
      by_cases hl : i ∈ lents
      · obtain ⟨j, hj, hje⟩ := List.getElem_of_mem hl
        have hj2 : j < r.bx.length := by omega
        have h4 := hlent j _ _ (List.getElem?_eq_getElem hj) (List.getElem?_eq_getElem hj2)
        rw [hje] at h4
        exact ⟨_, h4⟩
      · by_cases hh : i ∈ hds
        · obtain ⟨e, sz, es, h5⟩ := hdsl i hh
          rw [hcs] at h5
          cases h5
        rw [hold i h1 hl hh, hcs]
        split <;> exact ⟨_, rfl⟩
  · obtain ⟨h1, h2⟩ := hU' i hi
    have hc : ¬ (b ≤ i ∧ i < b + n) := fun h => h2 ⟨h.1, by omega⟩
    have hf := S.fresh i h1
    have hh : i ∉ hds := fun hm => by
      obtain ⟨e, sz, es, h3⟩ := hdsl i hm
      rw [hf.1] at h3
      cases h3
    rw [hιo i hc hh]
    have hl : i ∉ lents := fun hm => by
      obtain ⟨j, hj, hje⟩ := List.getElem_of_mem hm
      obtain ⟨_, cs, _, _, h6⟩ := hlents j _ (List.getElem?_eq_getElem hj)
      rw [hje, hf.1] at h6
      cases h6
    rw [hold i hc hl hh, hf.1]
    refine ⟨?_, hf.2⟩
    split <;> rfl
  · by_cases h1 : b ≤ i ∧ i < b + n
    · obtain ⟨p, hp, rfl⟩ := newcase i h1
      rw [hιn p hp] at hi
      rw [hnew p hp]
      exact ne_sh (P.live p k hi)
    · obtain ⟨hi, hi2⟩ := hιs i k h1 hi
      have := S.live i k hi
      by_cases hl : i ∈ lents
      · obtain ⟨j, hj, hje⟩ := List.getElem_of_mem hl
        have hj2 : j < r.bx.length := by omega
        have h4 := hlent j _ _ (List.getElem?_eq_getElem hj) (List.getElem?_eq_getElem hj2)
        rw [hje] at h4
        rw [h4]; simp
      · by_cases hh : i ∈ hds
        · exact alive_ne (hi2 hh)
        rw [hold i h1 hl hh]
        split
        · exact ne_fz this
        · exact this

end
end Go.Proofs.Ytephkbajoofeoaa.Am
