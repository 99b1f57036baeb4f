/-
  SOUNDNESS OF A CALL.
-/
import Derived.Test.YtpnblnkggeopkaaAmJ
namespace Go.Proofs.Ytpnblnkggeopkaa.Am
set_option linter.unusedSimpArgs false
set_option linter.unusedVariables false
open Go Go.RowKit

section
variable {C : Ctx} {U U' : Nat → Prop} {σ : St} {a : Act} {w : World} {ι : Nat → Option Nat}

theorem ds_map_c {h : Nat → Blk} {xs : List AV} {ds : List D} (hx : AV.ds h xs = some ds) : (ds.map AV.c).all isC = true := by
  rw [List.all_eq_true]
  intro x hx
  obtain ⟨d, _, rfl⟩ := List.mem_map.1 hx
  rfl

/-- The arguments that the machine hands over are what the values are. -/
theorem args_of (S : Sat C U σ a w ι) {F0 : Nat → Prop} (hF : ∀ b, Fz C w ι σ.h b → F0 b) :
    ∀ (vs : List Value) (xs ys : List AV), vs.length = xs.length → (∀ (k : Nat) (v : Value) (x : AV), vs[k]? = some v → xs[k]? = some x → VR w (Fz C w ι σ.h) ι σ.h v x) → AV.argL σ.h xs = some ys →
      (∀ id b, id ∈ xs.flatMap AV.refs → (∃ e sz m es, σ.h id = .sl e sz m es) → ι id = some b → F0 b) → (xs.flatMap AV.lent).Nodup →
      ∃ lb, Args w F0 vs ys lb ∧ lb.length = (xs.flatMap AV.lent).length ∧ (∀ (k id : Nat), (xs.flatMap AV.lent)[k]? = some id → ∃ b cs, lb[k]? = some b ∧ ι id = some b ∧ σ.h id = .box cs) ∧ (∀ id, id ∈ xs.flatMap AV.refs → ∃ e sz m es, σ.h id = .sl e sz m es)
  | [], [], ys, _, _, hy, _, _ => by
    simp [AV.argL] at hy
    subst hy
    exact ⟨[], .nil, rfl, by simp, by simp⟩
  | v :: vs, x :: xs, ys, hl, hv, hy, hown, hnd => by
    simp only [AV.argL] at hy
    split at hy
    rotate_left
    · cases hy
    rename_i y ys' hx hys
    cases hy
    have hvx := hv 0 v x rfl rfl
    simp only [List.flatMap_cons] at hown hnd
    have hnd' := (List.nodup_append.1 hnd)
    obtain ⟨lb, h1, h2, h3, h4⟩ := args_of S hF vs xs ys' (by simpa using hl) (fun k v x hk hx => hv (k + 1) v x hk hx) hys (fun id b hid => hown id b (List.mem_append.2 (.inr hid))) hnd'.2.1
    have hrd : ∀ (v : Value) (x : AV) (d : D), VR w (Fz C w ι σ.h) ι σ.h v x → x.d σ.h = some d → (∀ id, id ∈ x.ref1 → id ∈ (AV.refs x) ∨ True) → (∀ id b, id ∈ x.ref1 → ι id = some b → F0 b) → Rd w F0 v d := fun v x d h5 h6 _ h7 => AV.d_rd S hF h5 h6 h7
    cases x with
    | c d =>
      simp [AV.arg] at hx
      subst hx
      refine ⟨lb, .dat v _ vs ys' lb (hvx.data hF) h1 rfl, by simpa [AV.lent] using h2, by simpa [AV.lent] using h3, fun id hid => ?_⟩
      rw [List.flatMap_cons] at hid
      rcases List.mem_append.1 hid with hid | hid
      · simp [AV.refs, AV.ref1] at hid
      · exact h4 id hid
    | n sz =>
      simp [AV.arg] at hx
      subst hx
      have : Rd w F0 v (.sl sz []) := AV.d_rd S hF hvx rfl (by simp [AV.ref1])
      refine ⟨lb, .dat v _ vs ys' lb (vr_c this) h1 rfl, by simpa [AV.lent] using h2, by simpa [AV.lent] using h3, fun id hid => ?_⟩
      rw [List.flatMap_cons] at hid
      rcases List.mem_append.1 hid with hid | hid
      · simp [AV.refs, AV.ref1] at hid
      · exact h4 id hid
    | r sz id off len =>
      simp only [AV.arg] at hx
      split at hx
      rotate_left
      · cases hx
      rename_i d hd
      cases hx
      have hsl : ∃ e sz m es, σ.h id = .sl e sz m es := by
        simp only [AV.d] at hd
        split at hd
        · rename_i e sz m es hh; exact ⟨_, _, _, _, hh⟩
        · cases hd
      have : Rd w F0 v d := AV.d_rd S hF hvx hd (fun id' b' hid' hi' => by
        simp [AV.ref1] at hid'
        subst hid'
        exact hown id' b' (List.mem_append.2 (.inl (by simp [AV.refs, AV.ref1]))) hsl hi')
      refine ⟨lb, .dat v _ vs ys' lb (vr_c this) h1 rfl, by simpa [AV.lent] using h2, by simpa [AV.lent] using h3, fun id' hid => ?_⟩
      rw [List.flatMap_cons] at hid
      rcases List.mem_append.1 hid with hid | hid
      · simp [AV.refs, AV.ref1] at hid; subst hid; exact hsl
      · exact h4 id' hid
    | a cs =>
      simp only [AV.arg] at hx
      split at hx
      rotate_left
      · cases hx
      rename_i ds hds
      cases hx
      have hdsl := AV.ds_get hds
      have hrefs := ds_refs hds
      have : VR w F0 noι noh v (.a (ds.map .c)) := by
        generalize hcs : cs = cs0 at *
        cases hvx with
        | a us _ hl' h1' hv' =>
          refine .a us _ (by simp [hdsl.1, hl']) h1' (fun k u y hk hy => ?_)
          simp only [List.getElem?_map, Option.map_eq_some_iff] at hy
          obtain ⟨d, hd, rfl⟩ := hy
          have hlt : k < cs0.length := by rw [← hdsl.1]; exact (List.getElem?_eq_some_iff.1 hd).1
          obtain ⟨d', hd', hdd⟩ := hdsl.2 k _ (List.getElem?_eq_getElem hlt)
          rw [hd] at hd'
          cases hd'
          refine vr_c (AV.d_rd S hF (hv' k u _ hk (List.getElem?_eq_getElem hlt)) hdd (fun id b hid hi => ?_))
          have hm := refsL_mem (List.getElem?_eq_getElem hlt) hid
          exact hown id b (List.mem_append.2 (.inl hm)) (hrefs id hm) hi
      refine ⟨lb, .dat v _ vs ys' lb this h1 ?_, by simpa [AV.lent] using h2, by simpa [AV.lent] using h3, fun id' hid => ?_⟩
      · simp only [AV.dat, List.all_eq_true]
        intro x hx
        obtain ⟨d, _, rfl⟩ := List.mem_map.1 hx
        rfl
      · rw [List.flatMap_cons] at hid
        rcases List.mem_append.1 hid with hid | hid
        · exact hrefs id' hid
        · exact h4 id' hid
    | p id i j =>
      match i, j, hx with
      | 0, 0, hx =>
        simp only [AV.arg] at hx
        split at hx
        rotate_left
        · cases hx
        rename_i cs hh
        split at hx
        rotate_left
        · cases hx
        rename_i hnr
        split at hx
        rotate_left
        · cases hx
        rename_i ds hds
        cases hx
        have hdsl := AV.ds_get hds
        have hblk := S.blk id
        rw [hh] at hblk
        cases hvx with
        | pdead _ _ _ _ _ hdd => rw [hdd] at hh; cases hh
        | p _ _ _ bk hi hn' hnd2 =>
          rw [hh]
          simp only [Blk.sz, Nat.mul_zero, Nat.zero_add]
          cases hblk with
          | box bk' et vals _ hi' hb hl' h1' hvr =>
            rw [hi] at hi'; cases hi'
            have hnot : bk ∉ lb := by
              intro hm
              obtain ⟨k, hk, hke⟩ := List.getElem_of_mem hm
              have hk2 : k < (xs.flatMap AV.lent).length := by omega
              obtain ⟨b', cs', h5, h6, _⟩ := h3 k _ (List.getElem?_eq_getElem hk2)
              rw [List.getElem?_eq_getElem hk, hke] at h5
              cases h5
              have := S.inj _ _ _ hi h6
              exact hnd'.2.2 id (by simp [AV.lent]) _ (List.getElem_mem hk2) this
            refine ⟨bk :: lb, .box bk et vals _ vs ys' lb hb ⟨by simp [hdsl.1, hl'], h1', fun k u y hk hy => ?_⟩ (ds_map_c hds) hnot h1, by simp [AV.lent, h2], fun k id' hk => ?_, fun id' hid => ?_⟩
            · simp only [List.getElem?_map, Option.map_eq_some_iff] at hy
              obtain ⟨d, hd, rfl⟩ := hy
              have hlt : k < cs.length := by rw [← hdsl.1]; exact (List.getElem?_eq_some_iff.1 hd).1
              obtain ⟨d', hd', hdd⟩ := hdsl.2 k _ (List.getElem?_eq_getElem hlt)
              rw [hd] at hd'
              cases hd'
              refine vr_c (AV.d_rd S hF (hvr k u _ hk (List.getElem?_eq_getElem hlt)) hdd (fun id b hid hi => ?_))
              have hm := refsL_mem (List.getElem?_eq_getElem hlt) hid
              rw [hnr] at hm
              cases hm
            · simp only [List.flatMap_cons, AV.lent, List.singleton_append] at hk
              cases k with
              | zero => simp at hk; subst hk; exact ⟨bk, cs, rfl, hi, hh⟩
              | succ k => simp at hk; simpa using h3 k id' hk
            · rw [List.flatMap_cons] at hid
              rcases List.mem_append.1 hid with hid | hid
              · simp [AV.refs, AV.ref1] at hid
              · exact h4 id' hid
      | i + 1, _, hx => simp [AV.arg] at hx
      | 0, j + 1, hx => simp [AV.arg] at hx
    | u => simp [AV.arg] at hx
    | q => simp [AV.arg] at hx
    | t => simp [AV.arg] at hx
    | bx => simp [AV.arg] at hx

/-- What stands behind a call, in the caller's words. -/
theorem Sat.called (S : Sat C U σ a w ι) {b : Nat} {r : Res} {refs lents lb : List Nat} {F0 : Nat → Prop} {v : Value} {w' : World} {ι' : Nat → Option Nat}
    (hb : ∀ i, b ≤ i → i < b + 16 → U i) (hU' : ∀ i, U' i → U i ∧ ¬ (b ≤ i ∧ i < b + 16)) (h16 : r.hb.length ≤ 16) (hal : r.bx.isEmpty = true ∨ r.al = true)
    (hF0 : r.al = true → ∀ k, F0 k → Fz C w ι (updL σ.h (frz σ.h refs)) k) (hrefs : r.al = true → ∀ id, id ∈ refs → ∃ e sz m es, σ.h id = .sl e sz m es)
    (hnd : lents.Nodup) (hlen : lb.length = lents.length) (hlents : ∀ (k id : Nat), lents[k]? = some id → ∃ b cs, lb[k]? = some b ∧ ι id = some b ∧ σ.h id = .box cs)
    (P : Post w F0 lb r v w' ι') :
    ∃ h'' ι'', updL σ.h (numbered b (r.hb.map (Blk.sh b)) ++ boxes lents r.bx ++ (if r.al then frz σ.h refs else [])) = h'' ∧ Sat C U' ⟨σ.t, h'', σ.nx⟩ a w' ι'' ∧ VR w' (Fz C w' ι'' h'') ι'' h'' v (r.v.sh b) := by
  obtain ⟨n, hn⟩ : ∃ n, n = r.hb.length := ⟨_, rfl⟩
  obtain ⟨h'', hh''⟩ : ∃ h'', h'' = updL σ.h (numbered b (r.hb.map (Blk.sh b)) ++ boxes lents r.bx ++ (if r.al then frz σ.h refs else [])) := ⟨_, rfl⟩
  have hbxl : r.bx.length = lents.length := P.bxl.trans hlen
  -- the new heap, place by place
  have hnew : ∀ i, i < n → h'' (i + b) = (r.h i).sh b := by
    intro i hi
    have hfr := S.fresh (i + b) (hb _ (by omega) (by omega))
    have h1 : i + b ∉ lents := fun hm => by
      obtain ⟨k, hk, hke⟩ := List.getElem_of_mem hm
      obtain ⟨_, cs, _, _, h3⟩ := hlents k _ (List.getElem?_eq_getElem hk)
      rw [hke, hfr.1] at h3
      cases h3
    have h2 : r.al = true → i + b ∉ refs := fun ha hm => by
      obtain ⟨e, sz, m, es, h3⟩ := hrefs ha _ hm
      rw [hfr.1] at h3
      cases h3
    have hbase : updL (updL σ.h (numbered b (r.hb.map (Blk.sh b)))) (boxes lents r.bx) (i + b) = (r.h i).sh b := by
      rw [(boxes_get lents r.bx _ (i + b) hnd hbxl).1 h1, numbered_get, if_pos ⟨by omega, by simp; omega⟩]
      have : i < r.hb.length := by omega
      simp [Res.h, this]
    rw [hh'', updL_append, updL_append]
    cases ha : r.al
    · simpa [updL] using hbase
    · simp only [if_true]
      rw [frz_get, if_neg (h2 ha)]
      exact hbase
  have hlent : ∀ (k id : Nat) (cs : List AV), lents[k]? = some id → r.bx[k]? = some cs → h'' id = .box cs := by
    intro k id cs hk hcs
    have hm : id ∈ lents := List.mem_of_getElem? hk
    obtain ⟨_, cs', _, _, h3⟩ := hlents k id hk
    have h2 : r.al = true → id ∉ refs := fun ha hm => by
      obtain ⟨e, sz, m, es, h4⟩ := hrefs ha _ hm
      rw [h3] at h4
      cases h4
    rw [hh'', updL_append, updL_append]
    have hbase := (boxes_get lents r.bx (updL σ.h (numbered b (r.hb.map (Blk.sh b)))) id hnd hbxl).2 k cs hk hcs
    cases ha : r.al
    · simpa [updL] using hbase
    · simp only [if_true]
      rw [frz_get, if_neg (h2 ha)]
      exact hbase
  have hold : ∀ i, ¬ (b ≤ i ∧ i < b + n) → i ∉ lents → h'' i = if r.al = true ∧ i ∈ refs then fzB (σ.h i) else σ.h i := by
    intro i h1 h2
    have hbase : updL (updL σ.h (numbered b (r.hb.map (Blk.sh b)))) (boxes lents r.bx) i = σ.h i := by
      rw [(boxes_get lents r.bx _ i hnd hbxl).1 h2, numbered_get, if_neg (by simpa [← hn] using h1)]
    rw [hh'', updL_append, updL_append]
    cases ha : r.al
    · simpa [updL] using hbase
    · simp only [if_true, true_and]
      rw [frz_get]
      split
      · rfl
      · exact hbase
  obtain ⟨ι'', hι''⟩ : ∃ ι'' : Nat → Option Nat, ι'' = fun i => if b ≤ i ∧ i < b + n then ι' (i - b) else ι i := ⟨_, rfl⟩
  have hιn : ∀ i, i < n → ι'' (i + b) = ι' i := fun i hi => by rw [hι'']; simp only; rw [if_pos (by omega)]; congr 1; omega
  have hιo : ∀ i, ¬ (b ≤ i ∧ i < b + n) → ι'' i = ι i := fun i hi => by rw [hι'']; simp only; rw [if_neg hi]
  have hout : ∀ i, n ≤ i → r.h i = .none ∧ ι' i = Option.none := fun i hi => by
    refine ⟨by simp [Res.h, List.getElem?_eq_none (show r.hb.length ≤ i by omega)], ?_⟩
    cases hx : ι' i with
    | none => rfl
    | some k => have := (P.rng i k hx).2.2; omega
  have hshift : ∀ i, i < n → ι'' (i + b) = ι' i ∧ h'' (i + b) = (r.h i).sh b := fun i hi => ⟨hιn i hi, hnew i hi⟩
  have newnone : ∀ i, b ≤ i ∧ i < b + n → σ.h i = .none ∧ ι i = Option.none := fun i hi => S.fresh i (hb i hi.1 (by omega))
  have newcase : ∀ i, b ≤ i ∧ i < b + n → ∃ j, j < n ∧ i = j + b := fun i hi => ⟨i - b, by omega, by omega⟩
  have lentown : ∀ id k, id ∈ lents → ι id = some k → k ∈ lb ∧ (σ.h id).own = true := by
    intro id k hm hk
    obtain ⟨j, hj, hje⟩ := List.getElem_of_mem hm
    obtain ⟨b', cs, h1, h2, h3⟩ := hlents j _ (List.getElem?_eq_getElem hj)
    rw [hje] at h2 h3
    rw [hk] at h2
    cases h2
    exact ⟨List.mem_of_getElem? h1, by rw [h3]; rfl⟩
  have lblent : ∀ k, k ∈ lb → ∃ id, id ∈ lents ∧ ι id = some k := by
    intro k hm
    obtain ⟨j, hj, hje⟩ := List.getElem_of_mem hm
    have hj2 : j < lents.length := by omega
    obtain ⟨b', cs, h1, h2, h3⟩ := hlents j _ (List.getElem?_eq_getElem hj2)
    rw [List.getElem?_eq_getElem hj, hje] at h1
    cases h1
    exact ⟨_, List.getElem_mem hj2, h2⟩
  have hheap : ∀ k, k < w.heap.size → k ∉ lb → w'.heap[k]? = w.heap[k]? := P.block
  have notlb : ∀ k, Fz C w ι σ.h k → k ∉ lb := by
    intro k hk hm
    obtain ⟨id, h1, h2⟩ := lblent k hm
    have h3 := hk.2.2 id h2
    rw [(lentown id k h1 h2).2] at h3
    cases h3
  have hF : ∀ k, Fz C w ι σ.h k → Fz C w' ι'' h'' k ∧ w'.heap[k]? = w.heap[k]? := by
    intro k hk
    refine ⟨⟨by have := hk.1; have := P.size; omega, hk.2.1, fun i hi => ?_⟩, hheap k hk.1 (notlb k hk)⟩
    by_cases hc : b ≤ i ∧ i < b + n
    · obtain ⟨j, hj, rfl⟩ := newcase i hc
      rw [hιn j hj] at hi
      have := (P.rng j k hi).1
      have := hk.1
      omega
    · rw [hιo i hc] at hi
      have hown := hk.2.2 i hi
      have hnl : i ∉ lents := fun hm => by rw [(lentown i k hm hi).2] at hown; cases hown
      rw [hold i hc hnl]
      split
      · cases hx : (fzB (σ.h i)).own with
        | false => rfl
        | true => rw [fzB_own _ hx] at hown; cases hown
      · exact hown
  have hg : ∀ i, Goes w w' ι ι'' σ.h h'' i := by
    intro i
    unfold Goes
    by_cases hc : b ≤ i ∧ i < b + n
    · exact .inl (newnone i hc).1
    · by_cases hl : i ∈ lents
      · obtain ⟨j, hj, hje⟩ := List.getElem_of_mem hl
        obtain ⟨b', cs, h1, h2, h3⟩ := hlents j _ (List.getElem?_eq_getElem hj)
        have hj2 : j < r.bx.length := by omega
        have h4 := hlent j _ _ (List.getElem?_eq_getElem hj) (List.getElem?_eq_getElem hj2)
        obtain ⟨_, h6, e, vals, h7, h8⟩ := P.bx j b' _ h1 (List.getElem?_eq_getElem hj2)
        rw [hje] at h2 h3 h4
        right; right
        refine ⟨hιo i hc, ?_, fun k hk => ?_⟩
        · rw [h3, h4]
          have hblk := S.blk i
          rw [h3] at hblk
          cases hblk with
          | box bk et vs _ hi' hb' hl' _ _ =>
            rw [h2] at hi'; cases hi'
            unfold World.shape? at h6
            rw [hb', h7] at h6
            simp only [Option.some.injEq, Prod.mk.injEq] at h6
            show (r.bx[j]).length = cs.length
            rw [← h8.size, h6.2, hl']
        · rw [h2] at hk; cases hk; exact h6
      · rw [hold i hc hl]
        have hsh : ∀ k, ι i = some k → w'.shape? k = w.shape? k := fun k hk => by
          unfold World.shape?
          rw [hheap k (S.rng i k hk).2 (fun hm => by
            obtain ⟨id, h1, h2⟩ := lblent k hm
            exact hl (by rw [S.inj i id k hk h2]; exact h1))]
        cases hx : σ.h i with
        | none => exact .inl rfl
        | dead => right; left; split <;> rfl
        | box cs => right; right; refine ⟨hιo i hc, ?_, hsh⟩; split <;> exact rfl
        | sl e sz m es => right; right; refine ⟨hιo i hc, ?_, hsh⟩; split <;> exact ⟨rfl, rfl, rfl⟩
  have hFz : ∀ k, FzC w w' F0 r ι' k → Fz C w' ι'' h'' k := by
    intro k ⟨h1, h2, h3⟩
    have holdown : ∀ i, ¬ (b ≤ i ∧ i < b + n) → ι i = some k → (h'' i).own = false := by
      intro i hc hi
      rcases h2 with ⟨ha, h2⟩ | h2
      · have hz := (hF0 ha k h2).2.2 i hi
        rw [frz_get] at hz
        have hnl : i ∉ lents := fun hm => by
          have h5 := (lentown i k hm hi).2
          obtain ⟨j, hj, hje⟩ := List.getElem_of_mem hm
          obtain ⟨_, cs, _, _, h6⟩ := hlents j _ (List.getElem?_eq_getElem hj)
          rw [hje] at h6
          rw [h6] at hz
          split at hz <;> cases hz
        rw [hold i hc hnl]
        split
        · rename_i hcc; rw [if_pos hcc.2] at hz; exact hz
        · rename_i hcc
          rw [if_neg (fun hm => hcc ⟨ha, hm⟩)] at hz
          exact hz
      · have := (S.rng i k hi).2; omega
    refine ⟨h1, ?_, fun i hi => ?_⟩
    · rcases h2 with ⟨ha, h2⟩ | h2
      · exact (hF0 ha k h2).2.1
      · have := S.fra.size; exact .inr (by omega)
    · by_cases hc : b ≤ i ∧ i < b + n
      · obtain ⟨j, hj, rfl⟩ := newcase i hc
        rw [hιn j hj] at hi
        rw [hnew j hj]
        have := h3 j hi
        cases hx : r.h j <;> simp_all [Blk.sh, Blk.own]
      · rw [hιo i hc] at hi
        exact holdown i hc hi
  refine ⟨h'', ι'', hh''.symm, S.evolve ?_ hF hg (fun i cs hx => ?_) (fun i => ?_) (fun i j k hi hj => ?_) (fun i k hi => ?_) (fun i hi => ?_) (fun i k hi => ?_), (P.val.shift hshift hout).up hFz⟩
  · refine ⟨P.os.trans S.fra.os, P.tape.trans S.fra.tape, P.output.trans S.fra.output, Nat.le_trans S.fra.size P.size, fun k hk hX => ?_⟩
    rw [hheap k (by have := S.fra.size; omega) (fun hm => ?_)]
    · exact S.fra.block k hk hX
    · obtain ⟨id, h1, h2⟩ := lblent k hm
      rcases (S.rng id k h2).1 with h3 | ⟨h3, _⟩
      · omega
      · exact hX h3
  · by_cases hc : b ≤ i ∧ i < b + n
    · rw [(S.fresh i (hb i hc.1 (by omega))).1] at hx; cases hx
    · by_cases hl : i ∈ lents
      · obtain ⟨j, hj, hje⟩ := List.getElem_of_mem hl
        have hj2 : j < r.bx.length := by omega
        have h4 := hlent j _ _ (List.getElem?_eq_getElem hj) (List.getElem?_eq_getElem hj2)
        rw [hje] at h4
        rw [h4]; simp
      · rw [hold i hc hl, hx]
        split <;> simp [fzB]
  · by_cases hc : b ≤ i ∧ i < b + n
    · right
      obtain ⟨j, hj, rfl⟩ := newcase i hc
      rw [hnew j hj]
      exact (P.blk j).shift hFz hshift hout hj
    · by_cases hl : i ∈ lents
      · right
        obtain ⟨j, hj, hje⟩ := List.getElem_of_mem hl
        obtain ⟨b', cs, h1, h2, h3⟩ := hlents j _ (List.getElem?_eq_getElem hj)
        have hj2 : j < r.bx.length := by omega
        have h4 := hlent j _ _ (List.getElem?_eq_getElem hj) (List.getElem?_eq_getElem hj2)
        obtain ⟨h5, _, e, vals, h7, h8⟩ := P.bx j b' _ h1 (List.getElem?_eq_getElem hj2)
        rw [hje] at h2 h4
        rw [h4]
        refine .box b' e vals _ ((hιo i hc).trans h2) h7 h8.size h8.one (fun k v x hk hx => ?_)
        have hx5 := List.all_eq_true.1 h5 x (List.mem_of_getElem? hx)
        cases x with
        | c d => exact (h8.vr k v _ hk hx).data hFz
        | _ => simp [isC] at hx5
      · have hsame : ∀ k, ι i = some k → w'.heap[k]? = w.heap[k]? := fun k hk => hheap k (S.rng i k hk).2 (fun hm => by
            obtain ⟨id, h1, h2⟩ := lblent k hm
            exact hl (by rw [S.inj i id k hk h2]; exact h1))
        have hm := (S.blk i).mono hF hg (hιo i hc) hsame
        have ho := hold i hc hl
        split at ho
        · right
          rw [ho]
          cases hx : σ.h i with
          | none => exact .none
          | dead => exact .dead
          | box cs => rw [hx] at hm; exact hm
          | sl e sz m es =>
            rw [hx] at hm
            cases hm with
            | slnil _ _ _ hz hi => exact .slnil e sz false hz hi
            | sl bk _ _ _ _ cur Cc hz hi hb hC hle hC2 hsz hv => exact .sl bk e sz false es cur Cc hz hi hb hC hle hC2 hsz hv
        · left
          exact ⟨ho, hιo i hc, hsame⟩
  · by_cases h1 : b ≤ i ∧ i < b + n
    · obtain ⟨p, hp, rfl⟩ := newcase i h1
      rw [hιn p hp] at hi
      by_cases h2 : b ≤ j ∧ j < b + n
      · obtain ⟨q, hq, rfl⟩ := newcase j h2
        rw [hιn q hq] at hj
        rw [P.inj p q k hi hj]
      · rw [hιo j h2] at hj
        have := (P.rng p k hi).1
        have := (S.rng j k hj).2
        omega
    · rw [hιo i h1] at hi
      by_cases h2 : b ≤ j ∧ j < b + n
      · obtain ⟨q, hq, rfl⟩ := newcase j h2
        rw [hιn q hq] at hj
        have := (P.rng q k hj).1
        have := (S.rng i k hi).2
        omega
      · rw [hιo j h2] at hj
        exact S.inj i j k hi hj
  · by_cases h1 : b ≤ i ∧ i < b + n
    · obtain ⟨p, hp, rfl⟩ := newcase i h1
      rw [hιn p hp] at hi
      have h2 := P.rng p k hi
      have := S.fra.size
      exact ⟨.inl (by omega), h2.2.1⟩
    · rw [hιo i h1] at hi
      obtain ⟨h2, h3⟩ := S.rng i k hi
      refine ⟨h2.imp (fun h => h) fun ⟨hX, cs, hcs⟩ => ⟨hX, ?_⟩, by have := P.size; omega⟩
      by_cases hl : i ∈ lents
      · obtain ⟨j, hj, hje⟩ := List.getElem_of_mem hl
        have hj2 : j < r.bx.length := by omega
        have h4 := hlent j _ _ (List.getElem?_eq_getElem hj) (List.getElem?_eq_getElem hj2)
        rw [hje] at h4
        exact ⟨_, h4⟩
      · rw [hold i h1 hl, hcs]
        split <;> exact ⟨_, rfl⟩
  · obtain ⟨h1, h2⟩ := hU' i hi
    have hc : ¬ (b ≤ i ∧ i < b + n) := fun h => h2 ⟨h.1, by omega⟩
    have hf := S.fresh i h1
    rw [hιo i hc]
    have hl : i ∉ lents := fun hm => by
      obtain ⟨j, hj, hje⟩ := List.getElem_of_mem hm
      obtain ⟨_, cs, _, _, h6⟩ := hlents j _ (List.getElem?_eq_getElem hj)
      rw [hje, hf.1] at h6
      cases h6
    rw [hold i hc hl, hf.1]
    refine ⟨?_, hf.2⟩
    split <;> rfl
  · by_cases h1 : b ≤ i ∧ i < b + n
    · obtain ⟨p, hp, rfl⟩ := newcase i h1
      rw [hιn p hp] at hi
      rw [hnew p hp]
      have := P.live p k hi
      cases hx : r.h p <;> simp_all [Blk.sh]
    · rw [hιo i h1] at hi
      have := S.live i k hi
      by_cases hl : i ∈ lents
      · obtain ⟨j, hj, hje⟩ := List.getElem_of_mem hl
        have hj2 : j < r.bx.length := by omega
        have h4 := hlent j _ _ (List.getElem?_eq_getElem hj) (List.getElem?_eq_getElem hj2)
        rw [hje] at h4
        rw [h4]; simp
      · rw [hold i h1 hl]
        split
        · cases hx : σ.h i <;> simp_all [fzB]
        · exact this

end
end Go.Proofs.Ytpnblnkggeopkaa.Am
