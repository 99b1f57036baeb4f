/-
  SOUNDNESS OF A CALL.
-/
import Derived.Test.YtephkbajoofeoaaAmJ
namespace Go.Proofs.Ytephkbajoofeoaa.Am
set_option linter.unusedSimpArgs false
set_option linter.unusedVariables false
open Go Go.RowKit

section
variable {C : Ctx} {U U' : Nat → Prop} {σ : St} {a : Act} {w : World} {ι : Nat → Option Nat}

theorem ds_map_c {h : Nat → Blk} {xs : List AV} {ds : List D} (hx : AV.ds h xs = some ds) : (ds.map AV.c).all isC = true := by
  rw [List.all_eq_true]
  intro x hx
  obtain ⟨d, _, rfl⟩ := List.mem_map.1 hx
  rfl

theorem argM_cons (h : Nat → Blk) (ms : List Bool) (x : AV) (xs : List AV) : AV.argM h ms (x :: xs) = match (if ms.headD false then x.argO h else x.arg h), AV.argM h ms.tail xs with
    | some d, some ds => some (d :: ds)
    | _, _ => none := by
  cases ms with
  | nil => simp only [AV.argM, AV.argL, List.headD_nil, Bool.false_eq_true, if_false, List.tail_nil]; cases AV.arg h x <;> cases AV.argL h xs <;> rfl
  | cons m ms => rfl

theorem owns_cons (ms : List Bool) (x : AV) (xs : List AV) : owns ms (x :: xs) = if ms.headD false then x :: owns ms.tail xs else owns ms.tail xs := by
  cases ms with
  | nil => simp [owns]
  | cons m ms => rfl

theorem dats_cons (ms : List Bool) (x : AV) (xs : List AV) : dats ms (x :: xs) = if ms.headD false then dats ms.tail xs else x :: dats ms.tail xs := by
  cases ms with
  | nil => simp [dats]
  | cons m ms => rfl

theorem argM_nil (h : Nat → Blk) (ms : List Bool) : AV.argM h ms [] = some [] := by cases ms <;> rfl
theorem owns_nil (ms : List Bool) : owns ms [] = [] := by cases ms <;> rfl
theorem dats_nil (ms : List Bool) : dats ms [] = [] := by cases ms <;> rfl

/-- The arguments that the machine hands over are what the values are. -/
theorem args_of (S : Sat C U σ a w ι) {F0 : Nat → Prop} (hF : ∀ b, Fz C w ι σ.h b → F0 b) :
    ∀ (ms : List Bool) (vs : List Value) (xs ys : List AV), vs.length = xs.length → (∀ (k : Nat) (v : Value) (x : AV), vs[k]? = some v → xs[k]? = some x → VR w (Fz C w ι σ.h) ι σ.h v x) → AV.argM σ.h ms xs = some ys →
      (∀ id b, id ∈ (dats ms xs).flatMap AV.refs → (∃ e sz m es, σ.h id = .sl e sz m es) → ι id = some b → F0 b) → ((dats ms xs).flatMap AV.lent).Nodup → ((owns ms xs).flatMap AV.refs).Nodup →
      ∃ lb gb, Args w F0 vs ys lb gb ∧ (gb.length = ((owns ms xs).flatMap AV.refs).length ∧ ∀ (k id : Nat), ((owns ms xs).flatMap AV.refs)[k]? = some id → ∃ e sz es, gb[k]? = some (ι id, .sl e sz true es) ∧ σ.h id = .sl e sz true es) ∧
        lb.length = ((dats ms xs).flatMap AV.lent).length ∧ (∀ (k id : Nat), ((dats ms xs).flatMap AV.lent)[k]? = some id → ∃ b cs, lb[k]? = some b ∧ ι id = some b ∧ σ.h id = .box cs) ∧ (∀ id, id ∈ (dats ms xs).flatMap AV.refs → ∃ e sz m es, σ.h id = .sl e sz m es)
  | ms, [], [], ys, _, _, hy, _, _, _ => by
    rw [argM_nil] at hy
    cases hy
    rw [owns_nil, dats_nil]
    exact ⟨[], [], .nil, ⟨rfl, by simp⟩, rfl, by simp, by simp⟩
  | ms, v :: vs, x :: xs, ys, hl, hv, hy, hown, hnd, hno => by
    rw [argM_cons] at hy
    split at hy
    rotate_left
    · cases hy
    rename_i y ys' hx hys
    cases hy
    have hvx := hv 0 v x rfl rfl
    obtain ⟨ms', hms⟩ : ∃ ms', ms' = ms.tail := ⟨_, rfl⟩
    rw [← hms] at hys
    have hgiv : ∀ (gb : List (Option Nat × Blk)) (ids : List Nat), gb.length = ids.length → (∀ (k id : Nat), ids[k]? = some id → ∃ e sz es, gb[k]? = some (ι id, .sl e sz true es) ∧ σ.h id = .sl e sz true es) → ∀ b, given gb b → ∃ id, id ∈ ids ∧ ι id = some b ∧ ∃ e sz es, σ.h id = .sl e sz true es := by
      intro gb ids g1 g2 b ⟨B, hm⟩
      obtain ⟨k, hk, hke⟩ := List.getElem_of_mem hm
      obtain ⟨e, sz, es, h5, h6⟩ := g2 k _ (List.getElem?_eq_getElem (by omega))
      rw [List.getElem?_eq_getElem hk, hke] at h5
      simp only [Option.some.injEq, Prod.mk.injEq] at h5
      exact ⟨_, List.getElem_mem _, h5.1.symm, e, sz, es, h6⟩
    cases hm : ms.headD false with
    | true =>
      rw [hm, if_pos rfl] at hx
      have hD : dats ms (x :: xs) = dats ms' xs := by rw [dats_cons, hm, if_pos rfl, hms]
      have hO : owns ms (x :: xs) = x :: owns ms' xs := by rw [owns_cons, hm, if_pos rfl, hms]
      rw [hD] at hown hnd ⊢
      rw [hO] at hno ⊢
      simp only [List.flatMap_cons] at hno ⊢
      have hno' := List.nodup_append.1 hno
      obtain ⟨lb, gb, h1, ⟨g1, g2⟩, h2, h3, h4⟩ := args_of S hF ms' vs xs ys' (by simpa using hl) (fun k v x hk hx => hv (k + 1) v x hk hx) hys hown hnd hno'.2.1
      cases x with
      | r sz id off len =>
        simp only [AV.argO] at hx
        split at hx
        rotate_left
        · cases hx
        rename_i e sz' es hh
        split at hx
        rotate_left
        · cases hx
        rename_i hc
        obtain ⟨rfl, rfl, rfl⟩ := hc
        cases hx
        refine ⟨lb, (ι id, .sl e sz' true es) :: gb, .own v (ι id) e sz' es vs ys' lb gb ⟨?_, ?_⟩ (fun b hb => ⟨fun hm => ?_, fun hgv => ?_⟩) h1, ⟨by simp [AV.refs, AV.ref1, g1], fun k id' hk => ?_⟩, h2, h3, h4⟩
        · generalize hn : es.length = n at hvx ⊢
          cases hvx with
          | rdead _ _ _ _ _ _ hd => rw [hd] at hh; cases hh
          | rnil _ e' _ m hi hh' =>
            have : es = [] := List.eq_nil_of_length_eq_zero hn
            subst this
            exact .rnil 0 e sz' true hi rfl
          | r _ _ _ b ao cap e' _ m es' hi hh' hlen hcap ho htip =>
            rw [hh] at hh'
            cases hh'
            exact .r 0 0 n b ao cap e sz' true es hi rfl hlen hcap ho htip
        · have hb := S.blk id
          rw [hh] at hb
          cases hb with
          | slnil _ _ _ hz hi => exact .slnil e sz' true hz hi
          | sl bk _ _ _ _ cur Cc hz hi hb hC hle hC2 hsz hv' => exact .sl bk e sz' true es cur Cc hz hi hb hC hle hC2 hsz (fun i j x d hx hd => let ⟨v, h1, h2⟩ := hv' i j x d hx hd; ⟨v, h1, h2.mono fun b hb => ⟨hF b hb, rfl⟩⟩)
        · obtain ⟨k, hk, hke⟩ := List.getElem_of_mem hm
          obtain ⟨b', cs', h5, h6, h7⟩ := h3 k _ (List.getElem?_eq_getElem (by omega))
          rw [List.getElem?_eq_getElem hk, hke] at h5
          cases h5
          rw [← S.inj _ _ _ hb h6, hh] at h7
          cases h7
        · obtain ⟨id', h5, h6, _⟩ := hgiv gb _ g1 g2 b hgv
          have := S.inj _ _ _ hb h6
          subst this
          exact hno'.2.2 id (by simp [AV.refs, AV.ref1]) id h5 rfl
        · cases k with
          | zero => simp [AV.refs, AV.ref1] at hk; subst hk; exact ⟨e, sz', es, rfl, hh⟩
          | succ k => simp [AV.refs, AV.ref1] at hk; simpa using g2 k id' (by simpa using hk)
      | _ => simp [AV.argO] at hx
    | false =>
    rw [hm] at hx
    simp only [Bool.false_eq_true, if_false] at hx
    have hD : dats ms (x :: xs) = x :: dats ms' xs := by rw [dats_cons, hm, hms]; rfl
    have hO : owns ms (x :: xs) = owns ms' xs := by rw [owns_cons, hm, hms]; rfl
    rw [hD] at hown hnd ⊢
    rw [hO] at hno ⊢
    simp only [List.flatMap_cons] at hown hnd
    have hnd' := (List.nodup_append.1 hnd)
    obtain ⟨lb, gb, h1, hG, h2, h3, h4⟩ := args_of S hF ms' vs xs ys' (by simpa using hl) (fun k v x hk hx => hv (k + 1) v x hk hx) hys (fun id b hid => hown id b (List.mem_append.2 (.inr hid))) hnd'.2.1 hno
    have hrd : ∀ (v : Value) (x : AV) (d : D), VR w (Fz C w ι σ.h) ι σ.h v x → x.d σ.h = some d → (∀ id, id ∈ x.ref1 → id ∈ (AV.refs x) ∨ True) → (∀ id b, id ∈ x.ref1 → ι id = some b → F0 b) → Rd w F0 v d := fun v x d h5 h6 _ h7 => AV.d_rd S hF h5 h6 h7
    cases x with
    | c d =>
      simp [AV.arg] at hx
      subst hx
      refine ⟨lb, gb, .dat v _ vs ys' lb gb (hvx.data hF) h1 rfl, hG, by simpa [AV.lent] using h2, by simpa [AV.lent] using h3, fun id hid => ?_⟩
      rw [List.flatMap_cons] at hid
      rcases List.mem_append.1 hid with hid | hid
      · simp [AV.refs, AV.ref1] at hid
      · exact h4 id hid
    | n sz =>
      simp [AV.arg] at hx
      subst hx
      have : Rd w F0 v (.sl sz []) := AV.d_rd S hF hvx rfl (by simp [AV.ref1])
      refine ⟨lb, gb, .dat v _ vs ys' lb gb (vr_c this) h1 rfl, hG, by simpa [AV.lent] using h2, by simpa [AV.lent] using h3, fun id hid => ?_⟩
      rw [List.flatMap_cons] at hid
      rcases List.mem_append.1 hid with hid | hid
      · simp [AV.refs, AV.ref1] at hid
      · exact h4 id hid
    | r sz id off len =>
      simp only [AV.arg] at hx
      split at hx
      rotate_left
      · cases hx
      rename_i d hd
      cases hx
      have hsl : ∃ e sz m es, σ.h id = .sl e sz m es := by
        simp only [AV.d] at hd
        split at hd
        · rename_i e sz m es hh; exact ⟨_, _, _, _, hh⟩
        · cases hd
      have : Rd w F0 v d := AV.d_rd S hF hvx hd (fun id' b' hid' hi' => by
        simp [AV.ref1] at hid'
        subst hid'
        exact hown id' b' (List.mem_append.2 (.inl (by simp [AV.refs, AV.ref1]))) hsl hi')
      refine ⟨lb, gb, .dat v _ vs ys' lb gb (vr_c this) h1 rfl, hG, by simpa [AV.lent] using h2, by simpa [AV.lent] using h3, fun id' hid => ?_⟩
      rw [List.flatMap_cons] at hid
      rcases List.mem_append.1 hid with hid | hid
      · simp [AV.refs, AV.ref1] at hid; subst hid; exact hsl
      · exact h4 id' hid
    | a cs =>
      simp only [AV.arg] at hx
      split at hx
      rotate_left
      · cases hx
      rename_i ds hds
      cases hx
      have hdsl := AV.ds_get hds
      have hrefs := ds_refs hds
      have : VR w F0 noι noh v (.a (ds.map .c)) := by
        generalize hcs : cs = cs0 at *
        cases hvx with
        | a us _ hl' h1' hv' =>
          refine .a us _ (by simp [hdsl.1, hl']) h1' (fun k u y hk hy => ?_)
          simp only [List.getElem?_map, Option.map_eq_some_iff] at hy
          obtain ⟨d, hd, rfl⟩ := hy
          have hlt : k < cs0.length := by rw [← hdsl.1]; exact (List.getElem?_eq_some_iff.1 hd).1
          obtain ⟨d', hd', hdd⟩ := hdsl.2 k _ (List.getElem?_eq_getElem hlt)
          rw [hd] at hd'
          cases hd'
          refine vr_c (AV.d_rd S hF (hv' k u _ hk (List.getElem?_eq_getElem hlt)) hdd (fun id b hid hi => ?_))
          have hm := refsL_mem (List.getElem?_eq_getElem hlt) hid
          exact hown id b (List.mem_append.2 (.inl hm)) (hrefs id hm) hi
      refine ⟨lb, gb, .dat v _ vs ys' lb gb this h1 ?_, hG, by simpa [AV.lent] using h2, by simpa [AV.lent] using h3, fun id' hid => ?_⟩
      · simp only [AV.dat, List.all_eq_true]
        intro x hx
        obtain ⟨d, _, rfl⟩ := List.mem_map.1 hx
        rfl
      · rw [List.flatMap_cons] at hid
        rcases List.mem_append.1 hid with hid | hid
        · exact hrefs id' hid
        · exact h4 id' hid
    | p id i j =>
      match i, j, hx with
      | 0, 0, hx =>
        simp only [AV.arg] at hx
        split at hx
        rotate_left
        · cases hx
        rename_i cs hh
        split at hx
        rotate_left
        · cases hx
        rename_i hnr
        split at hx
        rotate_left
        · cases hx
        rename_i ds hds
        cases hx
        have hdsl := AV.ds_get hds
        have hblk := S.blk id
        rw [hh] at hblk
        cases hvx with
        | pdead _ _ _ _ _ hdd => rw [hdd] at hh; cases hh
        | p _ _ _ bk hi hn' hnd2 =>
          rw [hh]
          simp only [Blk.sz, Nat.mul_zero, Nat.zero_add]
          cases hblk with
          | box bk' et vals _ hi' hb hl' h1' hvr =>
            rw [hi] at hi'; cases hi'
            have hnot : bk ∉ lb := by
              intro hm
              obtain ⟨k, hk, hke⟩ := List.getElem_of_mem hm
              have hk2 : k < ((dats ms' xs).flatMap AV.lent).length := by omega
              obtain ⟨b', cs', h5, h6, _⟩ := h3 k _ (List.getElem?_eq_getElem hk2)
              rw [List.getElem?_eq_getElem hk, hke] at h5
              cases h5
              have := S.inj _ _ _ hi h6
              exact hnd'.2.2 id (by simp [AV.lent]) _ (List.getElem_mem hk2) this
            refine ⟨bk :: lb, gb, .box bk et vals _ vs ys' lb gb hb ⟨by simp [hdsl.1, hl'], h1', fun k u y hk hy => ?_⟩ (ds_map_c hds) hnot (fun hgv => ?_) h1, hG, by simp [AV.lent, h2], fun k id' hk => ?_, fun id' hid => ?_⟩
            · simp only [List.getElem?_map, Option.map_eq_some_iff] at hy
              obtain ⟨d, hd, rfl⟩ := hy
              have hlt : k < cs.length := by rw [← hdsl.1]; exact (List.getElem?_eq_some_iff.1 hd).1
              obtain ⟨d', hd', hdd⟩ := hdsl.2 k _ (List.getElem?_eq_getElem hlt)
              rw [hd] at hd'
              cases hd'
              refine vr_c (AV.d_rd S hF (hvr k u _ hk (List.getElem?_eq_getElem hlt)) hdd (fun id b hid hi => ?_))
              have hm := refsL_mem (List.getElem?_eq_getElem hlt) hid
              rw [hnr] at hm
              cases hm
            · obtain ⟨id', _, h6, _, _, _, h7⟩ := hgiv gb _ hG.1 hG.2 bk hgv
              rw [← S.inj _ _ _ hi h6, hh] at h7
              cases h7
            · simp only [List.flatMap_cons, AV.lent, List.singleton_append] at hk
              cases k with
              | zero => simp at hk; subst hk; exact ⟨bk, cs, rfl, hi, hh⟩
              | succ k => simp at hk; simpa using h3 k id' hk
            · rw [List.flatMap_cons] at hid
              rcases List.mem_append.1 hid with hid | hid
              · simp [AV.refs, AV.ref1] at hid
              · exact h4 id' hid
      | i + 1, _, hx => simp [AV.arg] at hx
      | 0, j + 1, hx => simp [AV.arg] at hx
    | u => simp [AV.arg] at hx
    | q => simp [AV.arg] at hx
    | t => simp [AV.arg] at hx
    | bx => simp [AV.arg] at hx
    | ow => simp [AV.arg] at hx

end
end Go.Proofs.Ytephkbajoofeoaa.Am
