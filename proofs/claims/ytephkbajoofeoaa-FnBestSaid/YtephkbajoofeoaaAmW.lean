/-
  WHAT THE TYPED MACHINE's OPERATION DOES IS WHAT THE UNTYPED ONE's DOES, operation by operation. No program in sight.
-/
import Derived.Test.YtephkbajoofeoaaAmV
namespace Go.Proofs.Ytephkbajoofeoaa.Am
set_option linter.unusedSimpArgs false
set_option linter.unusedVariables false
open Go Go.RowKit

/-- The untyped table knows what the typed one knows. -/
def TabSim (Γ : List TRow) (ΓA : Tab) : Prop :=
  (∀ f row, tlook Γ f = some row → ΓA.md f = mdOf row.sg) ∧ ∀ f row vs pre r, tlook Γ f = some row → fitsL row.sg vs = true → row.fn vs = some (pre, r) → holds pre → ΓA f (vs.map TV.emb) = some r.emb

theorem gt_get {ts : List CT} {l : List (Tup ts)} {i : Nat} (h : i < l.length) : l[i]? = some (gt ts l i) := by
  unfold gt
  rw [List.getElem?_eq_getElem h, List.getD_eq_getElem?_getD, List.getElem?_eq_getElem h]
  rfl

theorem emb_st2 {x : TV} (h : x.st = true) : x.emb2 = x.emb := by cases x <;> first | rfl | simp [TV.st, TV.one] at h

theorem ds_append {h : Nat → Blk} : ∀ (xs ys : List AV) (ds : List D), AV.ds h (xs ++ ys) = some ds → ∃ d1 d2, AV.ds h xs = some d1 ∧ AV.ds h ys = some d2 ∧ ds = d1 ++ d2
  | [], ys, ds, e => ⟨[], ds, rfl, e, rfl⟩
  | x :: xs, ys, ds, e => by
    simp only [List.cons_append, AV.ds] at e
    split at e
    rotate_left
    · cases e
    rename_i a b ha hb
    simp only [Option.some.injEq] at e
    subst e
    obtain ⟨d1, d2, h1, h2, h3⟩ := ds_append xs ys b hb
    exact ⟨a :: d1, d2, by simp only [AV.ds, ha, h1], h2, by rw [h3]; rfl⟩

theorem ds_map_dat {h : Nat → Blk} : ∀ (ds : List D), AV.ds h (ds.map AV.c) = some ds
  | [] => rfl
  | d :: ds => by simp only [List.map_cons, AV.ds, AV.d, ds_map_dat ds]

theorem ds_of_splice {h : Nat → Blk} {l : List D} {j : Nat} {xs : List AV} {r : List D} (e : AV.ds h (splice (l.map AV.c) j xs) = some r) (_hj : j + xs.length ≤ l.length) :
    ∃ ds, AV.ds h xs = some ds ∧ r = splice l j ds := by
  unfold splice at e
  rw [← List.map_take, ← List.map_drop] at e
  obtain ⟨d1, d2, h1, h2, rfl⟩ := ds_append _ _ _ e
  obtain ⟨d3, d4, h3, h4, rfl⟩ := ds_append _ _ _ h1
  rw [ds_map_dat] at h2 h3
  cases h2
  cases h3
  refine ⟨d4, h4, ?_⟩
  unfold splice
  rw [(AV.ds_get h4).1]

section
variable {Γ : List TRow} {ΓA : Tab} (hΓ : TabSim Γ ΓA) {T : Nat → TV} {h : Nat → TBlk} {b : Nat}

/-- The result of an operation, as the untyped machine has it. -/
def TE.emb (e : TE) : Eff := ⟨e.val.emb, e.blks.map embP⟩

theorem load_sim {x : TOpd} {n : Nat} {agg : Bool} {e : TE} (he : tdelta Γ T h b (.load x n agg) = some e) (hp : holds e.pre) : delta ΓA (Opd.ev fun s => (T s).emb) (fun i => (h i).emb) b (TOp.er (.load x n agg)) = some e.emb := by
  simp only [tdelta] at he
  simp only [TOp.er, delta, ev_er]
  split at he
  · rename_i id i j hx
    rw [hx]
    show (match (h id).emb with
      | .box cs => _
      | .sl _ _ _ es => _
      | _ => _) = _
    split at he
    · rename_i cs hh
      rw [hh]
      split at he
      · split at he
        · rename_i l hl
          split at he
          · rename_i v hv
            cases he
            have := tpacked_sim hv
            simp only [TBlk.emb_sl, TBlk.emb_box, if_true, tcut_sim hl, this]
            rfl
          · cases he
        · cases he
      · cases he
    · rename_i e' ts m es hh
      rw [hh]
      split at he
      · rename_i l hl
        split at he
        · rename_i v hv
          cases he
          simp only [holds] at hp
          have h1 := gt_get hp
          have := tpacked_sim hv
          have h2 := tcut_sim hl
          rw [cells_sim] at h2
          unfold cut at h2
          split at h2
          rotate_left
          · cases h2
          rename_i hle
          simp only [Option.some.injEq] at h2
          simp only [List.length_map] at hle
          simp only [TBlk.emb_sl, TBlk.emb_box, List.getElem?_map, h1, Option.map_some, cut, hle, if_true]
          rw [← h2] at this
          simp only [List.map_drop, List.map_take]
          rw [this]
          rfl
        · cases he
      · cases he
    · cases he
  · rename_i ts x' j hx
    rw [hx]
    split at he
    · rename_i l hl
      split at he
      · rename_i v hv
        cases he
        have := tpacked_sim hv
        have h2 := tcut_sim hl
        rw [cells_sim] at h2
        unfold cut at h2
        split at h2
        rotate_left
        · cases h2
        rename_i hle
        simp only [Option.some.injEq] at h2
        simp only [List.length_map] at hle
        simp only [TV.emb, TV.emb2, TV.emb1, cut, hle, if_true]
        rw [← h2] at this
        simp only [List.map_drop, List.map_take]
        rw [this]
        rfl
      · cases he
    · cases he
  · cases he

theorem store_sim {x v : TOpd} {n : Nat} {e : TE} (he : tdelta Γ T h b (.store x v n) = some e) (hp : holds e.pre) :
    delta ΓA (Opd.ev fun s => (T s).emb) (fun i => (h i).emb) b (TOp.er (.store x v n)) = some e.emb := by
  simp only [tdelta] at he
  obtain ⟨q, he⟩ := bif_some he
  simp only [Bool.and_eq_true] at q
  obtain ⟨q1, q2⟩ := q
  have q1 := Nat.eq_of_beq_eq_true q1
  simp only [TOp.er, delta, ev_er, emb_cells q2, List.length_map, q1, emb_st q2, and_self, if_true]
  split at he
  rotate_left
  · cases he
  rename_i id i j hx
  rw [hx]
  show (match (h id).emb with
    | .box cs => _
    | .sl e sz true es => _
    | _ => _) = _
  split at he
  · rename_i cs hh
    rw [hh]
    split at he
    · obtain ⟨q3, he⟩ := bif_some he
      cases he
      have q3 := Nat.le_of_ble_eq_true q3
      simp only [TBlk.emb_sl, TBlk.emb_box, List.length_map, q3, and_self, if_true, ← map_splice]
      rfl
    · cases he
  · rename_i e' ts es hh
    rw [hh]
    split at he
    rotate_left
    · cases he
    rename_i y hy
    obtain ⟨q3, he⟩ := bif_some he
    cases he
    simp only [Bool.and_eq_true, Bool.not_eq_true'] at q3
    obtain ⟨q3, q4⟩ := q3
    have q3 := Nat.le_of_ble_eq_true q3
    have q4 : id ∉ (v.ev T).refs := by simpa using q4
    simp only [holds] at hp
    have h1 := gt_get hp
    obtain ⟨h2, h3⟩ := of_sim ts _ y hy
    rw [map_splice, cells_sim] at h2
    obtain ⟨ds, h5, h6⟩ := ds_of_splice h2 (by simp [encs_length, q1, q3])
    simp only [TBlk.emb_sl, TBlk.emb_box, List.getElem?_map, h1, Option.map_some, h5, encs_length, q3, emb_refs, q4, not_false_eq_true, and_self, if_true]
    simp only [TE.emb, List.map_cons, embP, frzT_emb, TBlk.emb_sl, TBlk.emb_box, h6, List.map_set]
    rfl
  · cases he

theorem iad_sim {x i : TOpd} {ts : List CT} {e : TE} (he : tdelta Γ T h b (.iad x i ts) = some e) (hp : holds e.pre) :
    delta ΓA (Opd.ev fun s => (T s).emb) (fun i => (h i).emb) b (TOp.er (.iad x i ts)) = some e.emb := by
  simp only [tdelta] at he
  simp only [TOp.er, delta, ev_er]
  split at he
  rotate_left
  · cases he
  rename_i k n hi
  rw [hi]
  split at he
  · rename_i ts' l hx
    obtain ⟨q, he2⟩ := bif_some he
    clear he
    obtain rfl := CT.beqL_eq _ _ q
    cases he2
    simp only [holds] at hp
    rw [hx]
    have h1 := gt_get (ts := ts') (l := l) hp.2
    show (if (0 : Int) ≤ n then (if ts'.length = ts'.length then (match (List.map (encs ts') l)[n.toNat]? with | some e => some (⟨AV.q e 0, []⟩ : Eff) | none => none) else none) else none) = _
    rw [if_pos hp.1, if_pos rfl, List.getElem?_map, h1]
    rfl
  · rename_i ts' id off len hx
    obtain ⟨q, he2⟩ := bif_some he
    clear he
    simp only [Bool.and_eq_true] at q
    obtain rfl := CT.beqL_eq _ _ q.1
    cases he2
    simp only [holds] at hp
    rw [hx]
    show (if (0 : Int) ≤ n then (if ts'.length = ts'.length ∧ n.toNat < len ∧ ((h id).emb).alive = true then some (⟨AV.p id (off + n.toNat) 0, []⟩ : Eff) else none) else none) = _
    rw [if_pos hp.1, alive_emb, if_pos ⟨rfl, hp.2, q.2⟩]
    rfl
  · cases he

theorem slc_sim {x : TOpd} {lo hi : Option TOpd} {ts : List CT} {e : TE} (he : tdelta Γ T h b (.slc x lo hi ts) = some e) (hp : holds e.pre) :
    delta ΓA (Opd.ev fun s => (T s).emb) (fun i => (h i).emb) b (TOp.er (.slc x lo hi ts)) = some e.emb := by
  simp only [tdelta] at he
  simp only [TOp.er, delta, ev_er]
  split at he
  rotate_left
  · cases he
  rename_i l0 hlo
  rw [optInt_sim hlo]
  split at he
  · rename_i ts' l hx
    split at he
    rotate_left
    · cases he
    rename_i h0 hhi
    obtain ⟨q, he2⟩ := bif_some he
    clear he
    obtain rfl := CT.beqL_eq _ _ q
    cases he2
    simp only [holds] at hp
    rw [hx]
    have hhi := optInt_sim hhi
    show (match optInt (Opd.ev fun s => (T s).emb) ((List.map (encs ts') l).length : Int) (erO hi) with
      | some hi => if ts'.length = ts'.length ∧ 0 ≤ l0 ∧ l0 ≤ hi ∧ hi ≤ (List.map (encs ts') l).length then some (⟨AV.c (.sl ts'.length (((List.map (encs ts') l).drop l0.toNat).take (hi.toNat - l0.toNat))), []⟩ : Eff) else none
      | none => none) = _
    rw [List.length_map, hhi]
    simp only
    rw [if_pos ⟨trivial, hp.1, hp.2.1, hp.2.2⟩, ← List.map_drop, ← List.map_take]
    rfl
  · rename_i ts' id off len hx
    split at he
    rotate_left
    · cases he
    rename_i h0 hhi
    obtain ⟨q, he2⟩ := bif_some he
    clear he
    simp only [Bool.and_eq_true] at q
    obtain rfl := CT.beqL_eq _ _ q.1
    cases he2
    simp only [holds] at hp
    rw [hx]
    have hhi := optInt_sim hhi
    show (match optInt (Opd.ev fun s => (T s).emb) (len : Int) (erO hi) with
      | some hi => if ts'.length = ts'.length ∧ 0 ≤ l0 ∧ l0 ≤ hi ∧ hi ≤ len ∧ ((h id).emb).alive = true then some (⟨AV.r ts'.length id (off + l0.toNat) (hi.toNat - l0.toNat), []⟩ : Eff) else none
      | none => none) = _
    rw [hhi]
    simp only
    rw [alive_emb, if_pos ⟨trivial, hp.1, hp.2.1, hp.2.2, q.2⟩]
    rfl
  · rename_i ts' hx
    split at he
    rotate_left
    · cases he
    rename_i h0 hhi
    cases he
    simp only [holds] at hp
    rw [hx]
    have hhi := optInt_sim hhi
    show (match optInt (Opd.ev fun s => (T s).emb) 0 (erO hi) with
      | some hi => if l0 = 0 ∧ hi = 0 then some (⟨AV.n ts.length, []⟩ : Eff) else none
      | none => none) = _
    rw [hhi]
    simp only
    rw [if_pos hp]
    rfl
  · cases he

theorem app_sim {s x : TOpd} {e0 : TypeId} {ts : List CT} {e : TE} (he : tdelta Γ T h b (.app s x e0 ts) = some e) (hp : holds e.pre) :
    delta ΓA (Opd.ev fun s => (T s).emb) (fun i => (h i).emb) b (TOp.er (.app s x e0 ts)) = some e.emb := by
  simp only [tdelta] at he
  simp only [TOp.er, delta, ev_er]
  split at he
  rotate_left
  · cases he
  rename_i xs hx
  have h1 : (x.ev T).emb.els (fun i => (h i).emb) ts.length = some (xs.map (encs ts)) := by
    have h2 := dat_sim (t := .sl ts) hx
    have h3 := dat_one (t := .sl ts) hx
    rw [emb_one h3]
    cases hv : x.ev T with
    | c t y =>
      rw [hv] at h2
      simp only [TV.emb1, AV.d, Option.some.injEq] at h2
      simp only [TV.emb1, AV.els, h2, enc, if_true]
    | n ts' =>
      rw [hv] at h2
      simp only [TV.emb1, AV.d, Option.some.injEq, enc, D.sl.injEq] at h2
      simp only [TV.emb1, AV.els, ← h2.2]
    | r ts' id off len =>
      rw [hv] at h2 hx
      simp only [TV.emb1, AV.d] at h2
      simp only [TV.emb1, AV.els]
      cases hh : h id with
      | sl e ts2 m es =>
        rw [hh] at h2
        simp only [TBlk.emb_sl, Option.some.injEq, enc, D.sl.injEq] at h2
        simp only [TBlk.emb_sl, h2.1, h2.2, if_true]
      | none => rw [hh] at h2; cases h2
      | dead => rw [hh] at h2; cases h2
      | box cs => rw [hh] at h2; cases h2
    | _ => rw [hv] at h3; simp [TV.one] at h3 <;> (rw [hv] at hx; simp [TV.dat] at hx)
  rw [h1]
  simp only
  split at he
  · rename_i ts' hs
    cases he
    simp only [holds] at hp
    rw [hs]
    show (if (xs.map (encs ts)).length ≤ big then some (⟨.r ts.length b 0 (xs.map (encs ts)).length, [(b, .sl e0 ts.length true (xs.map (encs ts)))]⟩ : Eff) else none) = _
    rw [List.length_map, if_pos hp]
    rfl
  · rename_i ts' id len hs
    split at he
    rotate_left
    · cases he
    rename_i e' ts2 es hh
    split at he
    rotate_left
    · cases he
    rename_i q
    obtain rfl := CT.beqL_eq _ _ q
    obtain ⟨q2, he⟩ := bif_some he
    have q2 := Nat.eq_of_beq_eq_true q2
    subst q2
    cases he
    simp only [holds] at hp
    rw [hs]
    show (match (h id).emb with
      | .sl e2 sz' true es => if e2 = e' ∧ sz' = ts2.length ∧ (len = es.length ∨ len + (xs.map (encs ts2)).length ≤ es.length) ∧ len + (xs.map (encs ts2)).length ≤ big then
          some (⟨.r ts2.length b 0 (len + (xs.map (encs ts2)).length), [(id, .dead), (b, .sl e' ts2.length true (es.take len ++ xs.map (encs ts2)))]⟩ : Eff) else none
      | _ => none) = _
    rw [hh]
    simp only [TBlk.emb_sl]
    rw [if_pos ⟨trivial, trivial, by simpa using hp.1, by simpa using hp.2⟩, ← List.map_take, ← List.map_append, List.length_map]
    rfl
  · cases he

include hΓ in
theorem call_sim {f : FuncId} {args : List TOpd} {e : TE} (he : tdelta Γ T h b (.call f args) = some e) (hp : holds e.pre) :
    delta ΓA (Opd.ev fun s => (T s).emb) (fun i => (h i).emb) b (TOp.er (.call f args)) = some e.emb := by
  simp only [tdelta] at he
  split at he
  rotate_left
  · cases he
  rename_i row hrow
  split at he
  rotate_left
  · cases he
  rename_i p0 vs hvs
  obtain ⟨q, he⟩ := bif_some he
  split at he
  rotate_left
  · cases he
  rename_i pre r hr
  obtain ⟨q2, he⟩ := bif_some he
  cases he
  obtain ⟨hp0, hp⟩ := holds_mixP hp
  simp only [Bool.and_eq_true] at q2
  obtain ⟨⟨⟨⟨q3, q4⟩, q5⟩, q6⟩, q7⟩ := q2
  have q3 := Nat.le_of_ble_eq_true q3
  have h0 := hΓ.1 f row hrow
  have h1 := targM_sim hvs hp0
  have h2 := hΓ.2 f row vs pre r hrow q hr hp
  simp only [TOp.er, delta, map_ev, h0, owns_emb, dats_emb, flatM_refs, flatM_lent]
  simp only [h1, h2, TRes.emb]
  have q4' : (((r.bx.map (·.map TV.emb1)).isEmpty && (r.gv.map TBlk.emb).isEmpty) || r.al) = true := by rw [List.isEmpty_map, List.isEmpty_map]; exact q4
  rw [if_pos ⟨by rw [List.length_map]; exact q3, q4', nodupB_spec q5, nodupB_spec q6, apartB_spec q7⟩]
  simp only [TE.emb, List.map_append, sh_emb, numbered_emb, boxes_emb, hands_emb]
  congr 3
  split
  · exact (frzT_emb h _).symm
  · rfl

include hΓ in
/-- THE TYPED OPERATION AND THE UNTYPED ONE. -/
theorem tdelta_sim {op : TOp} {e : TE} (he : tdelta Γ T h b op = some e) (hp : holds e.pre) : delta ΓA (Opd.ev fun s => (T s).emb) (fun i => (h i).emb) b op.er = some e.emb := by
  cases op with
  | load x n agg => exact load_sim he hp
  | store x v n => exact store_sim he hp
  | iad x i ts => exact iad_sim he hp
  | slc x lo hi ts => exact slc_sim he hp
  | app s x e ts => exact app_sim he hp
  | call f args => exact call_sim hΓ he hp
  | mov x => simp only [tdelta] at he; cases he; simp only [TOp.er, delta, ev_er]; rfl
  | pick c x y =>
    simp only [tdelta] at he
    simp only [TOp.er, delta, ev_er]
    split at he
    · rename_i cb xb yb hc hx hy
      cases he
      rw [hc, hx, hy]
      cases cb <;> rfl
    · cases he
  | bin op x y =>
    simp only [tdelta] at he
    simp only [TOp.er, delta, ev_er]
    obtain ⟨a, c, v, h1, h2, h3, h4, h5⟩ := tbin_sim he hp
    rw [h1, h2]
    simp only [h3, TE.emb, h4, h5, List.map_nil]
  | cmpa n g x y =>
    simp only [tdelta] at he
    simp only [TOp.er, delta, ev_er]
    split at he
    rotate_left
    · cases he
    rename_i xs ys hx hy
    split at he
    rotate_left
    · cases he
    rename_i l m hl hm
    obtain ⟨q, he⟩ := bif_some he
    cases he
    simp only [Bool.and_eq_true] at q
    rw [hx, hy]
    simp only [TV.emb, TV.emb2, tints_sim hl, tints_sim hm]
    rw [if_pos ⟨Nat.eq_of_beq_eq_true q.1, Nat.eq_of_beq_eq_true q.2⟩]
    cases g <;> rfl
  | eqb g x y =>
    simp only [tdelta] at he
    simp only [TOp.er, delta, ev_er]
    split at he
    · rename_i xb yb hx hy
      cases he
      rw [hx, hy]
      cases g <;> rfl
    · cases he
  | not x =>
    simp only [tdelta] at he
    simp only [TOp.er, delta, ev_er]
    split at he
    · rename_i xb hx
      cases he
      rw [hx]
      rfl
    · cases he
  | neg x =>
    simp only [tdelta] at he
    simp only [TOp.er, delta, ev_er]
    split at he
    · rename_i k n hx
      cases he
      rw [hx]
      rfl
    · cases he
  | new t zs => simp only [tdelta] at he; cases he; rfl
  | box t x n =>
    simp only [tdelta] at he
    simp only [TOp.er, delta, ev_er]
    obtain ⟨q, he⟩ := bif_some he
    cases he
    simp only [Bool.and_eq_true] at q
    simp only [emb_cells q.2, List.length_map, Nat.eq_of_beq_eq_true q.1, emb_st q.2, and_self, if_true]
    rfl
  | fad x off =>
    simp only [tdelta] at he
    simp only [TOp.er, delta, ev_er]
    split at he
    · rename_i id i j hx
      obtain ⟨q, he⟩ := bif_some he
      cases he
      rw [hx]
      show (if ((h id).emb).alive = true then some (⟨AV.p id i (j + off), []⟩ : Eff) else none) = _
      rw [alive_emb, if_pos q]
      rfl
    · rename_i ts y j hx
      cases he
      rw [hx]
      rfl
    · cases he
  | fld x off n agg =>
    simp only [tdelta] at he
    simp only [TOp.er, delta, ev_er]
    split at he
    rotate_left
    · cases he
    rename_i cs hx
    split at he
    rotate_left
    · cases he
    rename_i l hl
    split at he
    rotate_left
    · cases he
    rename_i v hv
    cases he
    rw [hx]
    simp only [TV.emb, TV.emb2, tcut_sim hl, tpacked_sim hv]
    rfl
  | build zs ps =>
    simp only [tdelta] at he
    simp only [TOp.er, delta]
    split at he
    · rename_i cs hcs
      cases he
      rw [pieces_sim hcs]
      rfl
    · cases he
  | bsl t ts ps =>
    simp only [tdelta] at he
    simp only [TOp.er, delta]
    split at he
    · rename_i es hes
      cases he
      rw [elems_sim hes]
      simp only [TE.emb, List.map_cons, embP, frzT_emb, flat_refs, TBlk.emb_sl, List.length_map]
      rfl
    · cases he
  | mk t ts zs n =>
    simp only [tdelta] at he
    simp only [TOp.er, delta, ev_er]
    split at he
    · rename_i k m z hn hz
      cases he
      simp only [holds] at hp
      obtain ⟨h1, h2⟩ := of_sim ts _ _ hz
      rw [hn, h1]
      show (if (0 : Int) ≤ m ∧ m ≤ big ∧ (encs ts z).length = ts.length then some (⟨.r ts.length b 0 m.toNat, [(b, .sl t ts.length true (List.replicate m.toNat (encs ts z)))]⟩ : Eff) else none) = _
      rw [if_pos ⟨hp.1, hp.2, encs_length _ _⟩]
      simp only [TE.emb, List.map_cons, embP, TBlk.emb_sl, List.map_nil, List.map_replicate]
      rfl
    · cases he
  | len x =>
    simp only [tdelta] at he
    simp only [TOp.er, delta, ev_er]
    split at he
    · rename_i ts l hx
      cases he
      rw [hx]
      show some (⟨.c (.v (.int .i64 ((List.map (encs ts) l).length : Int))), []⟩ : Eff) = _
      rw [List.length_map]
      rfl
    · rename_i ts hx
      cases he
      rw [hx]
      rfl
    · rename_i ts id off len hx
      obtain ⟨q, he⟩ := bif_some he
      cases he
      rw [hx]
      show (if ((h id).emb).alive = true then some (⟨.c (.v (.int .i64 (len : Int))), []⟩ : Eff) else none) = _
      rw [alive_emb, if_pos q]
      rfl
    · cases he
  | mm mx x y =>
    simp only [tdelta] at he
    simp only [TOp.er, delta, ev_er]
    split at he
    · rename_i k xb k' yb hx hy
      cases he
      rw [hx, hy]
      cases mx <;> rfl
    · cases he
  | ext x i =>
    simp only [tdelta] at he
    simp only [TOp.er, delta, ev_er]
    split at he
    rotate_left
    · cases he
    rename_i vs hx
    split at he
    rotate_left
    · cases he
    rename_i v hv
    obtain ⟨q, he⟩ := bif_some he
    cases he
    rw [hx]
    show (match (vs.map TV.emb2)[i]? with | some v => some (⟨v, []⟩ : Eff) | none => none) = _
    rw [List.getElem?_map, hv]
    simp only [Option.map_some, TE.emb, emb_st2 q, List.map_nil]
  | conv k x =>
    simp only [tdelta] at he
    simp only [TOp.er, delta, ev_er]
    split at he
    · rename_i k' n hx
      cases he
      rw [hx]
      rfl
    · cases he
  | nilc x =>
    simp only [tdelta] at he
    simp only [TOp.er, delta, ev_er]
    split at he
    · rename_i id i j hx
      obtain ⟨q, he⟩ := bif_some he
      cases he
      rw [hx]
      show (if ((h id).emb).alive = true then some (⟨AV.p id i j, []⟩ : Eff) else none) = _
      rw [alive_emb, if_pos q]
      rfl
    · rename_i ts y j hx
      cases he
      rw [hx]
      rfl
    · cases he
end
end Go.Proofs.Ytephkbajoofeoaa.Am
