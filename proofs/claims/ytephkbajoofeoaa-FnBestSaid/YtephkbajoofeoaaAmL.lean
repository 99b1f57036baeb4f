/-
  SOUNDNESS OF EACH OPERATION, put together; regions in the order of the text.
-/
import Derived.Test.YtephkbajoofeoaaAmK
namespace Go.Proofs.Ytephkbajoofeoaa.Am
set_option linter.unusedSimpArgs false
set_option linter.unusedVariables false
open Go Go.RowKit

section
variable {C : Ctx} {U U' : Nat → Prop} {σ : St} {a : Act} {w : World} {ι : Nat → Option Nat} {o : Oper} {Q : Exit → Act → World → Prop} {Γ : Tab} {b : Nat} {e : Eff}

theorem owns_sl {h : Nat → Blk} : ∀ {ms : List Bool} {xs ys : List AV}, AV.argM h ms xs = some ys → ∀ id, id ∈ (owns ms xs).flatMap AV.refs → ∃ e sz es, h id = .sl e sz true es
  | ms, [], ys, _, id, hm => by rw [owns_nil] at hm; simp at hm
  | ms, x :: xs, ys, hy, id, hm => by
    rw [argM_cons] at hy
    split at hy
    rotate_left
    · cases hy
    rename_i y ys' hx hys
    rw [owns_cons] at hm
    split at hm
    · rename_i hmd
      rw [if_pos hmd] at hx
      rw [List.flatMap_cons] at hm
      rcases List.mem_append.1 hm with hm | hm
      · cases x with
        | r sz id' off len =>
          simp [AV.refs, AV.ref1] at hm
          subst hm
          simp only [AV.argO] at hx
          split at hx
          rotate_left
          · cases hx
          rename_i hh
          exact ⟨_, _, _, hh⟩
        | _ => simp [AV.argO] at hx
      · exact owns_sl hys id hm
    · exact owns_sl hys id hm

theorem s_call (hΓ : TabOk C.P Γ) (S : Sat C U σ a w ι) (hd : ∀ d, o.dst = some d → d < C.N) (hb : ∀ i, b ≤ i → i < b + 16 → U i) (hU' : ∀ i, U' i → U i ∧ ¬ (b ≤ i ∧ i < b + 16))
    {f : FuncId} {args : Array Operand} {ats : Array TypeId} {xs : List Opd} {fn : Func} (ho : o.op = .call { callee := .value (.func f), args, argTypes := ats }) (hf : C.P.funcs[f]? = some fn) (hbody : fn.body.isSome = true) (hname : (fn.name == "runtime.NumGoroutine") = false)
    {ts : List TypeId} (hx : cOs C.P ts args.toList = some xs) (he : delta Γ (Opd.ev σ.t) σ.h b (.call f xs) = some e) :
    o.wp C.P a w (fun a' w' => SatU C U' (σ.app o.dst e) a' w') Q := by
  simp only [delta] at he
  split at he
  rotate_left
  · cases he
  rename_i vs hvs
  split at he
  rotate_left
  · cases he
  rename_i r hr
  split at he
  rotate_left
  · cases he
  rename_i hc
  obtain ⟨h16, hal, hnd, hgnd, hdr⟩ := hc
  cases he
  obtain ⟨hl, hvr⟩ := cOs_vr S hx
  obtain ⟨DD, hDD⟩ : ∃ DD, DD = dats (Γ.md f) (xs.map (Opd.ev σ.t)) := ⟨_, rfl⟩
  obtain ⟨HH, hHH⟩ : ∃ HH, HH = (owns (Γ.md f) (xs.map (Opd.ev σ.t))).flatMap AV.refs := ⟨_, rfl⟩
  have hHsl := owns_sl hvs
  rw [← hDD] at hnd hdr
  rw [← hHH] at hgnd hdr hHsl
  rw [← hDD, ← hHH]
  have hvals : ∀ (k : Nat) (v : Value) (x : AV), (args.toList.map a.eval)[k]? = some v → (xs.map (Opd.ev σ.t))[k]? = some x → VR w (Fz C w ι σ.h) ι σ.h v x := by
    intro k v x hk hk'
    simp only [List.getElem?_map, Option.map_eq_some_iff] at hk hk'
    obtain ⟨y, hy, rfl⟩ := hk
    obtain ⟨z, hz, rfl⟩ := hk'
    exact hvr k y z hy hz
  -- the blocks that the callee may read
  have key : ∃ F0 : Nat → Prop, (∀ k, Fz C w ι σ.h k → F0 k) ∧ (∀ id k, id ∈ DD.flatMap AV.refs → (∃ e sz m es, σ.h id = .sl e sz m es) → ι id = some k → F0 k) ∧
      (∀ k, F0 k → k < w.heap.size ∧ ∀ id, ι id = some k → (∀ cs, σ.h id ≠ .box cs) ∧ id ∉ HH) ∧ (r.al = true → ∀ k, F0 k → Fz C w ι (updL σ.h (frz σ.h (DD.flatMap AV.refs))) k) := by
    cases ha : r.al
    · refine ⟨fun k => k < w.heap.size ∧ ∀ id, ι id = some k → (∀ cs, σ.h id ≠ .box cs) ∧ id ∉ HH, fun k hk => ⟨hk.1, fun id hi => ⟨fun cs hh => ?_, fun hm => ?_⟩⟩, fun id k hid ⟨e, sz, m, es, hh⟩ hi => ⟨(S.rng id k hi).2, fun id' hi' => ?_⟩, fun k hk => hk, fun h => by cases h⟩
      · have := hk.2.2 id hi
        rw [hh] at this
        cases this
      · obtain ⟨e, sz, es, hh⟩ := hHsl id hm
        have := hk.2.2 id hi
        rw [hh] at this
        cases this
      · have := S.inj _ _ _ hi hi'
        subst this
        exact ⟨fun cs hh' => (by rw [hh] at hh'; cases hh'), fun hm => hdr _ hm hid⟩
    · obtain ⟨_, hF⟩ := S.freeze (DD.flatMap AV.refs)
      refine ⟨Fz C w ι (updL σ.h (frz σ.h (DD.flatMap AV.refs))), hF, fun id k hid ⟨e, sz, m, es, hh⟩ hi => ?_, fun k hk => ⟨hk.1, fun id hi => ⟨fun cs hh => ?_, fun hm => ?_⟩⟩, fun _ k hk => hk⟩
      · obtain ⟨h1, h2⟩ := S.rng id k hi
        refine ⟨h2, .inr (h1.elim (fun h => h) fun ⟨_, cs, h3⟩ => by rw [hh] at h3; cases h3), fun id' hi' => ?_⟩
        have := S.inj id' id k hi' hi
        subst this
        rw [frz_get, if_pos hid, hh]
        rfl
      · have := hk.2.2 id hi
        rw [frz_get, hh] at this
        split at this <;> cases this
      · obtain ⟨e, sz, es, hh⟩ := hHsl id hm
        have := hk.2.2 id hi
        rw [frz_get, if_neg (hdr id hm), hh] at this
        cases this
  obtain ⟨F0, k1, k2, k3, k4⟩ := key
  obtain ⟨lb, gb, a1, ⟨g1, g2⟩, a2, a3, a4⟩ := args_of S k1 (Γ.md f) (args.toList.map a.eval) (xs.map (Opd.ev σ.t)) vs (by simpa using hl) hvals hvs (by rw [← hDD]; exact k2) (by rw [← hDD]; exact hnd) (by rw [← hHH]; exact hgnd)
  rw [← hDD] at a2 a3 a4
  rw [← hHH] at g1 g2
  have hF0 : ∀ k, F0 k → k < w.heap.size ∧ k ∉ lb ∧ ¬ given gb k := by
    intro k hk
    obtain ⟨h1, h2⟩ := k3 k hk
    refine ⟨h1, fun hm => ?_, fun ⟨B, hm⟩ => ?_⟩
    rotate_left
    · obtain ⟨j, hj, hje⟩ := List.getElem_of_mem hm
      have hj2 : j < HH.length := by omega
      obtain ⟨e, sz, es, h3, h4⟩ := g2 j _ (List.getElem?_eq_getElem hj2)
      rw [List.getElem?_eq_getElem hj, hje] at h3
      simp only [Option.some.injEq, Prod.mk.injEq] at h3
      exact (h2 _ h3.1.symm).2 (List.getElem_mem hj2)
    obtain ⟨j, hj, hje⟩ := List.getElem_of_mem hm
    have hj2 : j < (DD.flatMap AV.lent).length := by omega
    obtain ⟨b', cs, h3, h4, h5⟩ := a3 j _ (List.getElem?_eq_getElem hj2)
    rw [List.getElem?_eq_getElem hj, hje] at h3
    cases h3
    exact (h2 _ h4).1 cs h5
  have hcalls := hΓ f vs r hr w F0 (args.map a.eval) lb gb (by simpa using a1) hF0
  have hrun : (execOp a.eval o).run C.P w = .ok (.enter f (args.map a.eval)) w := by
    have : execOp a.eval o = callFunc f (#[] ++ args.map a.eval ++ #[]) := by
      unfold execOp
      rw [ho]
      rfl
    rw [this]
    have hbn : ¬ fn.body = none := by intro h; rw [h] at hbody; cases hbody
    have hname2 : ¬ fn.name = "runtime.NumGoroutine" := by simpa using hname
    simp [callFunc, hf, hname2, hbn]
  unfold Oper.wp
  rw [hrun]
  simp only [Oper.upon]
  refine hcalls.mono fun en w' ⟨v, ι', he, P⟩ => ?_
  subst he
  obtain ⟨h'', ι'', hh, SA, hv⟩ := S.called (refs := DD.flatMap AV.refs) hb hU' h16 (by simpa using hal) k4 (fun _ => a4) hnd a2 a3 hgnd g1 g2 hdr P
  refine ⟨ι'', ?_⟩
  show Sat C U' ⟨putO σ.t o.dst (r.v.sh b), updL σ.h _, σ.nx⟩ _ _ _
  rw [hh]
  cases hod : o.dst with
  | none => simpa [putO, Act.put] using SA
  | some d => simpa [putO] using SA.put d (hd d hod) v (r.v.sh b) hv

theorem op_sound (hΓ : TabOk C.P Γ) (S : Sat C U σ a w ι) (hd : ∀ d, o.dst = some d → d < C.N) (hb : ∀ i, b ≤ i → i < b + 16 → U i) (hU' : ∀ i, U' i → U i ∧ ¬ (b ≤ i ∧ i < b + 16)) {ao : AOp}
    (hc : cOp C.P o = some ao) (he : delta Γ (Opd.ev σ.t) σ.h b ao = some e) :
    o.wp C.P a w (fun a' w' => SatU C U' (σ.app o.dst e) a' w') Q := by
  have hU1 : ∀ i, U' i → U i := fun i hi => (hU' i hi).1
  have hU2 : ∀ i, U' i → U i ∧ i ≠ b := fun i hi => ⟨(hU' i hi).1, fun e => (hU' i hi).2 ⟨by omega, by omega⟩⟩
  have hb0 : U b := hb b (Nat.le_refl _) (by omega)
  unfold cOp at hc
  split at hc
  · rename_i x ho
    obtain ⟨y, hy, rfl⟩ := Option.map_eq_some_iff.1 hc
    exact s_mov S hd hU1 (.inl ho) hy he
  · rename_i x ho
    obtain ⟨y, hy, rfl⟩ := Option.map_eq_some_iff.1 hc
    exact s_mov S hd hU1 (.inr ho) hy he
  · rename_i c x y ho
    split at hc
    · rename_i c' x' y' h1 h2 h3; cases hc; exact s_pick S hd hU1 ho h1 h2 h3 he
    · cases hc
  · rename_i t ho
    obtain ⟨zs, hz, rfl⟩ := Option.map_eq_some_iff.1 hc
    exact s_new S hd hb0 hU2 ho hz he
  · rename_i t x ho
    split at hc
    · rename_i x' n h1 h2; cases hc; exact s_box S hd hb0 hU2 ho h1 he
    · cases hc
  · rename_i t ps ho
    split at hc
    · rename_i fs h1
      split at hc
      · rename_i zs ps' h2 h3
        split at hc
        · rename_i h4; cases hc; exact s_build S hd hU1 ho h1 h2 h3 h4 he
        · cases hc
      · cases hc
    · cases hc
  · rename_i t n ps ho
    split at hc
    · rename_i et h1
      split at hc
      · rename_i sz xs h2 h3
        split at hc
        · rename_i h4; obtain ⟨h4, h5, h6, h7⟩ := h4; cases hc; exact s_bsl S hd hb0 hU2 ho h1 h2 h3 h4 h5 h6 h7 he
        · cases hc
      · cases hc
    · cases hc
  · rename_i t x ho
    split at hc
    · rename_i x' n agg h1 h2 h3
      cases hc
      exact s_load S hd hU1 ho h1 h3 (fun h => by simp [h, h2]) (fun h => by simp [h]) he
    · cases hc
  · rename_i t x v ho
    split at hc
    · rename_i x' v' n h1 h2 h3; cases hc; exact s_store S hd hU1 ho h1 h2 h3 he
    · cases hc
  · rename_i s x i ho
    split at hc
    · rename_i fs h1
      split at hc
      · rename_i f h2
        split at hc
        · rename_i n x' h3 h4
          split at hc
          · rename_i h5; cases hc; exact s_fad S hd hU1 ho h1 h2 h3 h5 h4 he
          · cases hc
        · cases hc
      · cases hc
    · cases hc
  · rename_i s x i ho
    split at hc
    · rename_i fs h1
      split at hc
      · rename_i f h2
        split at hc
        · rename_i n agg x' h3 h4 h5
          cases hc
          exact s_fld S hd hU1 ho h1 h2 h4 (fun h => by simp [h, h3]) (fun h => by simp [h]) h5 he
        · cases hc
      · cases hc
    · cases hc
  · rename_i t x i ho
    split at hc
    · rename_i et h1
      split at hc
      · rename_i sz x' i' h2 h3 h4
        split at hc
        · cases hc; exact s_iad S hd hU1 ho h1 h2 h3 h4 he
        · cases hc
      · cases hc
    · cases hc
  · rename_i t l c ho
    split at hc
    · rename_i h0
      subst h0
      split at hc
      · rename_i et h1
        split at hc
        · rename_i sz zs i h2 h3 h4
          split at hc
          · rename_i h5; cases hc; exact s_mk S hd hb0 hU2 ho h1 h2 h3 h4 h5.1 h5.2 he
          · cases hc
        · cases hc
      · cases hc
    · cases hc
  · rename_i t x lo hi ho
    split at hc
    · rename_i et h1
      split at hc
      · rename_i sz x' lo' hi' h2 h3 h4 h5
        split at hc
        · rename_i h6; cases hc; exact s_slc S hd hU1 ho h1 h2 h6 h3 h4 h5 he
        · cases hc
      · cases hc
    · cases hc
  · rename_i op t x y ty ho
    split at hc
    · rename_i x' y' h1 h2
      split at hc
      · rename_i n h3
        split at hc
        · cases hc; exact s_cmpa S hd hU1 (neg := false) ho h3 h1 h2 he
        · cases hc; exact s_cmpa S hd hU1 (neg := true) ho h3 h1 h2 he
        · cases hc
      · split at hc
        · cases hc; exact s_bin S hd hU1 ho h1 h2 he
        · rename_i h4
          split at hc
          · cases hc; exact s_eqb S hd hU1 (neg := false) ho h4 h1 h2 he
          · cases hc; exact s_eqb S hd hU1 (neg := true) ho h4 h1 h2 he
          · cases hc
        · cases hc; exact s_bin S hd hU1 ho h1 h2 he
        · cases hc
    · cases hc
  · rename_i t x ho
    obtain ⟨y, hy, rfl⟩ := Option.map_eq_some_iff.1 hc
    exact s_not S hd hU1 ho hy he
  · rename_i t x ho
    obtain ⟨y, hy, rfl⟩ := Option.map_eq_some_iff.1 hc
    exact s_neg S hd hU1 ho hy he
  · rename_i s d x ho
    split at hc
    · rename_i k0 k x' h1 h2 h3; cases hc; exact s_conv S hd hU1 ho h1 h2 h3 he
    · cases hc
  · rename_i x i ho
    obtain ⟨y, hy, rfl⟩ := Option.map_eq_some_iff.1 hc
    exact s_ext S hd hU1 ho hy he
  · rename_i x ho
    obtain ⟨y, hy, rfl⟩ := Option.map_eq_some_iff.1 hc
    exact s_nilc S hd hU1 ho hy he
  · rename_i c ho
    obtain ⟨callee, args, ats⟩ := c
    simp only at hc
    split at hc
    · rename_i f
      split at hc
      · rename_i fn xs h1 h2
        split at hc
        · rename_i h3; cases hc; exact s_call hΓ S hd hb hU' ho h1 h3.1 h3.2 h2 he
        · cases hc
      · cases hc
    · rename_i bi
      unfold cBi at hc
      split at hc
      · rename_i x t ha ht
        have ha' : args = #[x] := by cases args; simp at ha; rw [ha]
        have ht' : ats = #[t] := by cases ats; simp at ht; rw [ht]
        subst ha'; subst ht'
        split at hc
        · rename_i et x' h1 h2; cases hc; exact s_len S hd hU1 ho h1 h2 he
        · cases hc
      · rename_i s x t t' ha ht
        have ha' : args = #[s, x] := by cases args; simp at ha; rw [ha]
        have ht' : ats = #[t, t'] := by cases ats; simp at ht; rw [ht]
        subst ha'; subst ht'
        split at hc
        · rename_i h0
          subst h0
          split at hc
          · rename_i et h1
            split at hc
            · rename_i sz s' x' i h2 h3 h4 h5
              split at hc
              · rename_i h6; cases hc; exact s_app S hd hb0 hU2 ho h1 h2 h5 h6.1 h6.2.1 h6.2.2 h3 h4 he
              · cases hc
            · cases hc
          · cases hc
        · cases hc
      · rename_i x y t t' ha ht
        have ha' : args = #[x, y] := by cases args; simp at ha; rw [ha]
        have ht' : ats = #[t, t'] := by cases ats; simp at ht; rw [ht]
        subst ha'; subst ht'
        split at hc
        · rename_i x' y' h1 h2; cases hc; exact s_mm S hd hU1 (mx := false) ho h1 h2 he
        · cases hc
      · rename_i x y t t' ha ht
        have ha' : args = #[x, y] := by cases args; simp at ha; rw [ha]
        have ht' : ats = #[t, t'] := by cases ats; simp at ht; rw [ht]
        subst ha'; subst ht'
        split at hc
        · rename_i x' y' h1 h2; cases hc; exact s_mm S hd hU1 (mx := true) ho h1 h2 he
        · cases hc
      · cases hc
    · cases hc
  · cases hc

end
end Go.Proofs.Ytephkbajoofeoaa.Am
