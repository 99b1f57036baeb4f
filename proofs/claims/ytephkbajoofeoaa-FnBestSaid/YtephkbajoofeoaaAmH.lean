/-
  SOUNDNESS OF THE ABSTRACT MACHINE: stores and appends.
-/
import Derived.Test.YtephkbajoofeoaaAmG
namespace Go.Proofs.Ytephkbajoofeoaa.Am
set_option linter.unusedSimpArgs false
set_option linter.unusedVariables false
open Go Go.RowKit

section
variable {C : Ctx} {U U' : Nat → Prop} {σ : St} {a : Act} {w : World} {ι : Nat → Option Nat}

theorem shape_setRow {w : World} {g k : Nat} {cur new : Array Value} {et : TypeId} (hb : w.heap[g]? = some (.cells cur et (0, 0))) (hsz : new.size = cur.size) : (w.setRow g new).shape? k = w.shape? k := by
  unfold World.shape?
  by_cases h : k = g
  · subst h; rw [setRow_heap w k cur new et (0, 0) hb, hb]; simp [hsz]
  · rw [setRow_other w g k new h]

theorem Fra.setRow {C : Ctx} {w : World} (h : Fra C w) {g : Nat} (hg : C.w0.heap.size ≤ g ∨ C.X g) (new : Array Value) : Fra C (w.setRow g new) :=
  ⟨h.os, h.tape, h.output, by have := h.size; simp; exact this, fun k hk hx => by
    rw [setRow_other w g k new (fun e => by subst e; rcases hg with hg | hg; · omega
                                            · exact hx hg)]
    exact h.block k hk hx⟩

/-- What stays when an own block is written. -/
theorem setRow_mono (S : Sat C U σ a w ι) {id g : Nat} (hi : ι id = some g) {cur new : Array Value} {et : TypeId} (hb : w.heap[g]? = some (.cells cur et (0, 0))) (hsz : new.size = cur.size) {B : Blk}
    (hsame : Same (σ.h id) B) (hown : (σ.h id).own = true) :
    (∀ k, Fz C w ι σ.h k → Fz C (w.setRow g new) ι (upd σ.h id B) k ∧ (w.setRow g new).heap[k]? = w.heap[k]?) ∧
    (∀ i, Goes w (w.setRow g new) ι ι σ.h (upd σ.h id B) i) := by
  refine ⟨fun k hk => ⟨⟨by simpa using hk.1, hk.2.1, fun i hik => ?_⟩, setRow_other w g k new (fun e => ?_)⟩, fun i => ?_⟩
  · by_cases h : i = id
    · subst h
      rw [hi] at hik
      cases hik
      have := hk.2.2 _ hi
      rw [hown] at this
      cases this
    · rw [upd_ne _ _ _ _ h]; exact hk.2.2 i hik
  · subst e
    have := hk.2.2 _ hi
    rw [hown] at this
    cases this
  · unfold Goes
    by_cases h : i = id
    · subst h
      right; right
      rw [upd_same]
      exact ⟨rfl, hsame, fun k _ => shape_setRow hb hsz⟩
    · rw [upd_ne _ _ _ _ h]
      cases hx : σ.h i with
      | none => exact .inl rfl
      | dead => exact .inr (.inl rfl)
      | box cs => exact .inr (.inr ⟨rfl, rfl, fun k _ => shape_setRow hb hsz⟩)
      | sl e' sz m es => exact .inr (.inr ⟨rfl, ⟨rfl, rfl, rfl⟩, fun k _ => shape_setRow hb hsz⟩)

/-- An own block is written. -/
theorem Sat.setRow (S : Sat C U σ a w ι) (hU' : ∀ i, U' i → U i) {id g : Nat} (hi : ι id = some g) {cur new : Array Value} {et : TypeId} (hb : w.heap[g]? = some (.cells cur et (0, 0))) (hsz : new.size = cur.size) {B : Blk}
    (hsame : Same (σ.h id) B) (hown : (σ.h id).own = true)
    (hBR : BR (w.setRow g new) (Fz C (w.setRow g new) ι (upd σ.h id B)) ι (upd σ.h id B) id B) :
    Sat C U' ⟨σ.t, upd σ.h id B, σ.nx⟩ a (w.setRow g new) ι := by
  obtain ⟨hF, hg⟩ := setRow_mono S hi hb hsz hsame hown
  have hrng := S.rng id g hi
  refine S.evolve (S.fra.setRow (hrng.1.elim (fun h => h.fra) (fun h => .inr h.1)) new) hF hg (fun i cs hx => by
    by_cases h : i = id
    · subst h; rw [upd_same]; exact hsame.ne.2
    · rw [upd_ne _ _ _ _ h, hx]; simp) (fun i => ?_) S.inj (fun i k hk => ?_) (fun i hiU => ?_) (fun i k hk => ?_)
  · by_cases h : i = id
    · subst h; right; rw [upd_same]; exact hBR
    · left
      refine ⟨upd_ne _ _ _ _ h, rfl, fun k hk => setRow_other w g k new (fun e => ?_)⟩
      subst e
      exact h (S.inj i id k hk hi)
  · obtain ⟨h1, h2⟩ := S.rng i k hk
    refine ⟨h1.imp (fun h => h) fun ⟨hx, cs, hcs⟩ => ⟨hx, ?_⟩, by simpa using h2⟩
    by_cases h : i = id
    · subst h
      rw [upd_same]
      rw [hcs] at hsame
      cases B <;> simp [Same] at hsame
      exact ⟨_, rfl⟩
    · rw [upd_ne _ _ _ _ h]; exact ⟨cs, hcs⟩
  · obtain ⟨h1, h2⟩ := S.fresh i (hU' i hiU)
    have : i ≠ id := fun e => by subst e; rw [hi] at h2; cases h2
    rw [upd_ne _ _ _ _ this]
    exact ⟨h1, h2⟩
  · by_cases h : i = id
    · subst h; rw [upd_same]; exact hsame.ne
    · rw [upd_ne _ _ _ _ h]; exact S.live i k hk

theorem run_store_gen {P : Program} {w : World} {t n g o : Nat} {v : Value} {cur : Array Value} {et : TypeId} (hn : szOf P t = some n) (hb : w.heap[g]? = some (.cells cur et (0, 0))) (hv : v.cells.size = n) (hle : o + n ≤ cur.size)
    (h1 : ∀ (k : Nat) (u : Value), v.cells[k]? = some u → u.oneCell' = true) :
    (Instr.storeAt t (.pointer (some ⟨g, o, Option.none⟩)) v).run P w = .ok () (w.setRow g (Am.splice cur.toList o v.cells.toList).toArray) := by
  have h := run_storeCells_at P g o et v.cells.toList 0 cur w hb (by simp; omega) (fun u hu => by
    obtain ⟨k, hk, he⟩ := List.getElem_of_mem hu
    exact h1 k u (by rw [← he]; simp at hk ⊢))
  simp only [Nat.add_zero] at h
  simp [Instr.storeAt, Instr.sureAddr, storeVar, run_sizeOf hn, hv, h, Am.splice]

end

section
variable {C : Ctx} {U U' : Nat → Prop} {σ : St} {a : Act} {w : World} {ι : Nat → Option Nat} {o : Oper} {Q : Exit → Act → World → Prop} {Γ : Tab} {b : Nat} {e : Eff}
variable (S : Sat C U σ a w ι) (hd : ∀ d, o.dst = some d → d < C.N) (hU' : ∀ i, U' i → U i)
include S hd hU'

theorem s_store {x v : Operand} {x' v' : Opd} {t n : Nat} {t1 t2 : TypeId} (ho : o.op = .store t x v) (hx : cO C.P t1 x = some x') (hv : cO C.P t2 v = some v') (hn : szOf C.P t = some n) (he : delta Γ (Opd.ev σ.t) σ.h b (.store x' v' n) = some e) :
    o.wp C.P a w (fun a' w' => SatU C U' (σ.app o.dst e) a' w') Q := by
  have h1 := cO_vr S hx
  simp only [delta] at he
  split at he
  rotate_left
  · cases he
  rename_i hc
  obtain ⟨hlen, hst⟩ := hc
  have hcr := (cO_vr S hv).cells hst
  have hvn : (a.eval v).cells.size = n := by rw [hcr.size, hlen]
  split at he
  rotate_left
  · cases he
  rename_i id i j hp
  rw [hp] at h1
  generalize hae : a.eval x = av at h1
  have hblk := S.blk id
  split at he
  · rename_i cs hh
    split at he
    rotate_left
    · cases he
    rename_i hc2
    obtain ⟨rfl, hjn⟩ := hc2
    cases he
    cases h1 with
    | pdead v _ _ _ _ hdd => rw [hdd] at hh; cases hh
    | p _ _ _ bk hi hn' hnd =>
      rw [hh] at hblk hae
      simp only [Blk.sz, Nat.mul_zero, Nat.zero_add] at hae
      cases hblk with
      | box bk' et vals _ hi' hb hl h1c hvr =>
        rw [hi] at hi'; cases hi'
        have hrun := run_store_gen (P := C.P) (t := t) (o := j) hn hb hvn (by omega) hcr.one
        have hspl : (splice vals.toList j (a.eval v).cells.toList).length = vals.toList.length := splice_length (by simp; omega)
        have hsame : Same (σ.h id) (.box (splice cs j (Opd.ev σ.t v').cells)) := by rw [hh]; exact splice_length (by omega)
        have hown : (σ.h id).own = true := by rw [hh]; rfl
        obtain ⟨hF, hg⟩ := setRow_mono S hi hb (new := (splice vals.toList j (a.eval v).cells.toList).toArray) (by simpa using hspl) hsame hown
        refine op_done_skip (σ := σ) hd (h' := upd σ.h id (.box (splice cs j (Opd.ev σ.t v').cells))) (ι' := ι) (w' := w.setRow bk (splice vals.toList j (a.eval v).cells.toList).toArray) ?_ (S.setRow hU' hi hb (by simpa using hspl) hsame hown ?_) rfl
        · simp only [execOp, ho, hae, Sem.run_bind, hrun, Result.andThen_ok, Sem.run_pure]
        · have hcell : CR w (Fz C w ι σ.h) ι σ.h (splice vals.toList j (a.eval v).cells.toList).toArray (splice cs j (Opd.ev σ.t v').cells) := by
            have hg1 := splice_get (l := vals.toList) (xs := (a.eval v).cells.toList) (j := j) (by simp; omega)
            have hg2 := splice_get (l := cs) (xs := (Opd.ev σ.t v').cells) (j := j) (by omega)
            have hvl : (a.eval v).cells.toList.length = n := by simpa using hvn
            refine ⟨by rw [List.size_toArray, hspl, splice_length (by omega)]; simpa using hl, fun k u hk => ?_, fun k u y hk hy => ?_⟩
            · rw [List.getElem?_toArray, hg1 k] at hk
              split at hk
              · exact h1c k u (by simpa using hk)
              · split at hk
                · exact hcr.one _ u (by simpa using hk)
                · exact h1c k u (by simpa using hk)
            · rw [List.getElem?_toArray, hg1 k] at hk
              rw [hg2 k] at hy
              split at hk
              · rename_i e1
                rw [if_pos e1] at hy
                exact hvr k u y (by simpa using hk) hy
              · rename_i e1
                rw [if_neg e1] at hy
                split at hk
                · rename_i e2
                  rw [if_pos (by omega)] at hy
                  exact hcr.vr _ u y (by simpa using hk) hy
                · rename_i e2
                  rw [if_neg (by omega)] at hy
                  exact hvr k u y (by simpa using hk) hy
          have hcell' := hcell.mono hF hg
          exact .box bk et _ _ hi (setRow_heap w bk vals _ et (0, 0) hb) hcell'.size hcell'.one hcell'.vr
  · rename_i et sz es hh
    split at he
    rotate_left
    · cases he
    rename_i el hel
    split at he
    rotate_left
    · cases he
    rename_i ds hds
    split at he
    rotate_left
    · cases he
    rename_i hc2
    obtain ⟨hjn, hnot⟩ := hc2
    cases he
    cases h1 with
    | pdead v _ _ _ _ hdd => rw [hdd] at hh; cases hh
    | p _ _ _ bk hi hn' hnd =>
      rw [hh] at hblk hae
      simp only [Blk.sz] at hae
      cases hblk with
      | slnil => simp at hel
      | sl bk' _ _ _ _ cur cap hz hi' hb hC hle hC2 hsz hvr =>
        rw [hi] at hi'; cases hi'
        have hrefs : ∀ id', id' ∈ (Opd.ev σ.t v').refs → ∃ e sz m es, σ.h id' = .sl e sz m es := by
          rw [refs_of_cells hst]; exact ds_refs hds
        obtain ⟨S1, hF1⟩ := S.freeze (Opd.ev σ.t v').refs
        have hownF := own_F S hrefs
        generalize hids : (Opd.ev σ.t v').refs = ids at *
        have hh1 : updL σ.h (frz σ.h ids) id = .sl et sz true es := by rw [frz_get, if_neg hnot, hh]
        have hilt : i < es.length := (List.getElem?_eq_some_iff.1 hel).1
        have hels : el.length = sz := hsz el (List.mem_of_getElem? hel)
        have hdsl := AV.ds_get hds
        have hcurs : i * sz + j + n ≤ cur.size := by
          rw [hC]
          have : (i + 1) * sz ≤ cap * sz := Nat.mul_le_mul_right _ (by omega)
          rw [Nat.add_mul] at this
          omega
        have hvl : (a.eval v).cells.toList.length = n := by simpa using hvn
        have hrun := run_store_gen (P := C.P) (t := t) (o := i * sz + j) hn hb hvn (by omega) hcr.one
        have hspl : (splice cur.toList (i * sz + j) (a.eval v).cells.toList).length = cur.toList.length := splice_length (by simp; omega)
        have hsame : Same (updL σ.h (frz σ.h ids) id) (.sl et sz true (es.set i (splice el j ds))) := by rw [hh1]; exact ⟨rfl, rfl, by simp⟩
        have hown : (updL σ.h (frz σ.h ids) id).own = true := by rw [hh1]; rfl
        obtain ⟨hF, hg⟩ := setRow_mono S1 hi hb (new := (splice cur.toList (i * sz + j) (a.eval v).cells.toList).toArray) (by simpa using hspl) hsame hown
        have SA : Sat C U' ⟨σ.t, upd (updL σ.h (frz σ.h ids)) id (.sl et sz true (es.set i (splice el j ds))), σ.nx⟩ a (w.setRow bk (splice cur.toList (i * sz + j) (a.eval v).cells.toList).toArray) ι := by
          refine S1.setRow hU' hi hb (by simpa using hspl) hsame hown ?_
          have hsl : (splice el j ds).length = el.length := splice_length (by have := hdsl.1; omega)
          refine .sl bk et sz true _ _ cap hz hi (setRow_heap w bk cur _ et (0, 0) hb) (by rw [List.size_toArray, hspl]; simpa using hC) (by simpa using hle) hC2 (fun x hx => ?_) (fun p q x d hx hd' => ?_)
          · rcases List.mem_or_eq_of_mem_set hx with hx | rfl
            · exact hsz x hx
            · rw [hsl, hels]
          · have hg1 := splice_get (l := cur.toList) (xs := (a.eval v).cells.toList) (j := i * sz + j) (by simp; omega) (p * sz + q)
            rw [List.getElem?_toArray, hg1]
            by_cases hpi : p = i
            · subst hpi
              rw [List.getElem?_set_self hilt] at hx
              cases hx
              have hg2 := splice_get (l := el) (xs := ds) (j := j) (by have := hdsl.1; omega) q
              rw [hg2] at hd'
              have hdn : ds.length = n := by rw [hdsl.1, hlen]
              by_cases e1 : q < j
              · rw [if_pos e1] at hd'
                rw [if_pos (by omega)]
                obtain ⟨u, h3, h4⟩ := hvr p q el d hel hd'
                exact ⟨u, by simpa using h3, (h4.mono (fun b hb => ⟨hF1 b hb, rfl⟩)).mono hF⟩
              · rw [if_neg e1] at hd'
                by_cases e2 : q < j + ds.length
                · rw [if_pos e2] at hd'
                  rw [if_neg (by omega), if_pos (by omega)]
                  have hqx : q - j < (Opd.ev σ.t v').cells.length := by omega
                  obtain ⟨d', h5, h6⟩ := hdsl.2 (q - j) _ (List.getElem?_eq_getElem hqx)
                  rw [hd'] at h5
                  cases h5
                  have hqv : q - j < (a.eval v).cells.size := by omega
                  have hvv := hcr.vr (q - j) _ _ (Array.getElem?_eq_getElem hqv) (List.getElem?_eq_getElem hqx)
                  have hrd := AV.d_rd S hF1 hvv h6 (fun id' b' hid' hib' => hownF id' b' (by rw [← hids]; exact refs_cells (List.getElem?_eq_getElem hqx) hid') hib')
                  refine ⟨(a.eval v).cells[q - j], ?_, hrd.mono hF⟩
                  rw [show p * sz + q - (p * sz + j) = q - j by omega]
                  simp [hqv]
                · rw [if_neg e2] at hd'
                  rw [if_neg (by omega), if_neg (by omega)]
                  obtain ⟨u, h3, h4⟩ := hvr p q el d hel hd'
                  exact ⟨u, by simpa using h3, (h4.mono (fun b hb => ⟨hF1 b hb, rfl⟩)).mono hF⟩
            · rw [List.getElem?_set_ne (fun e => hpi e.symm)] at hx
              obtain ⟨u, h3, h4⟩ := hvr p q x d hx hd'
              have hq : q < sz := by rw [← hsz x (List.mem_of_getElem? hx)]; exact (List.getElem?_eq_some_iff.1 hd').1
              refine ⟨u, ?_, (h4.mono (fun b hb => ⟨hF1 b hb, rfl⟩)).mono hF⟩
              by_cases hlt : p < i
              · have : (p + 1) * sz ≤ i * sz := Nat.mul_le_mul_right _ hlt
                rw [Nat.add_mul] at this
                rw [if_pos (by omega)]
                simpa using h3
              · have : (i + 1) * sz ≤ p * sz := Nat.mul_le_mul_right _ (by omega)
                rw [Nat.add_mul] at this
                rw [if_neg (by omega), if_neg (by omega)]
                simpa using h3
        refine op_done_skip (σ := σ) hd ?_ SA ?_
        · simp only [execOp, ho, hae, Sem.run_bind, hrun, Result.andThen_ok, Sem.run_pure]
        · funext k
          simp only [updL]
          rw [frz_get]
          by_cases hk : k = id
          · subst hk
            rw [if_neg hnot, upd_same, upd_same]
          · rw [upd_ne _ _ _ _ hk, upd_ne _ _ _ _ hk, frz_get]
  · cases he

end
end Go.Proofs.Ytephkbajoofeoaa.Am
