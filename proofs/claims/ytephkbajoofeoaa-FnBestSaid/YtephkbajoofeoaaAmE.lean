/-
  SOUNDNESS OF THE ABSTRACT MACHINE: loads, parts of structs, structs written out, slices of slices, structs compared.
-/
import Derived.Test.YtephkbajoofeoaaAmD
namespace Go.Proofs.Ytephkbajoofeoaa.Am
set_option linter.unusedSimpArgs false
set_option linter.unusedVariables false
open Go Go.RowKit

theorem packed_vr {w : World} {F : Nat → Prop} {ι : Nat → Option Nat} {h : Nat → Blk} {agg : Bool} {n : Nat} {vs : List Value} {l : List AV} {x : AV} (hn1 : agg = false → n = 1)
    (hl : vs.length = n) (hl' : l.length = n) (h1 : ∀ (k : Nat) (v : Value), vs[k]? = some v → v.oneCell' = true)
    (hv : ∀ (k : Nat) (v : Value) (y : AV), vs[k]? = some v → l[k]? = some y → VR w F ι h v y) (hp : packed agg l = some x) :
    VR w F ι h (if agg then .agg vs.toArray else vs.headD undef) x := by
  unfold packed at hp
  cases agg with
  | true =>
    simp at hp
    subst hp
    exact .a _ _ (by simp [hl, hl']) (fun k v hk => h1 k v (by simpa using hk)) (fun k v y hk hy => hv k v y (by simpa using hk) hy)
  | false =>
    have := hn1 rfl
    subst this
    match l, hl' with
    | [y], _ =>
      simp at hp
      subst hp
      match vs, hl with
      | [v], _ => exact hv 0 v y rfl rfl

theorem run_load_gen {P : Program} {w : World} {t : TypeId} {agg : Bool} {n : Nat} (hagg : aggOf P t = some agg) (hn : agg = true → szOf P t = some n) (hn1 : agg = false → n = 1)
    {bk o : Nat} {vs : List Value} (hl : vs.length = n) (hc : ∀ k v, vs[k]? = some v → w.cell? ⟨bk, o + k, Option.none⟩ = some v) :
    (Instr.loadAt t (.pointer (some ⟨bk, o, Option.none⟩))).run P w = .ok (if agg then .agg vs.toArray else vs.headD undef) w := by
  cases agg with
  | true =>
    have h := run_loadCells_list (P := P) w ⟨bk, o, Option.none⟩ vs (fun j v hj => by rw [add_addr]; exact hc j v hj)
    rw [hl] at h
    simp [Instr.loadAt, Instr.sureAddr, loadVar, run_isAgg hagg, run_sizeOf (hn rfl), h]
  | false =>
    have := hn1 rfl
    subst this
    match vs, hl with
    | [v], _ =>
      have h0 := hc 0 v rfl
      simp only [Nat.add_zero] at h0
      simp [Instr.loadAt, Instr.sureAddr, loadVar, run_isAgg hagg, h0]

theorem run_loadVar_gen {P : Program} {w : World} {t : TypeId} {agg : Bool} {n : Nat} (hagg : aggOf P t = some agg) (hn : agg = true → szOf P t = some n) (hn1 : agg = false → n = 1)
    {bk o : Nat} {vs : List Value} (hl : vs.length = n) (hc : ∀ k v, vs[k]? = some v → w.cell? ⟨bk, o + k, Option.none⟩ = some v) :
    (loadVar t ⟨bk, o, Option.none⟩).run P w = .ok (if agg then .agg vs.toArray else vs.headD undef) w := by
  cases agg with
  | true =>
    have h := run_loadCells_list (P := P) w ⟨bk, o, Option.none⟩ vs (fun j v hj => by rw [add_addr]; exact hc j v hj)
    rw [hl] at h
    simp [loadVar, run_isAgg hagg, run_sizeOf (hn rfl), h]
  | false =>
    have := hn1 rfl
    subst this
    match vs, hl with
    | [v], _ =>
      have h0 := hc 0 v rfl
      simp only [Nat.add_zero] at h0
      simp [loadVar, run_isAgg hagg, h0]

section
variable {C : Ctx} {U U' : Nat → Prop} {σ : St} {a : Act} {w : World} {ι : Nat → Option Nat} {o : Oper} {Q : Exit → Act → World → Prop} {Γ : Tab} {b : Nat} {e : Eff}

theorem cell_of {w : World} {bk k : Nat} {cur : Array Value} {et : TypeId} {fr : Nat × Nat} {v : Value} (hb : w.heap[bk]? = some (.cells cur et fr)) (hv : cur[k]? = some v) : w.cell? ⟨bk, k, Option.none⟩ = some v := by
  simp [World.cell?, hb, hv]

theorem load_vr (S : Sat C U σ a w ι) {x : Operand} {av : Value} (hae : a.eval x = av) {x' : Opd} {t n : Nat} {agg : Bool} {t1 : TypeId} (hx : cO C.P t1 x = some x') (hagg : aggOf C.P t = some agg) (hn : agg = true → szOf C.P t = some n) (hn1 : agg = false → n = 1)
    (he : delta Γ (Opd.ev σ.t) σ.h b (.load x' n agg) = some e) :
    ∃ v x1, e = ⟨x1, []⟩ ∧ VR w (Fz C w ι σ.h) ι σ.h v x1 ∧ (Instr.loadAt t av).run C.P w = .ok v w ∧ ∃ ad, av = .pointer (some ad) ∧ (loadVar t ad).run C.P w = .ok v w := by
  have h1 := cO_vr S hx
  have fin : ∀ (bk of : Nat) (vs : List Value) (l : List AV) (v : AV), a.eval x = .pointer (some ⟨bk, of, Option.none⟩) → vs.length = n → l.length = n →
      (∀ (k : Nat) (v : Value), vs[k]? = some v → w.cell? ⟨bk, of + k, Option.none⟩ = some v) → (∀ (k : Nat) (v : Value), vs[k]? = some v → v.oneCell' = true) →
      (∀ (k : Nat) (v : Value) (y : AV), vs[k]? = some v → l[k]? = some y → VR w (Fz C w ι σ.h) ι σ.h v y) → packed agg l = some v →
      ∃ v' x1, (⟨v, []⟩ : Eff) = ⟨x1, []⟩ ∧ VR w (Fz C w ι σ.h) ι σ.h v' x1 ∧ (Instr.loadAt t av).run C.P w = .ok v' w ∧ ∃ ad, av = .pointer (some ad) ∧ (loadVar t ad).run C.P w = .ok v' w := by
    intro bk of vs l v hae' hl hl' hc h1 hv hp
    rw [hae] at hae'
    refine ⟨_, v, rfl, packed_vr hn1 hl hl' h1 hv hp, by rw [hae']; exact run_load_gen hagg hn hn1 hl hc, _, hae', run_loadVar_gen hagg hn hn1 hl hc⟩
  simp only [delta] at he
  split at he
  · rename_i id i j hv
    have hblk := S.blk id
    split at he
    · rename_i cs hh
      split at he
      rotate_left
      · cases he
      rename_i hi0
      subst hi0
      split at he
      rotate_left
      · cases he
      rename_i l hl
      split at he
      rotate_left
      · cases he
      rename_i v hp
      cases he
      rw [hv] at h1
      rw [hae] at h1
      cases h1 with
      | pdead v _ _ _ _ hdd => rw [hdd] at hh; cases hh
      | p _ _ _ bk hi hn' hnd =>
        rw [hh] at hblk
        cases hblk with
        | box bk' et vals _ hi' hb hlen h1 hvr =>
          rw [hi] at hi'
          cases hi'
          obtain ⟨c1, c2⟩ := cut_get hl
          obtain ⟨c3, _⟩ := cut_some hl
          rw [hh] at hae
          simp only [Blk.sz, Nat.mul_zero, Nat.zero_add] at hae
          have hget : ∀ k : Nat, k < n → ((vals.toList.drop j).take n)[k]? = vals[j + k]? := fun k hk => by rw [List.getElem?_take, if_pos hk, List.getElem?_drop]; simp
          have hvl : ((vals.toList.drop j).take n).length = n := by simp; omega
          have hk' : ∀ (k : Nat) (v : Value), ((vals.toList.drop j).take n)[k]? = some v → k < n ∧ vals[j + k]? = some v := by
            intro k v hk
            have : k < n := by rw [← hvl]; exact (List.getElem?_eq_some_iff.1 hk).1
            rw [hget k this] at hk
            exact ⟨this, hk⟩
          refine fin bk j ((vals.toList.drop j).take n) l v hae hvl c1 (fun k v hk => ?_) (fun k v hk => h1 _ v (hk' k v hk).2) (fun k v y hk hy => ?_) hp
          · exact cell_of hb (hk' k v hk).2
          · rw [c2 k (hk' k v hk).1] at hy
            exact hvr _ v y (hk' k v hk).2 hy
    · rename_i et sz m es hh
      split at he
      rotate_left
      · cases he
      rename_i el hel
      split at he
      rotate_left
      · cases he
      rename_i l hl
      split at he
      rotate_left
      · cases he
      rename_i v hp
      cases he
      rw [hv] at h1
      rw [hae] at h1
      cases h1 with
      | pdead v _ _ _ _ hdd => rw [hdd] at hh; cases hh
      | p _ _ _ bk hi hn' hnd =>
        rw [hh] at hblk
        cases hblk with
        | slnil => simp at hel
        | sl bk' _ _ _ _ cur cap hz hi' hb hC hle hC2 hsz hvr =>
          rw [hi] at hi'
          cases hi'
          obtain ⟨c1, c2⟩ := cut_get hl
          obtain ⟨c3, _⟩ := cut_some hl
          have hilt : i < es.length := (List.getElem?_eq_some_iff.1 hel).1
          have hels : el.length = sz := hsz el (List.mem_of_getElem? hel)
          rw [hh] at hae
          simp only [Blk.sz] at hae
          have hcurs : i * sz + j + n ≤ cur.size := by
            rw [hC]
            have : (i + 1) * sz ≤ cap * sz := Nat.mul_le_mul_right _ (by omega)
            rw [Nat.add_mul] at this
            omega
          have hget : ∀ k : Nat, k < n → ((cur.toList.drop (i * sz + j)).take n)[k]? = cur[i * sz + j + k]? := fun k hk => by rw [List.getElem?_take, if_pos hk, List.getElem?_drop]; simp
          have hvl : ((cur.toList.drop (i * sz + j)).take n).length = n := by simp; omega
          have hk' : ∀ (k : Nat) (v : Value), ((cur.toList.drop (i * sz + j)).take n)[k]? = some v → k < n ∧ cur[i * sz + j + k]? = some v := by
            intro k v hk
            have : k < n := by rw [← hvl]; exact (List.getElem?_eq_some_iff.1 hk).1
            rw [hget k this] at hk
            exact ⟨this, hk⟩
          have hrd : ∀ (k : Nat) (v : Value), ((cur.toList.drop (i * sz + j)).take n)[k]? = some v → ∃ d, l[k]? = some d ∧ Rd w (Fz C w ι σ.h) v d := by
            intro k v hk
            obtain ⟨hkn, hkv⟩ := hk' k v hk
            have hlk : k < l.length := by omega
            have hld := c2 k hkn
            rw [List.getElem?_eq_getElem hlk] at hld
            obtain ⟨v', h3, h4⟩ := hvr i (j + k) el _ hel hld.symm
            rw [show i * sz + (j + k) = i * sz + j + k by omega, hkv] at h3
            cases h3
            exact ⟨l[k], by simp, h4⟩
          refine fin bk (i * sz + j) ((cur.toList.drop (i * sz + j)).take n) (l.map .c) v hae hvl (by simpa using c1) (fun k v hk => ?_) (fun k v hk => ?_) (fun k v y hk hy => ?_) hp
          · exact cell_of hb (hk' k v hk).2
          · obtain ⟨d, _, h⟩ := hrd k v hk
            exact h.one
          · obtain ⟨d, h5, h6⟩ := hrd k v hk
            simp [h5] at hy
            subst hy
            exact .c _ _ h6
    · cases he
  · rename_i cs j hv
    split at he
    rotate_left
    · cases he
    rename_i l hl
    split at he
    rotate_left
    · cases he
    rename_i v hp
    cases he
    rw [hv] at h1
    rw [hae] at h1
    cases h1 with
    | q bk o' _ _ xv hb hc hr =>
      obtain ⟨c1, c2⟩ := cut_get hl
      obtain ⟨c3, _⟩ := cut_some hl
      have hk' : ∀ (k : Nat) (v : Value), ((List.range n).map fun k => xv (j + k))[k]? = some v → k < n ∧ v = xv (j + k) := by
        intro k v hk
        rw [List.getElem?_map] at hk
        by_cases hkn : k < n
        · rw [List.getElem?_range hkn] at hk
          simp at hk
          exact ⟨hkn, hk.symm⟩
        · rw [List.getElem?_eq_none (by simp; omega)] at hk
          simp at hk
      have hld : ∀ k : Nat, k < n → ∃ d, cs[j + k]? = some d ∧ l[k]? = some d := by
        intro k hk
        have : k < l.length := by omega
        exact ⟨l[k], by rw [← c2 k hk]; simp, by simp⟩
      refine fin bk (o' + j) ((List.range n).map fun k => xv (j + k)) (l.map .c) v hae (by simp) (by simpa using c1) (fun k v hk => ?_) (fun k v hk => ?_) (fun k v y hk hy => ?_) hp
      · obtain ⟨h2, rfl⟩ := hk' k v hk
        obtain ⟨d, h3, _⟩ := hld k h2
        rw [Nat.add_assoc]
        exact hc (j + k) d h3
      · obtain ⟨h2, rfl⟩ := hk' k v hk
        obtain ⟨d, h3, _⟩ := hld k h2
        exact (hr (j + k) d h3).one
      · obtain ⟨h2, rfl⟩ := hk' k v hk
        obtain ⟨d, h3, h4⟩ := hld k h2
        simp [h4] at hy
        subst hy
        exact .c _ _ (hr (j + k) d h3)
  · cases he

variable (S : Sat C U σ a w ι) (hd : ∀ d, o.dst = some d → d < C.N) (hU' : ∀ i, U' i → U i)
include S hd hU'

theorem s_load {x : Operand} {x' : Opd} {t n : Nat} {agg : Bool} {t1 : TypeId} (ho : o.op = .load t x) (hx : cO C.P t1 x = some x') (hagg : aggOf C.P t = some agg) (hn : agg = true → szOf C.P t = some n) (hn1 : agg = false → n = 1)
    (he : delta Γ (Opd.ev σ.t) σ.h b (.load x' n agg) = some e) :
    o.wp C.P a w (fun a' w' => SatU C U' (σ.app o.dst e) a' w') Q := by
  obtain ⟨v, x1, rfl, hv, hr, _⟩ := load_vr S rfl hx hagg hn hn1 he
  refine pure_op S hd hU' ?_ hv
  simp only [execOp, ho, Sem.run_bind, hr, Result.andThen_ok, Sem.run_pure]

theorem s_fld {x : Operand} {x' : Opd} {t i n : Nat} {agg : Bool} {fs : Array Field} {f : Field} {t1 : TypeId} (ho : o.op = .field t x i) (ht : C.P.underlying t = some (.struct fs)) (hf : fs[i]? = some f)
    (hagg : aggOf C.P f.type = some agg) (hn : agg = true → szOf C.P f.type = some n) (hn1 : agg = false → n = 1) (hx : cO C.P t1 x = some x')
    (he : delta Γ (Opd.ev σ.t) σ.h b (.fld x' f.offset n agg) = some e) :
    o.wp C.P a w (fun a' w' => SatU C U' (σ.app o.dst e) a' w') Q := by
  have h1 := cO_vr S hx
  simp only [delta] at he
  split at he
  rotate_left
  · cases he
  rename_i cs hv
  split at he
  rotate_left
  · cases he
  rename_i l hl
  split at he
  rotate_left
  · cases he
  rename_i v hp
  cases he
  rw [hv] at h1
  generalize hae : a.eval x = av at h1
  cases h1 with
  | a vs _ hl' h1 hvr =>
    obtain ⟨c1, c2⟩ := cut_get hl
    obtain ⟨c3, _⟩ := cut_some hl
    have hget : ∀ k : Nat, k < n → ((vs.toList.drop f.offset).take n)[k]? = vs[f.offset + k]? := fun k hk => by rw [List.getElem?_take, if_pos hk, List.getElem?_drop]; simp
    have hvl : ((vs.toList.drop f.offset).take n).length = n := by simp; omega
    have hk' : ∀ (k : Nat) (v : Value), ((vs.toList.drop f.offset).take n)[k]? = some v → k < n ∧ vs[f.offset + k]? = some v := by
      intro k v hk
      have : k < n := by rw [← hvl]; exact (List.getElem?_eq_some_iff.1 hk).1
      rw [hget k this] at hk
      exact ⟨this, hk⟩
    refine pure_op S hd hU' ?_ (packed_vr hn1 hvl c1 (fun k v hk => h1 _ v (hk' k v hk).2) (fun k v y hk hy => ?_) hp)
    · cases agg with
      | true =>
        have hext : vs.extract f.offset (f.offset + n) = ((vs.toList.drop f.offset).take n).toArray := by
          apply Array.ext'
          simp [Array.toList_extract, List.extract]
        simp [execOp, ho, hae, Instr.field, run_underlying ht, hf, asAgg, part, run_isAgg hagg, run_sizeOf (hn rfl), hext]
      | false =>
        have := hn1 rfl
        subst this
        have hlt : f.offset < vs.size := by omega
        have h0 : vs[f.offset]? = some vs[f.offset] := Array.getElem?_eq_getElem hlt
        have h2 : ((vs.toList.drop f.offset).take 1).headD undef = vs[f.offset] := by
          have := hget 0 (by omega)
          simp only [Nat.add_zero, h0] at this
          rw [List.headD_eq_head?_getD, List.head?_eq_getElem?, this]
          rfl
        simp [execOp, ho, hae, Instr.field, run_underlying ht, hf, asAgg, part, run_isAgg hagg, h0]
        simpa using h2.symm
    · rw [c2 k (hk' k v hk).1] at hy
      exact hvr _ v y (hk' k v hk).2 hy

theorem s_slc {x : Operand} {x' : Opd} {lo hi : Option Operand} {lo' hi' : Option Opd} {t e' sz : Nat} {t1 : TypeId} (ho : o.op = .slice t x lo hi none) (ht : elOf C.P t = some e') (hsz : szOf C.P e' = some sz) (hz : 0 < sz)
    (hx : cO C.P t1 x = some x') (hlo : cOopt C.P lo = some lo') (hhi : cOopt C.P hi = some hi')
    (he : delta Γ (Opd.ev σ.t) σ.h b (.slc x' lo' hi' sz) = some e) :
    o.wp C.P a w (fun a' w' => SatU C U' (σ.app o.dst e) a' w') Q := by
  have h1 := cO_vr S hx
  have hL : ∀ (y : Option Operand) (y' : Option Opd) (n m : Int), cOopt C.P y = some y' → optInt (Opd.ev σ.t) m y' = some n → ∃ v : Option Value, y.map a.eval = v ∧ (v = none ∧ n = m ∨ ∃ k, v = some (.int k n)) := by
    intro y y' n m hy hn
    cases y with
    | none => simp [cOopt] at hy; subst hy; simp [optInt] at hn; exact ⟨none, rfl, .inl ⟨rfl, hn.symm⟩⟩
    | some l =>
      obtain ⟨l', h2, h3⟩ := Option.map_eq_some_iff.1 hy
      subst h3
      obtain ⟨k, hk⟩ := intOfAV_vr (cO_vr S h2) hn
      exact ⟨_, rfl, .inr ⟨k, by simp [hk]⟩⟩
  have bounds : ∀ (len cap : Nat) (l h : Int) (vl vh : Option Value), (vl = none ∧ l = 0 ∨ ∃ k, vl = some (.int k l)) → (vh = none ∧ h = (len : Int) ∨ ∃ k, vh = some (.int k h)) → 0 ≤ l → l ≤ h → h ≤ len → len ≤ cap →
      (Instr.sliceBounds true len cap vl vh none).run C.P w = .ok (l.toNat, h.toNat, cap) w := by
    intro len cap l h vl vh h1 h2 h3 h4 h5 h6
    have h7 : h ≤ (cap : Int) := by omega
    have h8 : 0 ≤ h := by omega
    have h9 : max h 0 = h := by omega
    rcases h1 with ⟨rfl, rfl⟩ | ⟨k1, rfl⟩ <;> rcases h2 with ⟨rfl, rfl⟩ | ⟨k2, rfl⟩ <;> simp [Instr.sliceBounds, Instr.sliceBound, asIntOf, *]
  have hrun : ∀ (ad : Option Addr) (len cap : Nat) (l h : Int) , a.eval x = .slice ad len cap → ((∃ v : Option Value, lo.map a.eval = v ∧ (v = none ∧ l = 0 ∨ ∃ k, v = some (.int k l)))) → (∃ v : Option Value, hi.map a.eval = v ∧ (v = none ∧ h = (len : Int) ∨ ∃ k, v = some (.int k h))) →
      0 ≤ l → l ≤ h → h ≤ len → len ≤ cap → (execOp a.eval o).run C.P w = .ok (.value (.slice (if cap = l.toNat then ad else ad.map (·.add (l.toNat * sz))) (h.toNat - l.toNat) (cap - l.toNat))) w := by
    intro ad len cap l h hae hl hh h3 h4 h5 h6
    obtain ⟨vl, e1, hl⟩ := hl
    obtain ⟨vh, e2, hh⟩ := hh
    simp [execOp, ho, hae, Instr.sliceAt, Instr.slice, run_underlying (elOf_und ht), e1, e2, bounds len cap l h vl vh hl hh h3 h4 h5 h6, run_sizeOf hsz]
  simp only [delta] at he
  split at he
  rotate_left
  · cases he
  rename_i l hl
  have hl' := hL lo lo' l 0 hlo hl
  split at he
  · rename_i sz' es hv
    split at he
    rotate_left
    · cases he
    rename_i h hh
    have hh' := hL hi hi' h es.length hhi hh
    split at he
    rotate_left
    · cases he
    rename_i hc
    obtain ⟨rfl, h3, h4, h5⟩ := hc
    cases he
    rw [hv] at h1
    generalize hae : a.eval x = av at h1
    cases h1 with
    | c v d hr =>
      cases hr with
      | nil =>
        have : l = 0 := by simp at h5; omega
        have : h = 0 := by simp at h5; omega
        subst_vars
        refine pure_op S hd hU' (hrun _ _ _ 0 0 hae hl' hh' (by omega) (by omega) (by simp) (by omega)) ?_
        simpa using VR.c (w := w) (F := Fz C w ι σ.h) (ι := ι) (h := σ.h) _ _ (Rd.nil sz')
      | emp ad cap =>
        have : l = 0 := by simp at h5; omega
        have : h = 0 := by simp at h5; omega
        subst_vars
        refine pure_op S hd hU' (hrun _ _ _ 0 0 hae hl' hh' (by omega) (by omega) (by simp) (by omega)) ?_
        have e : (if cap = Int.toNat 0 then some ad else (some ad).map (·.add (Int.toNat 0 * sz'))) = some ad := by
          split
          · rfl
          · simp [Addr.add]
        rw [e]
        simpa using VR.c (w := w) (F := Fz C w ι σ.h) (ι := ι) (h := σ.h) _ _ (Rd.emp ad cap sz')
      | sl bk of len cap _ _ xv hlen hcap hml hszs hb hc hr =>
        subst hlen
        refine pure_op S hd hU' (hrun _ _ _ l h hae hl' hh' h3 h4 h5 hcap) ?_
        have hwl : ((es.drop l.toNat).take (h.toNat - l.toNat)).length = h.toNat - l.toNat := by simp; omega
        have hwg : ∀ (i : Nat) (el : List D), ((es.drop l.toNat).take (h.toNat - l.toNat))[i]? = some el → es[l.toNat + i]? = some el := by
          intro i el hel
          have hi := (List.getElem?_eq_some_iff.1 hel).1
          rw [List.getElem?_take, if_pos (by omega), List.getElem?_drop] at hel
          exact hel
        by_cases hcl : cap = l.toNat
        · rw [if_pos hcl]
          refine .c _ _ (.sl bk of _ _ sz' _ (fun i j => xv (l.toNat + i) j) hwl (by omega) (by omega) (fun e he => hszs e (List.mem_of_mem_drop (List.mem_of_mem_take he))) (fun hn => hb (fun h0 => hn (by rw [h0]; simp))) (fun i j el d h8 h9 => ?_) (fun i j el d h8 h9 => hr _ j el d (hwg i el h8) h9))
          have := (List.getElem?_eq_some_iff.1 h8).1
          omega
        · rw [if_neg hcl]
          simp only [Option.map_some, add_addr]
          refine .c _ _ (.sl bk _ _ _ sz' _ (fun i j => xv (l.toNat + i) j) hwl (by omega) (by omega) (fun e he => hszs e (List.mem_of_mem_drop (List.mem_of_mem_take he))) (fun hn => hb (fun h0 => hn (by rw [h0]; simp))) (fun i j el d h8 h9 => ?_) (fun i j el d h8 h9 => hr _ j el d (hwg i el h8) h9))
          rw [show of + l.toNat * sz' + i * sz' + j = of + (l.toNat + i) * sz' + j by rw [Nat.add_mul]; omega]
          exact hc _ j el d (hwg i el h8) h9
  · rename_i sz' id off len hv
    split at he
    rotate_left
    · cases he
    rename_i h hh
    have hh' := hL hi hi' h len hhi hh
    split at he
    rotate_left
    · cases he
    rename_i hc
    obtain ⟨rfl, h3, h4, h5, hal⟩ := hc
    cases he
    rw [hv] at h1
    generalize hae : a.eval x = av at h1
    cases h1 with
    | rdead v _ _ _ _ _ hdd => rw [hdd] at hal; simp [Blk.alive] at hal
    | rnil _ et _ m hi' hhh =>
      have : l = 0 := by omega
      have : h = 0 := by omega
      subst_vars
      refine pure_op S hd hU' (hrun _ _ _ 0 0 hae hl' hh' (by omega) (by omega) (by simp) (by omega)) ?_
      simpa using VR.rnil (w := w) (F := Fz C w ι σ.h) (ι := ι) (h := σ.h) id et sz' m hi' hhh
    | r _ _ _ bk ao cap et _ m es hi' hhh hlen hcap hao htip =>
      refine pure_op S hd hU' (hrun _ _ _ l h hae hl' hh' h3 h4 h5 hcap) ?_
      by_cases hcl : cap = l.toNat
      · rw [if_pos hcl]
        refine .r id (off + l.toNat) (h.toNat - l.toNat) bk ao (cap - l.toNat) et sz' m es hi' hhh (by omega) (by omega) (fun hne => by omega) (fun h0 => ?_)
        have h01 : off = 0 := by omega
        have h02 : l.toNat = 0 := by omega
        rw [h02, Nat.sub_zero]
        exact htip h01
      · rw [if_neg hcl]
        simp only [Option.map_some, add_addr]
        refine .r id (off + l.toNat) (h.toNat - l.toNat) bk _ (cap - l.toNat) et sz' m es hi' hhh (by omega) (by omega) (fun hne => ?_) (fun h0 => ?_)
        · rw [hao (by omega), Nat.add_mul]
        · have h01 : off = 0 := by omega
          have h02 : l.toNat = 0 := by omega
          rw [h02, Nat.sub_zero, Nat.zero_mul, Nat.add_zero]
          exact htip h01
  · rename_i sz' hv
    split at he
    rotate_left
    · cases he
    rename_i h hh
    have hh' := hL hi hi' h 0 hhi hh
    split at he
    rotate_left
    · cases he
    rename_i hc
    obtain ⟨rfl, rfl⟩ := hc
    cases he
    rw [hv] at h1
    generalize hae : a.eval x = av at h1
    cases h1 with
    | n =>
      refine pure_op S hd hU' (hrun _ _ _ 0 0 hae hl' hh' (by omega) (by omega) (by simp) (by omega)) ?_
      simpa using VR.n (w := w) (F := Fz C w ι σ.h) (ι := ι) (h := σ.h) sz
  · cases he

omit S hd hU' in
theorem run_eqFields {P : Program} {w : World} {d : Nat} {xs ys : Array Value} {l m : List Int} (hx : ∀ (i : Nat) (n : Int), l[i]? = some n → xs[i]? = some (.int .i64 n)) (hy : ∀ (i : Nat) (n : Int), m[i]? = some n → ys[i]? = some (.int .i64 n))
    (hlm : l.length = m.length) : ∀ (fs : List Field) (k : Nat), plainInts P fs k = true → k + fs.length = l.length → (Op.eqFields (d + 1) xs ys fs).run P w = .ok (decide (l.drop k = m.drop k)) w
  | [], k, _, hk => by
    simp at hk
    rw [List.drop_of_length_le (by omega), List.drop_of_length_le (by omega)]
    simp [Op.eqFields]
  | f :: fs, k, hp, hk => by
    simp only [plainInts, Bool.and_eq_true, bne_iff_ne, ne_eq, beq_iff_eq] at hp
    obtain ⟨⟨⟨⟨h1, h2⟩, h3⟩, h4⟩, h5⟩ := hp
    simp at hk
    have hkl : k < l.length := by omega
    have hkm : k < m.length := by omega
    have hxk := hx k l[k] (by simp [hkl])
    have hyk := hy k m[k] (by simp [hkm])
    split at h4
    rotate_left
    · cases h4
    rename_i kk hu
    have hagg : ∀ w : World, (isAgg f.type).run P w = .ok false w := fun w => by simp [isAgg, run_underlying hu]
    have e1 : (Op.equalIn (d + 1) f.type (.int .i64 l[k]) (.int .i64 m[k])).run P w = .ok (l[k] == m[k]) w := by simp [Op.equalIn, run_underlying hu]
    have hdk : (l.drop k = m.drop k) ↔ (l[k] = m[k] ∧ l.drop (k + 1) = m.drop (k + 1)) := by
      rw [List.drop_eq_getElem_cons hkl, List.drop_eq_getElem_cons hkm, List.cons.injEq]
    have ih := run_eqFields (P := P) (w := w) (d := d) hx hy hlm fs (k + 1) h5 (by omega)
    rw [show decide (l.drop k = m.drop k) = decide (l[k] = m[k] ∧ l.drop (k + 1) = m.drop (k + 1)) from decide_eq_decide.2 hdk]
    by_cases heq : l[k] = m[k]
    · rw [← heq] at e1 hyk
      have hT : (l[k] = m[k]) = True := eq_true heq
      simp [Op.eqFields, h1, part, hagg, h2, hxk, hyk, e1, hT, ih]
    · simp [Op.eqFields, h1, part, hagg, h2, hxk, hyk, e1, heq]

omit S hd hU' in
theorem ints_vr {w : World} {F : Nat → Prop} {h : Nat → Blk} : ∀ (cs : List AV) (l : List Int), intsOf cs = some l → l.length = cs.length ∧ ∀ (i : Nat) (n : Int), l[i]? = some n → cs[i]? = some (.c (.v (.int .i64 n)))
  | [], l, hl => by simp [intsOf] at hl; subst hl; simp
  | c :: cs, l, hl => by
    unfold intsOf at hl
    split at hl
    · cases hl; rename_i heq; cases heq
    · rename_i x r heq
      cases heq
      split at hl
      · rename_i l' hl'
        cases hl
        obtain ⟨h1, h2⟩ := ints_vr (w := w) (F := F) (h := h) _ _ hl'
        refine ⟨by simp [h1], fun i n hi => ?_⟩
        cases i with
        | zero => simp at hi; subst hi; rfl
        | succ i => simp at hi; exact h2 i n hi
      · cases hl
    · cases hl

theorem s_cmpa {n : Nat} {neg : Bool} {x y : Operand} {x' y' : Opd} {t ty : TypeId} (ho : o.op = .binOp (if neg then .neq else .eql) t x y ty) (ht : cmpaOk C.P t = some n) {t1 t2 : TypeId} (hx : cO C.P t1 x = some x') (hy : cO C.P t2 y = some y')
    (he : delta Γ (Opd.ev σ.t) σ.h b (.cmpa n neg x' y') = some e) :
    o.wp C.P a w (fun a' w' => SatU C U' (σ.app o.dst e) a' w') Q := by
  have h1 := cO_vr S hx
  have h2 := cO_vr S hy
  unfold cmpaOk at ht
  split at ht
  rotate_left
  · cases ht
  rename_i fs hu
  split at ht
  rotate_left
  · cases ht
  rename_i hc
  cases ht
  simp only [Bool.and_eq_true, Bool.not_eq_true'] at hc
  obtain ⟨⟨hp, hg⟩, hst⟩ := hc
  simp only [delta] at he
  split at he
  rotate_left
  · cases he
  rename_i xs ys hvx hvy
  split at he
  rotate_left
  · cases he
  rename_i l m hl hm
  split at he
  rotate_left
  · cases he
  rename_i hlen
  cases he
  rw [hvx] at h1; rw [hvy] at h2
  obtain ⟨q1, q2⟩ := ints_vr (w := w) (F := fun _ => True) (h := σ.h) _ _ hl
  obtain ⟨q3, q4⟩ := ints_vr (w := w) (F := fun _ => True) (h := σ.h) _ _ hm
  generalize hax : a.eval x = ax at h1
  generalize hay : a.eval y = ay at h2
  cases h1 with
  | a vs _ l1 _ hv1 =>
    cases h2 with
    | a us _ l2 _ hv2 =>
      have hX : ∀ (i : Nat) (n : Int), l[i]? = some n → vs[i]? = some (.int .i64 n) := by
        intro i n hi
        have hk := q2 i n hi
        have hlt : i < vs.size := by rw [l1]; exact (List.getElem?_eq_some_iff.1 hk).1
        have := (hv1 i vs[i] _ (Array.getElem?_eq_getElem hlt) hk).int
        rw [Array.getElem?_eq_getElem hlt, this]
      have hY : ∀ (i : Nat) (n : Int), m[i]? = some n → us[i]? = some (.int .i64 n) := by
        intro i n hi
        have hk := q4 i n hi
        have hlt : i < us.size := by rw [l2]; exact (List.getElem?_eq_some_iff.1 hk).1
        have := (hv2 i us[i] _ (Array.getElem?_eq_getElem hlt) hk).int
        rw [Array.getElem?_eq_getElem hlt, this]
      have hr := run_eqFields (P := C.P) (w := w) (d := 9998) hX hY (by omega) fs.toList 0 hp (by simp; omega)
      have hfs : C.P.fieldsOf t = fs := by simp [Program.fieldsOf, hu]
      have hs := run_equalIn_struct (P := C.P) w 9999 t vs us (by rw [hfs]; exact hu) hst
      rw [hfs, hr] at hs
      simp only [List.drop_zero] at hs
      refine pure_op S hd hU' (v := .bool (if neg then !decide (l = m) else decide (l = m))) ?_ (vr_v rfl)
      have hgd : ∀ op, (eqGuard op t x y (.agg vs) (.agg us)).run C.P w = .ok () w := fun op => run_eqGuard_agg w op t x y vs us hg
      cases neg
      · simp [execOp, ho, hax, hay, hgd, run_eql_struct, hs]
      · simp [execOp, ho, hax, hay, hgd, run_neq_struct, hs]

end
end Go.Proofs.Ytephkbajoofeoaa.Am
