/-
  SOUNDNESS OF THE ABSTRACT MACHINE: cells as lists, structs written out, what is frozen, new blocks.
-/
import Derived.Test.YtephkbajoofeoaaAmE
namespace Go.Proofs.Ytephkbajoofeoaa.Am
set_option linter.unusedSimpArgs false
set_option linter.unusedVariables false
open Go Go.RowKit

/-- An array of cells is what a list says. -/
structure CR (w : World) (F : Nat → Prop) (ι : Nat → Option Nat) (h : Nat → Blk) (cur : Array Value) (cs : List AV) : Prop where
  size : cur.size = cs.length
  one : ∀ (k : Nat) (v : Value), cur[k]? = some v → v.oneCell' = true
  vr : ∀ (k : Nat) (v : Value) (x : AV), cur[k]? = some v → cs[k]? = some x → VR w F ι h v x

theorem one_cells {v : Value} (h : v.oneCell' = true) : v.cells = #[v] := by
  cases v <;> first | rfl | simp [Value.oneCell'] at h

theorem VR.one {w : World} {F : Nat → Prop} {ι : Nat → Option Nat} {h : Nat → Blk} {v : Value} {x : AV} (hv : VR w F ι h v x) (hx : x.one = true) : v.oneCell' = true := by
  cases hv with
  | u => simp [AV.one] at hx
  | c v d hr => exact hr.one
  | n => rfl
  | rdead _ _ _ _ _ h1 => exact h1
  | rnil => rfl
  | r => rfl
  | pdead _ _ _ _ h1 => exact h1
  | p => rfl
  | q => rfl
  | a => simp [AV.one] at hx
  | t => simp [AV.one] at hx

theorem VR.cells {w : World} {F : Nat → Prop} {ι : Nat → Option Nat} {h : Nat → Blk} {v : Value} {x : AV} (hv : VR w F ι h v x) (hx : x.st = true) : CR w F ι h v.cells x.cells := by
  by_cases hone : x.one = true
  · have h1 := hv.one hone
    have hc : x.cells = [x] := by cases x <;> first | rfl | simp [AV.one] at hone
    rw [one_cells h1, hc]
    refine ⟨rfl, fun k u hk => ?_, fun k u y hk hy => ?_⟩
    · cases k with
      | zero => simp at hk; subst hk; exact h1
      | succ k => simp at hk
    · cases k with
      | zero => simp at hk hy; subst hk; subst hy; exact hv
      | succ k => simp at hk
  · cases x with
    | a cs =>
      cases hv with
      | a vs _ hl h1 hv => exact ⟨hl, h1, hv⟩
    | _ => first | exact absurd rfl hone | (simp [AV.st, AV.one] at hx)

theorem splice_get {α : Type} {l xs : List α} {j : Nat} (h : j + xs.length ≤ l.length) (k : Nat) : (splice l j xs)[k]? = if k < j then l[k]? else if k < j + xs.length then xs[k - j]? else l[k]? := by
  unfold splice
  rw [List.append_assoc, List.getElem?_append]
  simp only [List.length_take, Nat.min_eq_left (show j ≤ l.length by omega)]
  by_cases h1 : k < j
  · rw [if_pos h1, if_pos h1, List.getElem?_take, if_pos h1]
  · rw [if_neg h1, if_neg h1, List.getElem?_append]
    by_cases h2 : k < j + xs.length
    · rw [if_pos (by omega), if_pos h2]
    · rw [if_neg (by omega), if_neg h2, List.getElem?_drop]
      congr 1
      omega

theorem splice_length {α : Type} {l xs : List α} {j : Nat} (h : j + xs.length ≤ l.length) : (splice l j xs).length = l.length := by
  unfold splice
  simp
  omega

/-- What filling a part in does to an array. -/
theorem fold_set (off : Nat) : ∀ (l : List Value) (j : Nat) (cur : Array Value), ((l.zipIdx j).foldl (fun cs x => cs.setIfInBounds (off + x.2) x.1) cur).size = cur.size ∧
    (off + j + l.length ≤ cur.size → ∀ k : Nat, ((l.zipIdx j).foldl (fun cs x => cs.setIfInBounds (off + x.2) x.1) cur)[k]? = if k < off + j then cur[k]? else if k < off + j + l.length then l[k - (off + j)]? else cur[k]?)
  | [], j, cur => ⟨rfl, fun _ k => by
      simp only [List.zipIdx_nil, List.foldl_nil, List.length_nil, Nat.add_zero]
      split
      · rfl
      · rfl⟩
  | v :: l, j, cur => by
    obtain ⟨h1, h2⟩ := fold_set off l (j + 1) (cur.setIfInBounds (off + j) v)
    simp only [List.zipIdx_cons, List.foldl_cons]
    refine ⟨by rw [h1]; simp, fun hle k => ?_⟩
    simp only [List.length_cons] at hle
    rw [h2 (by simp; omega) k]
    rw [Array.getElem?_setIfInBounds]
    by_cases e1 : k < off + j
    · rw [if_pos (by omega), if_neg (by omega), if_pos e1]
    · rw [if_neg e1]
      by_cases e2 : k = off + j
      · subst e2
        rw [if_pos (by omega), if_pos rfl, if_pos (by omega), if_pos (by simp)]
        simp
      · rw [if_neg (by omega)]
        by_cases e3 : k < off + j + (l.length + 1)
        · rw [if_pos (by omega), if_pos (by simpa using e3)]
          rw [show k - (off + j) = (k - (off + (j + 1))) + 1 by omega]
          simp
        · rw [if_neg (by omega), if_neg (by omega), if_neg (by simpa using e3)]

theorem fill_one (cur part : Array Value) (off : Nat) (h : off + part.size ≤ cur.size) : (part.zipIdx.foldl (fun cs (x : Value × Nat) => cs.setIfInBounds (off + x.2) x.1) cur).size = cur.size ∧
    ∀ k : Nat, (part.zipIdx.foldl (fun cs (x : Value × Nat) => cs.setIfInBounds (off + x.2) x.1) cur)[k]? = if k < off then cur[k]? else if k < off + part.size then part[k - off]? else cur[k]? := by
  have := fold_set off part.toList 0 cur
  rw [← Array.foldl_toList, Array.toList_zipIdx]
  refine ⟨this.1, fun k => ?_⟩
  have h2 := this.2 (by simpa using h) k
  simpa using h2

theorem CR.splice {w : World} {F : Nat → Prop} {ι : Nat → Option Nat} {h : Nat → Blk} {cur part : Array Value} {cs ps : List AV} {off : Nat} (hc : CR w F ι h cur cs) (hp : CR w F ι h part ps) (hle : off + ps.length ≤ cs.length) :
    CR w F ι h (part.zipIdx.foldl (fun cs (x : Value × Nat) => cs.setIfInBounds (off + x.2) x.1) cur) (Am.splice cs off ps) := by
  have hps := hp.size
  have hcs := hc.size
  obtain ⟨h1, h2⟩ := fill_one cur part off (by omega)
  have hg := splice_get (l := cs) (xs := ps) (j := off) hle
  refine ⟨by rw [h1, splice_length hle, hcs], fun k v hk => ?_, fun k v x hk hx => ?_⟩
  · rw [h2 k] at hk
    split at hk
    · exact hc.one k v hk
    · split at hk
      · exact hp.one _ v hk
      · exact hc.one k v hk
  · rw [h2 k] at hk
    rw [hg k] at hx
    split at hk
    · rename_i e1
      rw [if_pos e1] at hx
      exact hc.vr k v x hk hx
    · rename_i e1
      rw [if_neg e1] at hx
      split at hk
      · rename_i e2
        rw [if_pos (by omega)] at hx
        exact hp.vr _ v x hk hx
      · rename_i e2
        rw [if_neg (by omega)] at hx
        exact hc.vr k v x hk hx

theorem places_of {P : Program} : ∀ (fs : List Field), fs.all (fun f => (szOf P f.type).isSome) = true → ∃ pl, fs.mapM (fun f => (P.info? f.type).map fun i => (f.offset, i.size)) = some pl ∧ ∀ (i : Nat) (f : Field) (n : Nat), fs[i]? = some f → szOf P f.type = some n → pl[i]? = some (f.offset, n)
  | [], _ => ⟨[], rfl, by simp⟩
  | f :: fs, h => by
    simp only [List.all_cons, Bool.and_eq_true] at h
    obtain ⟨pl, h1, h2⟩ := places_of fs h.2
    obtain ⟨n, hn⟩ := Option.isSome_iff_exists.1 h.1
    obtain ⟨i, hi, hs⟩ := info_of_szOf hn
    refine ⟨(f.offset, n) :: pl, by simp [List.mapM_cons, hi, h1, hs], fun k g m hk hm => ?_⟩
    cases k with
    | zero => simp at hk; subst hk; rw [hn] at hm; cases hm; rfl
    | succ k => simp at hk; simpa using h2 k g m hk hm

theorem pieces_fill {C : Ctx} {U : Nat → Prop} {σ : St} {a : Act} {w : World} {ι : Nat → Option Nat} (S : Sat C U σ a w ι) {fs : List Field} {pl : List (Nat × Nat)}
    (hpl : ∀ (i : Nat) (f : Field) (n : Nat), fs[i]? = some f → szOf C.P f.type = some n → pl[i]? = some (f.offset, n)) :
    ∀ (parts : List (Nat × Operand)) (ps : List (Nat × Nat × Opd)) (cur : Array Value) (cs cs' : List AV), cParts C.P fs parts = some ps → CR w (Fz C w ι σ.h) ι σ.h cur cs → pieces (Opd.ev σ.t) cs ps = some cs' →
      ∃ cur', Instr.fill (fun i => pl[i]?) cur (parts.map fun x => (x.1, a.eval x.2)) = some cur' ∧ CR w (Fz C w ι σ.h) ι σ.h cur' cs'
  | [], ps, cur, cs, cs', hp, hc, hq => by
    simp [cParts] at hp
    subst hp
    simp [pieces] at hq
    subst hq
    exact ⟨cur, rfl, hc⟩
  | (i, x) :: parts, ps, cur, cs, cs', hp, hc, hq => by
    simp only [cParts] at hp
    split at hp
    rotate_left
    · cases hp
    rename_i f hf
    split at hp
    rotate_left
    · cases hp
    rename_i n y ys hn hy hys
    cases hp
    simp only [pieces] at hq
    split at hq
    rotate_left
    · cases hq
    rename_i hcond
    obtain ⟨e1, e2, e3⟩ := hcond
    have hv := (cO_vr S hy).cells e3
    have hsz : (a.eval x).cells.size = n := by rw [hv.size, e1]
    have hc' := hc.splice (off := f.offset) hv (by omega)
    obtain ⟨cur', h1, h2⟩ := pieces_fill S hpl parts ys _ _ cs' hys hc' hq
    refine ⟨cur', ?_, h2⟩
    simp only [List.map_cons, Instr.fill, hpl i f n hf hn]
    have hcs := hc.size
    rw [if_neg (by simp only [Bool.or_eq_true, decide_eq_true_eq]; rintro (h | h) <;> omega)]
    exact h1

theorem zeroOf_spec {P : Program} {t : TypeId} {zs : List AV} (h : zeroOf P t = some zs) : ∃ i z, P.info? t = some i ∧ i.zero = some z ∧ ∀ (w : World) (F : Nat → Prop) (ι : Nat → Option Nat) (h : Nat → Blk), CR w F ι h z.cells zs := by
  unfold zeroOf at h
  split at h
  rotate_left
  · cases h
  rename_i i hi
  split at h
  rotate_left
  · cases h
  rename_i z hz
  split at h
  rotate_left
  · cases h
  rename_i x hx
  cases h
  refine ⟨i, z, hi, hz, fun w F ι h => (avOf_vr hx).cells ?_⟩
  unfold avOf at hx
  split at hx
  · split at hx
    · cases hx; rfl
    · cases hx
  · split at hx
    · cases hx
      unfold av1
      split <;> rfl
    · cases hx

section
variable {C : Ctx} {U U' : Nat → Prop} {σ : St} {a : Act} {w : World} {ι : Nat → Option Nat} {o : Oper} {Q : Exit → Act → World → Prop} {Γ : Tab} {b : Nat} {e : Eff}
variable (S : Sat C U σ a w ι) (hd : ∀ d, o.dst = some d → d < C.N) (hU' : ∀ i, U' i → U i)
include S hd hU'

theorem s_build {t : TypeId} {fs : Array Field} {parts : Array (Nat × Operand)} {zs : List AV} {ps : List (Nat × Nat × Opd)} (ho : o.op = .build t parts) (ht : C.P.underlying t = some (.struct fs)) (hz : zeroOf C.P t = some zs)
    (hp : cParts C.P fs.toList parts.toList = some ps) (hall : fs.toList.all (fun f => (szOf C.P f.type).isSome) = true) (he : delta Γ (Opd.ev σ.t) σ.h b (.build zs ps) = some e) :
    o.wp C.P a w (fun a' w' => SatU C U' (σ.app o.dst e) a' w') Q := by
  obtain ⟨i, z, hi, hzz, hcr⟩ := zeroOf_spec hz
  obtain ⟨pl, hpl1, hpl2⟩ := places_of fs.toList hall
  simp only [delta] at he
  split at he
  rotate_left
  · cases he
  rename_i cs hcs
  cases he
  obtain ⟨cur', h1, h2⟩ := pieces_fill S hpl2 parts.toList ps z.cells zs cs hp (hcr _ _ _ _) hcs
  have hb : C.P.built t (parts.map fun x => (x.1, a.eval x.2)).toList = some cur' := by
    simp only [Program.built, hi, ht, hzz, hpl1]
    simpa using h1
  refine pure_op S hd hU' (v := .agg cur') ?_ (.a _ _ h2.size h2.one h2.vr)
  have := run_build (P := C.P) w t (parts.map fun x => (x.1, a.eval x.2)) cur' hb
  simp only [execOp, ho, Sem.run_bind, this, Result.andThen_ok, Sem.run_pure]

end

theorem frz_get (h g : Nat → Blk) : ∀ (ids : List Nat) (i : Nat), updL g (frz h ids) i = if i ∈ ids then fzB (h i) else g i
  | [], i => by simp [frz, updL]
  | id :: ids, i => by
    simp only [frz, updL]
    rw [frz_get h (upd g id (fzB (h id))) ids i]
    by_cases h1 : i ∈ ids
    · simp [h1]
    · by_cases h2 : i = id
      · subst h2; simp [h1, upd]
      · simp [h1, h2, upd]

theorem fzB_own (x : Blk) : (fzB x).own = true → x.own = true := by
  cases x <;> simp [fzB, Blk.own]

/-- Some own slices are written no more. -/
theorem Sat.freeze {C : Ctx} {U : Nat → Prop} {σ : St} {a : Act} {w : World} {ι : Nat → Option Nat} (S : Sat C U σ a w ι) (ids : List Nat) :
    Sat C U ⟨σ.t, updL σ.h (frz σ.h ids), σ.nx⟩ a w ι ∧ ∀ b, Fz C w ι σ.h b → Fz C w ι (updL σ.h (frz σ.h ids)) b := by
  have hget := frz_get σ.h σ.h ids
  have hF : ∀ b, Fz C w ι σ.h b → Fz C w ι (updL σ.h (frz σ.h ids)) b := by
    intro b ⟨h1, h2, h3⟩
    refine ⟨h1, h2, fun id hid => ?_⟩
    have := h3 id hid
    rw [hget]
    split
    · cases hx : (fzB (σ.h id)).own with
      | false => rfl
      | true => rw [fzB_own _ hx] at this; cases this
    · exact this
  have hg : ∀ id, Goes w w ι ι σ.h (updL σ.h (frz σ.h ids)) id := by
    intro id
    unfold Goes
    rw [hget]
    cases hx : σ.h id with
    | none => exact .inl rfl
    | dead => right; left; split <;> rfl
    | box cs => right; right; refine ⟨rfl, ?_, fun _ _ => rfl⟩; split <;> exact rfl
    | sl e sz m es => right; right; refine ⟨rfl, ?_, fun _ _ => rfl⟩; split <;> exact ⟨rfl, rfl, rfl⟩
  refine ⟨S.evolve S.fra (fun b hb => ⟨hF b hb, rfl⟩) hg (fun i cs hx => by rw [hget, hx]; split <;> simp [fzB]) (fun id => ?_) S.inj (fun i b hi => ?_) (fun i hi => ?_) (fun i b hi => ?_), hF⟩
  rotate_left
  · obtain ⟨h1, h2⟩ := S.rng i b hi
    refine ⟨h1.imp id fun ⟨h3, cs, h4⟩ => ⟨h3, cs, ?_⟩, h2⟩
    rw [hget, h4]
    split <;> rfl
  rotate_right
  · have hb := (S.blk id).mono (fun b hb => ⟨hF b hb, rfl⟩) hg rfl (fun _ _ => rfl)
    rw [hget]
    split
    · right
      cases hx : σ.h id with
      | none => exact .none
      | dead => exact .dead
      | box cs => rw [hx] at hb; exact hb
      | sl e sz m es =>
        rw [hx] at hb
        cases hb with
        | slnil _ _ _ hz hi => exact .slnil e sz false hz hi
        | sl b _ _ _ _ cur Cc hz hi hb hC hle hC2 hsz hv => exact .sl b e sz false es cur Cc hz hi hb hC hle hC2 hsz hv
    · left; exact ⟨rfl, rfl, fun _ _ => rfl⟩
  · have := S.fresh i hi
    rw [hget, this.1]
    refine ⟨?_, this.2⟩
    split <;> rfl
  · have := S.live i b hi
    rw [hget]
    split
    · cases hx : σ.h i <;> simp_all [fzB]
    · exact this

/-- An abstract value read as data, once the own slices in it are frozen. -/
theorem AV.d_rd {C : Ctx} {U : Nat → Prop} {σ : St} {a : Act} {w : World} {ι : Nat → Option Nat} (S : Sat C U σ a w ι) {F : Nat → Prop} (hF : ∀ b, Fz C w ι σ.h b → F b) {v : Value} {x : AV} {d : D} (hv : VR w (Fz C w ι σ.h) ι σ.h v x) (hx : x.d σ.h = some d)
    (hown : ∀ id b, id ∈ x.ref1 → ι id = some b → F b) : Rd w F v d := by
  cases hv with
  | u => simp [AV.d] at hx
  | c v d hr => simp [AV.d] at hx; subst hx; exact hr.mono (fun b hb => ⟨hF b hb, rfl⟩)
  | n sz => simp [AV.d] at hx; subst hx; exact .nil _
  | rdead v sz id off len h1 hd => simp [AV.d, hd] at hx
  | rnil id e sz m hi hh => simp [AV.d, hh] at hx; subst hx; exact .nil _
  | r id off len b ao cap e sz m es hi hh hlen hcap ho htip =>
    simp only [AV.d, hh, Option.some.injEq] at hx
    subst hx
    have hb := S.blk id
    rw [hh] at hb
    have hwl : ((es.drop off).take len).length = len := by simp; omega
    have hwg : ∀ (i : Nat) (el : List D), ((es.drop off).take len)[i]? = some el → i < len ∧ es[off + i]? = some el := by
      intro i el hel
      have hi := (List.getElem?_eq_some_iff.1 hel).1
      rw [List.getElem?_take, if_pos (by omega), List.getElem?_drop] at hel
      exact ⟨by omega, hel⟩
    cases hb with
    | slnil _ _ _ hz hi' => rw [hi] at hi'; cases hi'
    | sl b' _ _ _ _ cur Cc hz hi' hbk hC hle hC2 hsz hvr =>
      rw [hi] at hi'; cases hi'
      refine .sl b ao len cap sz _ (fun i j => cur.getD ((off + i) * sz + j) undef) hwl hcap (by omega) (fun el he => hsz el (List.mem_of_mem_drop (List.mem_of_mem_take he))) (fun _ => hown id b (by simp [AV.ref1]) hi) (fun i j el d h1 h2 => ?_) (fun i j el d h1 h2 => ?_)
      · obtain ⟨h3, h4⟩ := hwg i el h1
        obtain ⟨v, h5, h6⟩ := hvr _ j el d h4 h2
        rw [ho (by omega), show off * sz + i * sz + j = (off + i) * sz + j by rw [Nat.add_mul]]
        rw [cell_of hbk h5]
        simp [Array.getD_eq_getD_getElem?, h5]
      · obtain ⟨h3, h4⟩ := hwg i el h1
        obtain ⟨v, h5, h6⟩ := hvr _ j el d h4 h2
        have : cur.getD ((off + i) * sz + j) undef = v := by simp [Array.getD_eq_getD_getElem?, h5]
        rw [this]
        exact h6.mono (fun b hb => ⟨hF b hb, rfl⟩)
  | pdead => simp [AV.d] at hx
  | p => simp [AV.d] at hx
  | q => simp [AV.d] at hx
  | a => simp [AV.d] at hx
  | t => simp [AV.d] at hx

theorem AV.ds_get {h : Nat → Blk} : ∀ {xs : List AV} {ds : List D}, AV.ds h xs = some ds → ds.length = xs.length ∧ ∀ (k : Nat) (x : AV), xs[k]? = some x → ∃ d, ds[k]? = some d ∧ x.d h = some d
  | [], ds, hx => by simp [AV.ds] at hx; subst hx; simp
  | x :: xs, ds, hx => by
    simp only [AV.ds] at hx
    split at hx
    · rename_i d ds' h1 h2
      cases hx
      obtain ⟨h3, h4⟩ := AV.ds_get h2
      refine ⟨by simp [h3], fun k y hk => ?_⟩
      cases k with
      | zero => simp at hk; subst hk; exact ⟨d, rfl, h1⟩
      | succ k => simp at hk; simpa using h4 k y hk
    · cases hx

theorem refsL_mem : ∀ {xs : List AV} {k : Nat} {x : AV} {id : Nat}, xs[k]? = some x → id ∈ x.ref1 → id ∈ AV.refsL xs
  | [], k, x, id, h, _ => by simp at h
  | y :: ys, 0, x, id, h, hi => by simp at h; subst h; simp [AV.refsL, hi]
  | y :: ys, k + 1, x, id, h, hi => by simp at h; simp [AV.refsL, refsL_mem h hi]

end Go.Proofs.Ytephkbajoofeoaa.Am
