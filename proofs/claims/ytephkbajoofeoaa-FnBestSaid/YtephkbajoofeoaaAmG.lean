/-
  SOUNDNESS OF THE ABSTRACT MACHINE: new blocks and stores.
-/
import Derived.Test.YtephkbajoofeoaaAmF
namespace Go.Proofs.Ytephkbajoofeoaa.Am
set_option linter.unusedSimpArgs false
set_option linter.unusedVariables false
open Go Go.RowKit

theorem CR.mono {w w' : World} {F F' : Nat → Prop} {ι ι' : Nat → Option Nat} {h h' : Nat → Blk} (hF : ∀ b, F b → F' b ∧ w'.heap[b]? = w.heap[b]?)
    (hg : ∀ id, Goes w w' ι ι' h h' id) {cur : Array Value} {cs : List AV} (hc : CR w F ι h cur cs) : CR w' F' ι' h' cur cs :=
  ⟨hc.size, hc.one, fun k v x hk hx => (hc.vr k v x hk hx).mono hF hg⟩

section
variable {C : Ctx} {U U' : Nat → Prop} {σ : St} {a : Act} {w : World} {ι : Nat → Option Nat}

/-- What stays when a block is made. -/
theorem alloc_mono (S : Sat C U σ a w ι) (b : Nat) (hb : U b) (vals : Array Value) (e : TypeId) (B : Blk) :
    (∀ k, Fz C w ι σ.h k → Fz C (w.alloc (.cells vals e)) (upd ι b (some w.heap.size)) (upd σ.h b B) k ∧ (w.alloc (.cells vals e)).heap[k]? = w.heap[k]?) ∧
    (∀ id, Goes w (w.alloc (.cells vals e)) ι (upd ι b (some w.heap.size)) σ.h (upd σ.h b B) id) := by
  have hold : ∀ k, k < w.heap.size → (w.alloc (.cells vals e)).heap[k]? = w.heap[k]? := fun k hk => Below.heap_alloc _ _ _ hk
  refine ⟨fun k hk => ⟨⟨by have := hk.1; simp; omega, hk.2.1, fun id hid => ?_⟩, hold k hk.1⟩, fun id => ?_⟩
  · by_cases h : id = b
    · subst h
      rw [upd_same] at hid
      cases hid
      exact absurd hk.1 (Nat.lt_irrefl _)
    · rw [upd_ne _ _ _ _ h] at hid ⊢
      exact hk.2.2 id hid
  · unfold Goes
    by_cases h : id = b
    · subst h; exact .inl (S.fresh id hb).1
    · rw [upd_ne _ _ _ _ h, upd_ne _ _ _ _ h]
      cases hx : σ.h id with
      | none => exact .inl rfl
      | dead => exact .inr (.inl rfl)
      | box cs => exact .inr (.inr ⟨rfl, rfl, fun k hk => by unfold World.shape?; rw [hold k (S.rng id k hk).2]⟩)
      | sl e' sz m es => exact .inr (.inr ⟨rfl, ⟨rfl, rfl, rfl⟩, fun k hk => by unfold World.shape?; rw [hold k (S.rng id k hk).2]⟩)

theorem Fra.alloc {C : Ctx} {w : World} (h : Fra C w) (o : Obj) : Fra C (w.alloc o) :=
  ⟨h.os, h.tape, h.output, by have := h.size; simp; omega, fun k hk hx => by rw [Below.heap_alloc _ _ _ (by have := h.size; omega)]; exact h.block k hk hx⟩

/-- A block is made. -/
theorem Sat.alloc (S : Sat C U σ a w ι) (b : Nat) (hb : U b) (hU' : ∀ i, U' i → U i ∧ i ≠ b) (vals : Array Value) (e : TypeId) (B : Blk) (hB : B ≠ .none ∧ B ≠ .dead)
    (hBR : BR (w.alloc (.cells vals e)) (Fz C (w.alloc (.cells vals e)) (upd ι b (some w.heap.size)) (upd σ.h b B)) (upd ι b (some w.heap.size)) (upd σ.h b B) b B) :
    Sat C U' ⟨σ.t, upd σ.h b B, σ.nx⟩ a (w.alloc (.cells vals e)) (upd ι b (some w.heap.size)) := by
  obtain ⟨hF, hg⟩ := alloc_mono S b hb vals e B
  refine S.evolve (S.fra.alloc _) hF hg (fun i cs hx => by
    by_cases h : i = b
    · subst h; rw [upd_same]; exact hB.2
    · rw [upd_ne _ _ _ _ h, hx]; simp) (fun id => ?_) (fun i j k hi hj => ?_) (fun i k hi => ?_) (fun i hi => ?_) (fun i k hi => ?_)
  · by_cases h : id = b
    · subst h; right; rw [upd_same]; exact hBR
    · left
      exact ⟨upd_ne _ _ _ _ h, upd_ne _ _ _ _ h, fun k hk => Below.heap_alloc _ _ _ (S.rng id k hk).2⟩
  · by_cases h1 : i = b
    · by_cases h2 : j = b
      · rw [h1, h2]
      · subst h1
        rw [upd_same] at hi
        rw [upd_ne _ _ _ _ h2] at hj
        cases hi
        exact absurd (S.rng j _ hj).2 (Nat.lt_irrefl _)
    · rw [upd_ne _ _ _ _ h1] at hi
      by_cases h2 : j = b
      · subst h2
        rw [upd_same] at hj
        cases hj
        exact absurd (S.rng i _ hi).2 (Nat.lt_irrefl _)
      · rw [upd_ne _ _ _ _ h2] at hj
        exact S.inj i j k hi hj
  · by_cases h1 : i = b
    · subst h1
      rw [upd_same] at hi
      cases hi
      exact ⟨.inl (.inl S.fra.size), by simp⟩
    · rw [upd_ne _ _ _ _ h1] at hi ⊢
      obtain ⟨h2, h3⟩ := S.rng i k hi
      exact ⟨h2, by simp; omega⟩
  · obtain ⟨h1, h2⟩ := hU' i hi
    rw [upd_ne _ _ _ _ h2, upd_ne _ _ _ _ h2]
    exact S.fresh i h1
  · by_cases h1 : i = b
    · subst h1; rw [upd_same]; exact hB
    · rw [upd_ne _ _ _ _ h1] at hi ⊢
      exact S.live i k hi

/-- A run that ends in a value and a world. -/
theorem op_done {o : Oper} {v : Value} {x : AV} {w' : World} {ι' : Nat → Option Nat} {h' : Nat → Blk} {Q : Exit → Act → World → Prop}
    (hd : ∀ d, o.dst = some d → d < C.N) (hrun : (execOp a.eval o).run C.P w = .ok (.value v) w') (S' : Sat C U' ⟨σ.t, h', σ.nx⟩ a w' ι') (hv : VR w' (Fz C w' ι' h') ι' h' v x) {bl : List (Nat × Blk)} (hbl : updL σ.h bl = h') :
    o.wp C.P a w (fun a' w' => SatU C U' (σ.app o.dst ⟨x, bl⟩) a' w') Q := by
  unfold Oper.wp
  rw [hrun]
  simp only [Oper.upon]
  refine ⟨ι', ?_⟩
  cases ho : o.dst with
  | none => simpa [St.app, putO, hbl, Act.put] using S'
  | some d => simpa [St.app, putO, hbl] using S'.put d (hd d ho) v x hv

theorem op_done_skip {o : Oper} {w' : World} {ι' : Nat → Option Nat} {h' : Nat → Blk} {Q : Exit → Act → World → Prop}
    (hd : ∀ d, o.dst = some d → d < C.N) (hrun : (execOp a.eval o).run C.P w = .ok .skip w') (S' : Sat C U' ⟨σ.t, h', σ.nx⟩ a w' ι') {bl : List (Nat × Blk)} (hbl : updL σ.h bl = h') :
    o.wp C.P a w (fun a' w' => SatU C U' (σ.app o.dst ⟨.u, bl⟩) a' w') Q := by
  unfold Oper.wp
  rw [hrun]
  simp only [Oper.upon]
  refine ⟨ι', ?_⟩
  cases ho : o.dst with
  | none => simpa [St.app, putO, hbl, Act.put] using S'
  | some d => simpa [St.app, putO, hbl] using S'.put d (hd d ho) undef .u (.u _)

end

section
variable {C : Ctx} {U U' : Nat → Prop} {σ : St} {a : Act} {w : World} {ι : Nat → Option Nat} {o : Oper} {Q : Exit → Act → World → Prop} {Γ : Tab} {b : Nat} {e : Eff}
variable (S : Sat C U σ a w ι) (hd : ∀ d, o.dst = some d → d < C.N) (hb : U b) (hU' : ∀ i, U' i → U i ∧ i ≠ b)
include S hd hb hU'

theorem s_new {t : TypeId} {zs : List AV} (ho : o.op = .alloc t) (hz : zeroOf C.P t = some zs) (he : delta Γ (Opd.ev σ.t) σ.h b (.new t zs) = some e) :
    o.wp C.P a w (fun a' w' => SatU C U' (σ.app o.dst e) a' w') Q := by
  simp only [delta, Option.some.injEq] at he
  subst he
  obtain ⟨i, z, hi, hzz, hcr⟩ := zeroOf_spec hz
  refine op_done hd (v := .pointer (some ⟨w.heap.size, 0, none⟩)) (w' := w.alloc (.cells z.cells t)) (ι' := upd ι b (some w.heap.size)) (h' := upd σ.h b (.box zs)) ?_ (S.alloc b hb hU' z.cells t (.box zs) ⟨by simp, by simp⟩ ?_) ?_ rfl
  · simp [execOp, ho, Instr.alloc, zeroValue, typeInfo, hi, hzz, newVar, newRow]
  · exact .box w.heap.size t z.cells zs (upd_same _ _ _) (heap_alloc_new _ _) (hcr w (fun _ => True) ι σ.h).size (hcr w (fun _ => True) ι σ.h).one (hcr _ _ _ _).vr
  · have := VR.p (w := w.alloc (.cells z.cells t)) (F := Fz C (w.alloc (.cells z.cells t)) (upd ι b (some w.heap.size)) (upd σ.h b (.box zs))) (ι := upd ι b (some w.heap.size)) (h := upd σ.h b (.box zs)) b 0 0 w.heap.size (upd_same _ _ _) (by rw [upd_same]; simp) (by rw [upd_same]; simp)
    simpa using this

theorem s_box {x : Operand} {x' : Opd} {t n : Nat} (ho : o.op = .box t x) (hx : cO C.P t x = some x') (he : delta Γ (Opd.ev σ.t) σ.h b (.box t x' n) = some e) :
    o.wp C.P a w (fun a' w' => SatU C U' (σ.app o.dst e) a' w') Q := by
  simp only [delta] at he
  split at he
  rotate_left
  · cases he
  rename_i hc
  cases he
  have hcr := (cO_vr S hx).cells hc.2
  obtain ⟨hF, hg⟩ := alloc_mono S b hb (a.eval x).cells t (.box ((Opd.ev σ.t x').cells))
  have hcr' := CR.mono hF hg hcr
  refine op_done hd (v := .pointer (some ⟨w.heap.size, 0, none⟩)) (w' := w.alloc (.cells (a.eval x).cells t)) (ι' := upd ι b (some w.heap.size)) (h' := upd σ.h b (.box ((Opd.ev σ.t x').cells))) ?_ (S.alloc b hb hU' _ t _ ⟨by simp, by simp⟩ ?_) ?_ rfl
  · simp [execOp, ho, Instr.box, newVar, newRow]
  · exact .box w.heap.size t _ _ (upd_same _ _ _) (heap_alloc_new _ _) hcr'.size hcr'.one hcr'.vr
  · have := VR.p (w := w.alloc (.cells (a.eval x).cells t)) (F := Fz C (w.alloc (.cells (a.eval x).cells t)) (upd ι b (some w.heap.size)) (upd σ.h b (.box ((Opd.ev σ.t x').cells)))) (ι := upd ι b (some w.heap.size)) (h := upd σ.h b (.box ((Opd.ev σ.t x').cells))) b 0 0 w.heap.size (upd_same _ _ _) (by rw [upd_same]; simp) (by rw [upd_same]; simp)
    simpa using this

omit S hd hb hU' in
theorem av1_ref {P : Program} {t : TypeId} {v : Value} : (av1 P t v).ref1 = [] := by
  unfold av1
  split <;> rfl

omit S hd hb hU' in
theorem zeroOf_ref {P : Program} {t : TypeId} {zs : List AV} (h : zeroOf P t = some zs) : ∀ (k : Nat) (x : AV), zs[k]? = some x → x.ref1 = [] := by
  unfold zeroOf at h
  split at h
  rotate_left
  · cases h
  rename_i i hi
  split at h
  rotate_left
  · cases h
  rename_i z hz
  split at h
  rotate_left
  · cases h
  rename_i x hx
  cases h
  intro k y hk
  unfold avOf at hx
  split at hx
  · split at hx
    · rename_i cs _
      cases hx
      have hlt := (List.getElem?_eq_some_iff.1 hk).1
      simp only [AV.cells, avL_length] at hlt
      obtain ⟨t', rfl⟩ := avL_get cs.toList _ k _ y (List.getElem?_eq_getElem hlt) hk
      exact av1_ref
    · cases hx
  · split at hx
    · cases hx
      have hc : (av1 P t z).cells = [av1 P t z] := by unfold av1; split <;> rfl
      rw [hc] at hk
      cases k with
      | zero => simp at hk; subst hk; exact av1_ref
      | succ k => simp at hk
    · cases hx

theorem s_mk {t et sz : Nat} {l : Tmp} {zs : List AV} {i : TypeInfo} (ho : o.op = .makeSlice t (.tmp l) (.tmp l)) (ht : elOf C.P t = some et) (hsz : szOf C.P et = some sz) (hz : zeroOf C.P et = some zs) (hi : C.P.info? et = some i)
    (h0 : 0 < sz) (hby : i.bytes ≤ 32768) (he : delta Γ (Opd.ev σ.t) σ.h b (.mk et sz zs (.s l)) = some e) :
    o.wp C.P a w (fun a' w' => SatU C U' (σ.app o.dst e) a' w') Q := by
  simp only [delta] at he
  split at he
  rotate_left
  · cases he
  rename_i n zd hn hzd
  split at he
  rotate_left
  · cases he
  rename_i hc
  obtain ⟨c1, c2, c3⟩ := hc
  cases he
  obtain ⟨i', z, hi', hzz, hcr⟩ := zeroOf_spec hz
  rw [hi] at hi'
  cases hi'
  obtain ⟨i'', hi'', hsz'⟩ := info_of_szOf hsz
  rw [hi] at hi''
  cases hi''
  obtain ⟨k, hk⟩ := intOfAV_vr (S.vals l) hn
  have hbig : n ≤ 4294967296 := c2
  have hbytes : (i.bytes : Int) * n ≤ 281474976710656 := by
    have h1 : (i.bytes : Int) ≤ 32768 := by omega
    have := Int.mul_le_mul h1 hbig c1 (by omega)
    omega
  have hrun := run_make (P := C.P) w t et i z (elOf_und ht) hi hzz k k n n c1 (Int.le_refl _) hbytes (by omega)
  have hzl : zd.length = zs.length := (AV.ds_get hzd).1
  have hzs : z.cells.size = sz := by rw [(hcr w (fun _ => True) ι σ.h).size]; omega
  rw [hsz'] at hrun
  refine op_done hd (v := .slice (some ⟨w.heap.size, 0, none⟩) n.toNat n.toNat) (w' := w.alloc (.cells (madeCells z.cells (n.toNat * sz)) et)) (ι' := upd ι b (some w.heap.size)) (h' := upd σ.h b (.sl et sz true (List.replicate n.toNat zd))) ?_
    (S.alloc b hb hU' _ et _ ⟨by simp, by simp⟩ ?_) ?_ rfl
  · have hev : a.eval (.tmp l) = .int k n := hk
    simp [execOp, ho, hev, hrun]
  · refine .sl w.heap.size et sz true _ _ n.toNat h0 (upd_same _ _ _) (heap_alloc_new _ _) (by simp [madeCells]) (by simp) (by simp [maxLen]; omega) (fun x hx => ?_) (fun p q x d hx hd' => ?_)
    · rw [List.eq_of_mem_replicate hx]; exact c3
    · have hp : p < n.toNat := by have := (List.getElem?_eq_some_iff.1 hx).1; simpa using this
      have hxz : x = zd := by rw [List.getElem?_replicate, if_pos hp] at hx; cases hx; rfl
      subst hxz
      have hq : q < sz := by rw [← c3]; exact (List.getElem?_eq_some_iff.1 hd').1
      have hlt : p * sz + q < n.toNat * sz := by
        have : (p + 1) * sz ≤ n.toNat * sz := Nat.mul_le_mul_right _ hp
        rw [Nat.add_mul] at this
        omega
      have hqz : q < z.cells.size := by omega
      refine ⟨z.cells[q], ?_, ?_⟩
      · have hm : (p * sz + q) % z.cells.size = q := by rw [hzs, Nat.mul_comm, Nat.mul_add_mod, Nat.mod_eq_of_lt hq]
        rw [madeCells, Array.getElem?_map, Array.getElem?_range, if_pos hlt]
        simp [hm, hqz]
      · have hzq : zs[q]? = some zs[q] := List.getElem?_eq_getElem (by omega)
        obtain ⟨d', h5, h6⟩ := (AV.ds_get hzd).2 q _ hzq
        rw [hd'] at h5
        cases h5
        obtain ⟨hF, hg⟩ := alloc_mono S b hb (madeCells z.cells (n.toNat * sz)) et (.sl et sz true (List.replicate n.toNat x))
        have := AV.d_rd S (F := Fz C w ι σ.h) (fun _ h => h) ((hcr w (Fz C w ι σ.h) ι σ.h).vr q z.cells[q] zs[q] (by simp [hqz]) hzq) h6 (fun id b' hid => by rw [zeroOf_ref hz q _ hzq] at hid; cases hid)
        exact this.mono hF
  · refine .r b 0 n.toNat w.heap.size 0 n.toNat et sz true _ (upd_same _ _ _) (upd_same _ _ _) (by simp) (Nat.le_refl _) (fun _ => by simp) (fun _ => ⟨rfl, ?_⟩)
    unfold World.shape?
    rw [heap_alloc_new]
    simp [madeCells]

omit S hd hb hU' in
theorem ds_st {h : Nat → Blk} {x : AV} {ds : List D} (hx : AV.ds h x.cells = some ds) : x.st = true := by
  cases x with
  | u => simp [AV.cells, AV.ds, AV.d] at hx
  | t vs => simp [AV.cells, AV.ds, AV.d] at hx
  | bx cs => simp [AV.cells, AV.ds, AV.d] at hx
  | ow e sz es => simp [AV.cells, AV.ds, AV.d] at hx
  | _ => rfl

omit S hd hb hU' in
theorem refs_cells {x : AV} {k : Nat} {y : AV} {id : Nat} (hk : x.cells[k]? = some y) (hi : id ∈ y.ref1) : id ∈ x.refs := by
  cases x with
  | a cs => exact refsL_mem hk hi
  | _ =>
    cases k with
    | zero => simp [AV.cells] at hk; subst hk; exact hi
    | succ k => simp [AV.cells] at hk

omit hd hb hU' in
/-- The elements of a slice that is written out, filled in one by one. -/
theorem elems_fill {et sz : Nat} (hsz : szOf C.P et = some sz) {F : Nat → Prop} (hF : ∀ b, Fz C w ι σ.h b → F b) :
    ∀ (parts : List (Nat × Operand)) (k : Nat) (xs : List Opd) (cur : Array Value) (es : List (List D)), cElems C.P et k parts = some xs → elems σ.h (Opd.ev σ.t) sz xs = some es →
      (∀ id b, id ∈ xs.flatMap (fun x => (Opd.ev σ.t x).refs) → ι id = some b → F b) → (k + parts.length) * sz ≤ cur.size →
      es.length = parts.length ∧ (∀ x, x ∈ es → x.length = sz) ∧ ∃ cur', Instr.fill (fun i => some (i * sz, sz)) cur (parts.map fun x => (x.1, a.eval x.2)) = some cur' ∧ cur'.size = cur.size ∧ (∀ m, m < k * sz → cur'[m]? = cur[m]?) ∧
        ∀ (i j : Nat) (el : List D) (d : D), es[i]? = some el → el[j]? = some d → ∃ v, cur'[(k + i) * sz + j]? = some v ∧ Rd w F v d
  | [], k, xs, cur, es, hp, he, _, _ => by
    simp [cElems] at hp
    subst hp
    simp [elems] at he
    subst he
    exact ⟨rfl, by simp, cur, rfl, rfl, fun _ _ => rfl, by simp⟩
  | (i, x) :: parts, k, xs, cur, es, hp, he, hown, hle => by
    simp only [cElems] at hp
    split at hp
    rotate_left
    · cases hp
    rename_i hik
    subst hik
    split at hp
    rotate_left
    · cases hp
    rename_i y ys hy hys
    cases hp
    simp only [elems] at he
    split at he
    rotate_left
    · cases he
    rename_i el0 es' hel hes
    split at he
    rotate_left
    · cases he
    rename_i hlen
    cases he
    have hcr := (cO_vr S hy).cells (ds_st hel)
    have hds := AV.ds_get hel
    have hpsz : (a.eval x).cells.size = sz := by rw [hcr.size, ← hds.1, hlen]
    simp only [List.length_cons] at hle
    have hle1 : i * sz + sz ≤ cur.size := by
      have : (i + 1) * sz ≤ (i + (parts.length + 1)) * sz := Nat.mul_le_mul_right _ (by omega)
      rw [Nat.add_mul] at this
      omega
    obtain ⟨f1, f2⟩ := fill_one cur (a.eval x).cells (i * sz) (by omega)
    obtain ⟨r1, r2, cur', r3, r4, r5, r6⟩ := elems_fill hsz hF parts (i + 1) ys _ es' hys hes (fun id b hid => hown id b (by simp only [List.flatMap_cons, List.mem_append]; exact .inr hid)) (by rw [f1]; rw [show i + 1 + parts.length = i + (parts.length + 1) by omega]; exact hle)
    refine ⟨by simp [r1], fun z hz => ?_, cur', ?_, by rw [r4, f1], fun m hm => ?_, fun p q el d hel' hd' => ?_⟩
    · rcases List.mem_cons.1 hz with rfl | hz
      · exact hlen
      · exact r2 z hz
    · simp only [List.map_cons, Instr.fill]
      rw [if_neg (by simp only [Bool.or_eq_true, decide_eq_true_eq]; rintro (h | h) <;> omega)]
      exact r3
    · rw [r5 m (by rw [Nat.add_mul]; omega), f2 m, if_pos hm]
    · cases p with
      | zero =>
        simp at hel'
        subst hel'
        have hq : q < sz := by rw [← hlen]; exact (List.getElem?_eq_some_iff.1 hd').1
        have hqx : q < (Opd.ev σ.t y).cells.length := by rw [← hds.1]; omega
        obtain ⟨d', h5, h6⟩ := hds.2 q _ (List.getElem?_eq_getElem hqx)
        rw [hd'] at h5
        cases h5
        have hqv : q < (a.eval x).cells.size := by omega
        have hvr := hcr.vr q _ _ (Array.getElem?_eq_getElem hqv) (List.getElem?_eq_getElem hqx)
        refine ⟨(a.eval x).cells[q], ?_, AV.d_rd S hF hvr h6 (fun id b hid => hown id b (by simp only [List.flatMap_cons, List.mem_append]; exact .inl (refs_cells (List.getElem?_eq_getElem hqx) hid)))⟩
        rw [Nat.add_zero, r5 _ (by rw [Nat.add_mul]; omega), f2, if_neg (by omega), if_pos (by omega)]
        rw [show i * sz + q - i * sz = q by omega]
        exact Array.getElem?_eq_getElem hqv
      | succ p =>
        simp at hel'
        rw [show i + (p + 1) = i + 1 + p by omega]
        exact r6 p q el d hel' hd'

omit S hd hb hU' in
theorem ds_refs {h : Nat → Blk} : ∀ {xs : List AV} {ds : List D}, AV.ds h xs = some ds → ∀ id, id ∈ AV.refsL xs → ∃ e sz m es, h id = .sl e sz m es
  | [], _, _, id, hi => by simp [AV.refsL] at hi
  | x :: xs, ds, hx, id, hi => by
    simp only [AV.ds] at hx
    split at hx
    · rename_i d ds' h1 h2
      simp only [AV.refsL, List.mem_append] at hi
      rcases hi with hi | hi
      · cases x with
        | r sz' id' off len =>
          simp [AV.ref1] at hi
          subst hi
          simp only [AV.d] at h1
          split at h1
          · rename_i e sz m es hh; exact ⟨e, sz, m, es, hh⟩
          · cases h1
        | _ => simp [AV.ref1] at hi
      · exact ds_refs h2 id hi
    · cases hx

omit S hd hb hU' in
theorem refs_of_cells {x : AV} (hx : x.st = true) : x.refs = AV.refsL x.cells := by
  cases x with
  | a cs => rfl
  | _ => first | (simp [AV.st, AV.one] at hx; done) | simp [AV.refs, AV.cells, AV.refsL]

omit S hd hb hU' in
theorem elems_refs {h : Nat → Blk} {ev : Opd → AV} {sz : Nat} : ∀ {xs : List Opd} {es : List (List D)}, elems h ev sz xs = some es → ∀ id, id ∈ xs.flatMap (fun x => (ev x).refs) → ∃ e sz m es, h id = .sl e sz m es
  | [], _, _, id, hi => by simp at hi
  | x :: xs, es, hx, id, hi => by
    simp only [elems] at hx
    split at hx
    · rename_i e es' h1 h2
      split at hx
      · simp only [List.flatMap_cons, List.mem_append] at hi
        rcases hi with hi | hi
        · rw [refs_of_cells (ds_st h1)] at hi
          exact ds_refs h1 id hi
        · exact elems_refs h2 id hi
      · cases hx
    · cases hx

omit hd hb hU' in
/-- Once frozen, an own slice's block is one that nobody writes. -/
theorem own_F {ids : List Nat} (hsl : ∀ id, id ∈ ids → ∃ e sz m es, σ.h id = .sl e sz m es) : ∀ id b, id ∈ ids → ι id = some b → Fz C w ι (updL σ.h (frz σ.h ids)) b := by
  intro id b hid hi
  obtain ⟨e, sz, m, es, hh⟩ := hsl id hid
  obtain ⟨h1, h2⟩ := S.rng id b hi
  refine ⟨h2, .inr (h1.elim (fun h => h) fun ⟨_, cs, h3⟩ => by rw [hh] at h3; cases h3), fun id' hi' => ?_⟩
  have := S.inj id' id b hi' hi
  subst this
  rw [frz_get, if_pos hid, hh]
  rfl

omit S hd hb hU' in
theorem run_buildSlice {P : Program} {w : World} {t et sz n : Nat} {parts : Array (Nat × Value)} {i : TypeInfo} {z : Value} {cells : Array Value} (ht : P.underlying t = some (.slice et)) (hi : P.info? et = some i) (hz : i.zero = some z) (hsz : i.size = sz) (h0 : 0 < sz)
    (hlim : n * sz ≤ 16777216) (hf : Instr.fill (fun k => some (k * sz, sz)) (madeCells z.cells (n * sz)) parts.toList = some cells) :
    (Instr.buildSlice t n parts).run P w = .ok (.slice (some ⟨w.heap.size, 0, none⟩) n n) (w.alloc (.cells cells et)) := by
  have h1 : ¬ 16777216 < n * sz := by omega
  by_cases hn : n = 0
  · subst hn
    have hm : madeCells z.cells (0 * sz) = #[] := by simp [madeCells, Array.range_zero']
    rw [hm] at hf
    simp [Instr.buildSlice, run_underlying ht, sizeOf, typeInfo, hi, hsz, newRow, Array.range_zero', hf]
  · have hf' : Instr.fill (fun k => some (k * sz, sz)) ((Array.range (n * sz)).map fun x => z.cells[x % z.cells.size]!) parts.toList = some cells := hf
    have hn' : sz ≠ 0 := by omega
    have hm : ¬ n * sz = 0 := Nat.mul_ne_zero hn hn'
    simp [Instr.buildSlice, hm, run_underlying ht, sizeOf, typeInfo, zeroValue, hi, hz, hsz, h1, hn, hn', newRow, hf']

omit S hd hb hU' in
theorem cElems_length {P : Program} {et : TypeId} : ∀ {parts : List (Nat × Operand)} {k : Nat} {xs : List Opd}, cElems P et k parts = some xs → xs.length = parts.length
  | [], k, xs, h => by simp [cElems] at h; subst h; rfl
  | (i, x) :: parts, k, xs, h => by
    simp only [cElems] at h
    split at h
    · split at h
      · rename_i y ys h1 h2
        cases h
        simp [cElems_length h2]
      · cases h
    · cases h

theorem s_bsl {t et sz n : Nat} {parts : Array (Nat × Operand)} {xs : List Opd} (ho : o.op = .buildSlice t n parts) (ht : elOf C.P t = some et) (hsz : szOf C.P et = some sz) (hp : cElems C.P et 0 parts.toList = some xs) (hn : xs.length = n) (h0 : 0 < sz)
    (hlim : n * sz ≤ 16777216) (hz : (zeroOf C.P et).isSome = true) (he : delta Γ (Opd.ev σ.t) σ.h b (.bsl et sz xs) = some e) :
    o.wp C.P a w (fun a' w' => SatU C U' (σ.app o.dst e) a' w') Q := by
  simp only [delta] at he
  split at he
  rotate_left
  · cases he
  rename_i es hes
  cases he
  obtain ⟨zs, hzs⟩ := Option.isSome_iff_exists.1 hz
  obtain ⟨i, z, hi, hzz, _⟩ := zeroOf_spec hzs
  obtain ⟨i', hi', hsz'⟩ := info_of_szOf hsz
  rw [hi] at hi'
  cases hi'
  have hrefs := elems_refs hes
  obtain ⟨S1, hF⟩ := S.freeze (xs.flatMap fun x => (Opd.ev σ.t x).refs)
  have hown := own_F S hrefs
  have hpl : parts.toList.length = n := by rw [← cElems_length hp]; exact hn
  obtain ⟨r1, r2, cur', r3, r4, _, r6⟩ := elems_fill S hsz hF parts.toList 0 xs (madeCells z.cells (n * sz)) es hp hes hown (by rw [Nat.zero_add, hpl]; simp [madeCells])
  have hrun := run_buildSlice (P := C.P) (w := w) (t := t) (n := n) (parts := parts.map fun x => (x.1, a.eval x.2)) (elOf_und ht) hi hzz hsz' h0 hlim (by simpa using r3)
  have hlen : es.length = n := by rw [r1, hpl]
  have hbn : b ∉ xs.flatMap fun x => (Opd.ev σ.t x).refs := by
    intro hb'
    obtain ⟨e, sz, m, es, hh⟩ := hrefs b hb'
    rw [(S.fresh b hb).1] at hh
    cases hh
  generalize hids : (xs.flatMap fun x => (Opd.ev σ.t x).refs) = ids at *
  obtain ⟨hF2, hg2⟩ := alloc_mono S1 b hb cur' et (.sl et sz true es)
  have SA : Sat C U' ⟨σ.t, upd (updL σ.h (frz σ.h ids)) b (.sl et sz true es), σ.nx⟩ a (w.alloc (.cells cur' et)) (upd ι b (some w.heap.size)) := by
    refine S1.alloc b hb hU' _ et _ ⟨by simp, by simp⟩ ?_
    refine .sl w.heap.size et sz true es cur' n h0 (upd_same _ _ _) (heap_alloc_new _ _) (by rw [r4]; simp [madeCells]) (by omega) ?_ r2 (fun p q x d hx hd' => ?_)
    · have : n * 1 ≤ n * sz := Nat.mul_le_mul_left _ h0
      simp [maxLen]
      omega
    · obtain ⟨v, h1, h2⟩ := r6 p q x d hx hd'
      rw [Nat.zero_add] at h1
      exact ⟨v, h1, h2.mono hF2⟩
  refine op_done (σ := σ) hd (v := .slice (some ⟨w.heap.size, 0, none⟩) n n) (w' := w.alloc (.cells cur' et)) (ι' := upd ι b (some w.heap.size)) (h' := upd (updL σ.h (frz σ.h ids)) b (.sl et sz true es)) ?_ SA ?_ ?_
  · simp only [execOp, ho, Sem.run_bind, hrun, Result.andThen_ok, Sem.run_pure]
  · rw [hlen]
    refine .r b 0 n w.heap.size 0 n et sz true es (upd_same _ _ _) (upd_same _ _ _) (by omega) (Nat.le_refl _) (fun _ => by simp) (fun _ => ⟨rfl, ?_⟩)
    unfold World.shape?
    rw [heap_alloc_new]
    simp [r4, madeCells]
  · funext k
    simp only [updL]
    rw [frz_get]
    by_cases hk : k = b
    · subst hk
      rw [if_neg hbn, upd_same, upd_same]
    · rw [upd_ne _ _ _ _ hk, upd_ne _ _ _ _ hk, frz_get]

end
end Go.Proofs.Ytephkbajoofeoaa.Am
