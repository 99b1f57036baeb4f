/-
  A FUNCTION's CONTRACT, OUT OF WHAT THE ABSTRACT MACHINE SAYS OF ITS CODE.
-/
import Derived.Test.YtpnblnkggeopkaaAmQ
namespace Go.Proofs.Ytpnblnkggeopkaa.Am
set_option linter.unusedSimpArgs false
set_option linter.unusedVariables false
open Go Go.RowKit

theorem VR.lift {w : World} {F F' : Nat → Prop} (hF : ∀ b, F b → F' b) {ι : Nat → Option Nat} {h : Nat → Blk} {v : Value} {x : AV} (hx : x.dat = true) (hv : VR w F noι noh v x) : VR w F' ι h v x := by
  cases x with
  | c d => exact hv.data hF
  | a cs =>
    cases hv with
    | a vs _ hl h1 hv =>
      refine .a vs cs hl h1 (fun k v x hk hxk => ?_)
      have := List.all_eq_true.1 hx x (List.mem_of_getElem? hxk)
      cases x with
      | c d => exact (hv k v _ hk hxk).data hF
      | _ => simp at this
  | _ => simp [AV.dat] at hx

theorem args_lay {w : World} {F0 : Nat → Prop} {vs : List Value} {xs : List AV} {lb : List Nat} (hA : Args w F0 vs xs lb) :
    lb.Nodup ∧ lb.length = (layB xs).length ∧ vs.length = xs.length ∧ (layS xs 0).length = xs.length ∧
    (∀ (i b : Nat) (cs : List AV), lb[i]? = some b → (layB xs)[i]? = some cs → cs.all isC = true ∧ ∃ e vals, w.heap[b]? = some (.cells vals e (0, 0)) ∧ DR w F0 vals cs) ∧
    ∀ (n : Nat) (F : Nat → Prop) (ι : Nat → Option Nat) (h : Nat → Blk), (∀ b, F0 b → F b) → (∀ i b, lb[i]? = some b → ι (n + i) = some b) → (∀ i cs, (layB xs)[i]? = some cs → h (n + i) = .box cs) →
      ∀ (k : Nat) (v : Value), vs[k]? = some v → VR w F ι h v (((layS xs n)[k]?).getD .u) := by
  have hlen : ∀ (xs : List AV) (n : Nat), (layS xs n).length = xs.length := by
    intro xs
    induction xs with
    | nil => intro n; rfl
    | cons x xs ih => intro n; cases x <;> simp [layS, ih]
  induction hA with
  | nil => exact ⟨List.nodup_nil, rfl, rfl, rfl, by simp, by simp⟩
  | dat v x vs xs lb hv hr hx ih =>
    obtain ⟨h1, h2, h3, h4, h5, h6⟩ := ih
    have hB : layB (x :: xs) = layB xs := by cases x <;> simp [layB, AV.dat] at hx ⊢
    have hS : ∀ n, layS (x :: xs) n = x :: layS xs n := by intro n; cases x <;> simp [layS, AV.dat] at hx ⊢
    refine ⟨h1, by rw [hB]; exact h2, by simp [h3], hlen _ _, by rw [hB]; exact h5, fun n F ι h hF hι hh k u hk => ?_⟩
    rw [hS]
    cases k with
    | zero => simp at hk; subst hk; exact hv.lift hF hx
    | succ k => exact h6 n F ι h hF hι (by rw [hB] at hh; exact hh) k u (by simpa using hk)
  | box b e vals cs vs xs lb hb hd hc hn hr ih =>
    obtain ⟨h1, h2, h3, h4, h5, h6⟩ := ih
    refine ⟨List.nodup_cons.2 ⟨hn, h1⟩, by simp [layB, h2], by simp [h3], hlen _ _, fun i b' cs' hi hcs => ?_, fun n F ι h hF hι hh k u hk => ?_⟩
    · cases i with
      | zero => simp [layB] at hi hcs; subst hi; subst hcs; exact ⟨hc, e, vals, hb, hd⟩
      | succ i => exact h5 i b' cs' (by simpa using hi) (by simpa [layB] using hcs)
    · cases k with
      | zero =>
        simp at hk
        subst hk
        have g1 := hι 0 b rfl
        have g2 := hh 0 cs rfl
        simp only [Nat.add_zero] at g1 g2
        have : VR w F ι h (.pointer (some ⟨b, 0 * (h n).sz + 0, none⟩)) (.p n 0 0) := .p n 0 0 b g1 (by rw [g2]; simp) (by rw [g2]; simp)
        simpa [layS] using this
      | succ k =>
        simp only [layS]
        exact h6 (n + 1) F ι h hF (fun i b hi => by have := hι (i + 1) b (by simpa using hi); rwa [show n + (i + 1) = n + 1 + i by omega] at this) (fun i cs hi => by have := hh (i + 1) cs (by simpa [layB] using hi); rwa [show n + (i + 1) = n + 1 + i by omega] at this) k u (by simpa using hk)

/-- A function begins as is said. -/
theorem start_sat {P : Program} {w : World} {F0 : Nat → Prop} {vs : Array Value} {xs : List AV} {lb : List Nat} (hA : Args w F0 vs.toList xs lb) (hF : ∀ b, F0 b → b < w.heap.size ∧ b ∉ lb) {N : Nat} (hN : xs.length ≤ N) :
    SatE { P := P, w0 := w, F0 := F0, X := fun b => b ∈ lb, L := fun i => lb[i]?, N := N } (start xs) { tmps := vs ++ Array.replicate (N - vs.size) undef, defers := [] } w := by
  obtain ⟨h1, h2, h3, h4, h5, h6⟩ := args_lay hA
  have hh : ∀ (i : Nat) (cs : List AV), (layB xs)[i]? = some cs → (start xs).h i = .box cs := fun i cs hi => by simp [start, hi]
  have hh' : ∀ i, (layB xs)[i]? = none → (start xs).h i = .none := fun i hi => by simp [start, hi]
  have hex : ∀ (i b : Nat), lb[i]? = some b → ∃ cs, (layB xs)[i]? = some cs := fun i b hi => by
    have : i < lb.length := (List.getElem?_eq_some_iff.1 hi).1
    exact ⟨(layB xs)[i]'(by omega), List.getElem?_eq_getElem (by omega)⟩
  have hFz : ∀ b, F0 b → Fz { P := P, w0 := w, F0 := F0, X := fun b => b ∈ lb, L := fun i => lb[i]?, N := N } w (fun i => lb[i]?) (start xs).h b := fun b hb => ⟨(hF b hb).1, .inl hb, fun id hid => absurd (List.mem_of_getElem? hid) (hF b hb).2⟩
  refine ⟨fun i => lb[i]?, ⟨rfl, rfl, rfl, Nat.le_refl _, fun _ _ _ => rfl⟩, fun s => ?_, ?_, rfl, fun id => ?_, fun i j b hi hj => ?_, fun i b hi => ?_, fun i hi => ?_, fun i b hi => ?_, fun i b hi => ?_⟩
  · show VR _ _ _ _ _ (((layS xs 0)[s]?).getD .u)
    rcases Nat.lt_or_ge s vs.size with hs | hs
    · have := h6 0 (Fz { P := P, w0 := w, F0 := F0, X := fun b => b ∈ lb, L := fun i => lb[i]?, N := N } w (fun i => lb[i]?) (start xs).h) (fun i => lb[i]?) (start xs).h hFz (fun i b hi => by simpa using hi) (fun i cs hi => by simpa using hh i cs hi) s vs[s] (by simp [hs])
      rw [show (vs ++ Array.replicate (N - vs.size) undef).getD s undef = vs[s] by simp [Array.getD_eq_getD_getElem?, Array.getElem?_append, hs]]
      exact this
    · rw [List.getElem?_eq_none (by rw [h4]; simp at h3; omega)]
      exact .u _
  · simp at h3 ⊢; omega
  · cases hx : (layB xs)[id]? with
    | none => rw [hh' id hx]; exact .none
    | some cs =>
      rw [hh id cs hx]
      have hlt : id < lb.length := by have := (List.getElem?_eq_some_iff.1 hx).1; omega
      obtain ⟨hc, e, vals, hb, hd⟩ := h5 id lb[id] cs (by simp) hx
      refine .box lb[id] e vals cs (by simp) hb hd.size hd.one (fun k v x hk hxk => (hd.vr k v x hk hxk).lift hFz ?_)
      have := List.all_eq_true.1 hc x (List.mem_of_getElem? hxk)
      cases x <;> simp_all [isC, AV.dat]
  · have hi' := (List.getElem?_eq_some_iff.1 hi).1
    exact (List.getElem?_inj hi' h1).1 (hi.trans hj.symm)
  · obtain ⟨cs, hcs⟩ := hex i b hi
    obtain ⟨_, e, vals, hb, _⟩ := h5 i b cs hi hcs
    exact ⟨.inr ⟨List.mem_of_getElem? hi, cs, hh i cs hcs⟩, (Array.getElem?_eq_some_iff.1 hb).1⟩
  · have hi : (layB xs).length ≤ i := hi
    exact ⟨hh' i (List.getElem?_eq_none hi), List.getElem?_eq_none (by omega)⟩
  · obtain ⟨cs, hcs⟩ := hex i b hi
    rw [hh i cs hcs]; simp
  · obtain ⟨cs, hcs⟩ := hex i b hi
    exact ⟨hi, ⟨cs, hh i cs hcs⟩, rfl⟩

/-- What stands at the end is what the contract says. -/
theorem post_of_sat {P : Program} {w : World} {F0 : Nat → Prop} {lb : List Nat} {N n : Nat} (hn : n = lb.length) {U : Nat → Prop} {σ : St} {a : Act} {w' : World} {ι : Nat → Option Nat}
    (S : Sat { P := P, w0 := w, F0 := F0, X := fun b => b ∈ lb, L := fun i => lb[i]?, N := N } U σ a w' ι) {ids : List Nat} (hnd : ids.Nodup) (hids : ∀ id, id ∈ ids → n ≤ id) {x : AV} {r : Res} (hr : expRes n ids σ x = some r) {v : Value}
    (hv : VR w' (Fz { P := P, w0 := w, F0 := F0, X := fun b => b ∈ lb, L := fun i => lb[i]?, N := N } w' ι σ.h) ι σ.h v x) :
    Post w F0 lb r v w' (fun i => (ids[i]?).bind ι) := by
  unfold expRes at hr
  split at hr
  rotate_left
  · cases hr
  rename_i css hcss
  have hr := (Option.some.inj hr).symm
  subst hr
  obtain ⟨hl, hbx⟩ := bxGet_get hcss
  have hrh : ∀ i id, ids[i]? = some id → Res.h ⟨x.rn ids, ids.map fun id => (σ.h id).rn ids, css, true⟩ i = (σ.h id).rn ids := fun i id hi => by simp [Res.h, hi]
  have hown : ∀ i id, ids[i]? = some id → (Res.h ⟨x.rn ids, ids.map fun id => (σ.h id).rn ids, css, true⟩ i).own = (σ.h id).own := fun i id hi => by rw [hrh i id hi]; cases σ.h id <;> rfl
  have hbind : ∀ (i b : Nat), (ids[i]?).bind ι = some b → ∃ id, ids[i]? = some id ∧ ι id = some b := fun i b hi => by
    cases hx : ids[i]? with
    | none => rw [hx] at hi; cases hi
    | some id => rw [hx] at hi; exact ⟨id, rfl, hi⟩
  have hFz : ∀ b, Fz { P := P, w0 := w, F0 := F0, X := fun b => b ∈ lb, L := fun i => lb[i]?, N := N } w' ι σ.h b → FzC w w' F0 ⟨x.rn ids, ids.map fun id => (σ.h id).rn ids, css, true⟩ (fun i => (ids[i]?).bind ι) b := by
    intro b ⟨g1, g2, g3⟩
    refine ⟨g1, g2.imp (fun h => ⟨rfl, h⟩) (fun h => h), fun i hi => ?_⟩
    obtain ⟨id, h1, h2⟩ := hbind i b hi
    rw [hown i id h1]
    exact g3 id h2
  have hsame : ∀ (k b : Nat), lb[k]? = some b → w'.shape? b = w.shape? b := fun k b hk => (S.lent k b hk).2.2
  have hlentid : ∀ (k b : Nat), lb[k]? = some b → ι k = some b := fun k b hk => (S.lent k b hk).1
  refine ⟨S.fra.os, S.fra.tape, S.fra.output, S.fra.size, S.fra.block, hv.rn hFz hrh, fun i => ?_, fun i j b hi hj => ?_, fun i b hi => ?_, fun i b hi => ?_, hl.trans hn, fun k b cs hk hcs => ?_⟩
  · cases hx : ids[i]? with
    | none => simp only [Res.h, List.getElem?_map, hx, Option.map_none, Option.getD_none]; exact .none
    | some id =>
      rw [hrh i id hx]
      exact (S.blk id).rn hFz hrh hx
  · obtain ⟨id, h1, h2⟩ := hbind i b hi
    obtain ⟨id', h3, h4⟩ := hbind j b hj
    have := S.inj id id' b h2 h4
    subst this
    exact (List.getElem?_inj (List.getElem?_eq_some_iff.1 h1).1 hnd).1 (h1.trans h3.symm)
  · obtain ⟨id, h1, h2⟩ := hbind i b hi
    obtain ⟨h3, h4⟩ := S.rng id b h2
    refine ⟨?_, h4, by simpa using (List.getElem?_eq_some_iff.1 h1).1⟩
    rcases h3 with h3 | ⟨h3, _⟩
    · exact h3
    · exfalso
      obtain ⟨k, hk⟩ := List.getElem?_of_mem h3
      have := S.inj id k b h2 (hlentid k b hk)
      subst this
      have h5 := hids id (List.mem_of_getElem? h1)
      have := (List.getElem?_eq_some_iff.1 hk).1
      omega
  · obtain ⟨id, h1, h2⟩ := hbind i b hi
    rw [hrh i id h1]
    have := S.live id b h2
    cases hx : σ.h id <;> simp_all [Blk.rn]
  · obtain ⟨h1, h2⟩ := hbx k cs hcs
    simp only [Nat.zero_add] at h1
    refine ⟨h2, hsame k b hk, ?_⟩
    have hb := S.blk k
    rw [h1] at hb
    cases hb with
    | box b' e vals _ hi hb hl h3 hvr =>
      rw [hlentid k b hk] at hi
      cases hi
      refine ⟨e, vals, hb, hl, h3, fun j v y hj hy => ?_⟩
      have h4 := List.all_eq_true.1 h2 y (List.mem_of_getElem? hy)
      cases y with
      | c d => exact (hvr j v _ hj hy).data hFz
      | _ => simp [isC] at h4

/-- A CONTRACT: out of what the abstract machine says. -/
theorem con_of_awp {P : Program} {Γ : Tab} {f : FuncId} {fn : Func} {c : Code} {ac : ACode} {rs : List ARv} {xs : List AV} {r : Res} (hm : P.follows .mixedOrders = true) (hΓ : TabOk P Γ) (hf : P.funcs[f]? = some fn) (hb : fn.body = some c)
    (hc : comp P fn.ntmps c = some ac) (hrs : cRvs P fn.results.toList = some rs) (hN : xs.length ≤ fn.ntmps) (h : awp Γ ac (Ends (layB xs).length rs r) (start xs)) : Con P f xs r := by
  intro w F0 vs lb hA hF
  have hlb := (args_lay hA).2.1
  refine calls_of_wp hf hb ?_
  refine code_sound (C := { P := P, w0 := w, F0 := F0, X := fun b => b ∈ lb, L := fun i => lb[i]?, N := fn.ntmps }) hm hΓ c ac _ _ _ _ _ hc h (start_sat hA hF hN) ?_
  rintro e σ a w' ⟨ho, ids, ws, h1, h2, h3, h4⟩ ⟨ι, S⟩
  obtain ⟨v, h5, h6⟩ := results_sound S hrs h1
  have key : a.defers = [] ∧ ∃ v, (results fn a.tmps).run P w' = .ok v w' ∧ ∃ v1 ι, Ending.returned v = .returned v1 ∧ Post w F0 lb r v1 w' ι :=
    ⟨S.defers, v, h5, v, _, rfl, post_of_sat hlb.symm S h2 h3 h4 h6⟩
  cases e with
  | normal => exact key
  | ret => exact key
  | exit id => exact ho.elim

end Go.Proofs.Ytpnblnkggeopkaa.Am
