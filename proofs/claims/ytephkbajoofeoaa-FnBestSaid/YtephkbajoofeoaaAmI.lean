/-
  SOUNDNESS OF THE ABSTRACT MACHINE: appends.
-/
import Derived.Test.YtephkbajoofeoaaAmH
namespace Go.Proofs.Ytephkbajoofeoaa.Am
set_option linter.unusedSimpArgs false
set_option linter.unusedVariables false
open Go Go.RowKit

section
variable {C : Ctx} {U U' : Nat → Prop} {σ : St} {a : Act} {w w' : World} {ι : Nat → Option Nat}

/-- What stays when an own slice goes over into another one. -/
theorem moved_mono (S : Sat C U σ a w ι) {id b : Nat} (hb : U b) (hid : id = b ∨ (∃ e sz m es, σ.h id = .sl e sz m es) ∧ (σ.h id).own = true) (hsz : w.heap.size ≤ w'.heap.size)
    (hold : ∀ k, k < w.heap.size → ι id ≠ some k → w'.heap[k]? = w.heap[k]?) {g : Option Nat} (hg : ∀ k, g = some k → C.fr k ∧ k < w'.heap.size ∧ (w.heap.size ≤ k ∨ ι id = some k)) (B : Blk) :
    (∀ k, Fz C w ι σ.h k → Fz C w' (upd (upd ι id none) b g) (upd (upd σ.h id .dead) b B) k ∧ w'.heap[k]? = w.heap[k]?) ∧
    (∀ i, Goes w w' ι (upd (upd ι id none) b g) σ.h (upd (upd σ.h id .dead) b B) i) := by
  have hnot : ∀ k, Fz C w ι σ.h k → ι id ≠ some k := by
    intro k hk hik
    rcases hid with rfl | ⟨_, hown⟩
    · rw [(S.fresh _ hb).2] at hik; cases hik
    · have := hk.2.2 id hik
      rw [hown] at this
      cases this
  refine ⟨fun k hk => ⟨⟨by have := hk.1; omega, hk.2.1, fun i hik => ?_⟩, hold k hk.1 (hnot k hk)⟩, fun i => ?_⟩
  · by_cases h1 : i = b
    · subst h1
      rw [upd_same] at hik
      obtain ⟨_, _, h3⟩ := hg k hik
      rcases h3 with h3 | h3
      · have := hk.1; omega
      · exact absurd h3 (hnot k hk)
    · rw [upd_ne _ _ _ _ h1] at hik ⊢
      by_cases h2 : i = id
      · subst h2; rw [upd_same] at hik; cases hik
      · rw [upd_ne _ _ _ _ h2] at hik ⊢
        exact hk.2.2 i hik
  · unfold Goes
    by_cases h1 : i = b
    · subst h1; exact .inl (S.fresh i hb).1
    · rw [upd_ne _ _ _ _ h1, upd_ne _ _ _ _ h1]
      by_cases h2 : i = id
      · subst h2; right; left; rw [upd_same]
      · rw [upd_ne _ _ _ _ h2, upd_ne _ _ _ _ h2]
        have hsh : ∀ k, ι i = some k → w'.shape? k = w.shape? k := fun k hk => by
          unfold World.shape?
          rw [hold k (S.rng i k hk).2 (fun e => h2 (S.inj i id k hk e))]
        cases hx : σ.h i with
        | none => exact .inl rfl
        | dead => exact .inr (.inl rfl)
        | box cs => exact .inr (.inr ⟨rfl, rfl, hsh⟩)
        | sl e' sz m es => exact .inr (.inr ⟨rfl, ⟨rfl, rfl, rfl⟩, hsh⟩)

/-- An own slice goes over into another one. -/
theorem Sat.moved (S : Sat C U σ a w ι) {id b : Nat} (hb : U b) (hU' : ∀ i, U' i → U i ∧ i ≠ b) (hid : id = b ∨ (∃ e sz m es, σ.h id = .sl e sz m es) ∧ (σ.h id).own = true) (hfra : Fra C w') (hsz : w.heap.size ≤ w'.heap.size)
    (hold : ∀ k, k < w.heap.size → ι id ≠ some k → w'.heap[k]? = w.heap[k]?) {g : Option Nat} (hg : ∀ k, g = some k → C.fr k ∧ k < w'.heap.size ∧ (w.heap.size ≤ k ∨ ι id = some k)) {B : Blk} (hB : B ≠ .none ∧ B ≠ .dead)
    (hBR : BR w' (Fz C w' (upd (upd ι id none) b g) (upd (upd σ.h id .dead) b B)) (upd (upd ι id none) b g) (upd (upd σ.h id .dead) b B) b B) :
    Sat C U' ⟨σ.t, upd (upd σ.h id .dead) b B, σ.nx⟩ a w' (upd (upd ι id none) b g) := by
  obtain ⟨hF, hgo⟩ := moved_mono S hb hid hsz hold hg B
  refine S.evolve hfra hF hgo (fun i cs hx => by
    by_cases h : i = b
    · subst h; rw [upd_same]; exact hB.2
    · rw [upd_ne _ _ _ _ h]
      by_cases h2 : i = id
      · subst h2
        rcases hid with h3 | ⟨⟨e, sz, m, es, h3⟩, _⟩
        · exact absurd h3 h
        · rw [hx] at h3; cases h3
      · rw [upd_ne _ _ _ _ h2, hx]; simp) (fun i => ?_) (fun i j k hi hj => ?_) (fun i k hi => ?_) (fun i hi => ?_) (fun i k hi => ?_)
  · by_cases h1 : i = b
    · subst h1; right; rw [upd_same]; exact hBR
    · by_cases h2 : i = id
      · subst h2; right; rw [upd_ne _ _ _ _ h1, upd_same]; exact .dead
      · left
        refine ⟨by rw [upd_ne _ _ _ _ h1, upd_ne _ _ _ _ h2], by rw [upd_ne _ _ _ _ h1, upd_ne _ _ _ _ h2], fun k hk => hold k (S.rng i k hk).2 (fun e => h2 (S.inj i id k hk e))⟩
  · have key : ∀ i k, i ≠ b → upd (upd ι id none) b g i = some k → i ≠ id ∧ ι i = some k := by
      intro i k h1 hi
      rw [upd_ne _ _ _ _ h1] at hi
      by_cases h2 : i = id
      · subst h2; rw [upd_same] at hi; cases hi
      · rw [upd_ne _ _ _ _ h2] at hi; exact ⟨h2, hi⟩
    have clash : ∀ i k, i ≠ b → upd (upd ι id none) b g i = some k → g ≠ some k := by
      intro i k h1 hi hgk
      obtain ⟨h2, h3⟩ := key i k h1 hi
      obtain ⟨_, _, h4⟩ := hg k hgk
      rcases h4 with h4 | h4
      · have := (S.rng i k h3).2; omega
      · exact h2 (S.inj i id k h3 h4)
    by_cases h1 : i = b
    · by_cases h2 : j = b
      · rw [h1, h2]
      · subst h1
        rw [upd_same] at hi
        exact absurd hi (clash j k h2 hj)
    · by_cases h2 : j = b
      · subst h2
        rw [upd_same] at hj
        exact absurd hj (clash i k h1 hi)
      · exact S.inj i j k (key i k h1 hi).2 (key j k h2 hj).2
  · by_cases h1 : i = b
    · subst h1
      rw [upd_same] at hi
      obtain ⟨h2, h3, _⟩ := hg k hi
      exact ⟨.inl h2, h3⟩
    · rw [upd_ne _ _ _ _ h1] at hi ⊢
      by_cases h2 : i = id
      · subst h2; rw [upd_same] at hi; cases hi
      · rw [upd_ne _ _ _ _ h2] at hi ⊢
        obtain ⟨h3, h4⟩ := S.rng i k hi
        exact ⟨h3, by omega⟩
  · obtain ⟨h1, h2⟩ := hU' i hi
    have h3 := S.fresh i h1
    rw [upd_ne _ _ _ _ h2, upd_ne _ _ _ _ h2]
    have h4 : i ≠ id := by
      rintro rfl
      rcases hid with rfl | ⟨⟨e, sz, m, es, hh⟩, _⟩
      · exact h2 rfl
      · rw [h3.1] at hh; cases hh
    rw [upd_ne _ _ _ _ h4, upd_ne _ _ _ _ h4]
    exact h3
  · by_cases h1 : i = b
    · subst h1; rw [upd_same]; exact hB
    · rw [upd_ne _ _ _ _ h1] at hi ⊢
      by_cases h2 : i = id
      · subst h2; rw [upd_same] at hi; cases hi
      · rw [upd_ne _ _ _ _ h2] at hi ⊢
        exact S.live i k hi

/-- What is appended, cell by cell. -/
structure Src (w : World) (F : Nat → Prop) (sz : Nat) (u : Value) (xs : List (List D)) (news : List Value) : Prop where
  len : news.length = xs.length * sz
  val : (u = .slice none 0 0 ∧ xs = []) ∨ ∃ ad cap, u = .slice (some ad) xs.length cap ∧ ∀ j v, news[j]? = some v → w.cell? (ad.add j) = some v
  one : ∀ v, v ∈ news → v.oneCell' = true
  esz : ∀ e, e ∈ xs → e.length = sz
  rd : ∀ (p q : Nat) (el : List D) (d : D), xs[p]? = some el → el[q]? = some d → ∃ v, news[p * sz + q]? = some v ∧ Rd w F v d

theorem divmod {p q sz : Nat} (hq : q < sz) : (p * sz + q) / sz = p ∧ (p * sz + q) % sz = q := by
  have h : 0 < sz := by omega
  rw [Nat.mul_comm]
  constructor
  · rw [Nat.mul_add_div h, Nat.div_eq_of_lt hq, Nat.add_zero]
  · rw [Nat.mul_add_mod, Nat.mod_eq_of_lt hq]

theorem els_src (S : Sat C U σ a w ι) {u : Value} {x : AV} {sz : Nat} {xs : List (List D)} (h0 : 0 < sz) (hv : VR w (Fz C w ι σ.h) ι σ.h u x) (hx : x.els σ.h sz = some xs) :
    ∃ news, Src w (Fz C w ι σ.h) sz u xs news := by
  cases hv with
  | u => simp [AV.els] at hx
  | c v d hr =>
    cases hr with
    | v => simp [AV.els] at hx
    | nil sz' =>
      simp only [AV.els] at hx
      split at hx
      · cases hx; exact ⟨[], by simp, .inl ⟨rfl, rfl⟩, by simp, by simp, by simp⟩
      · cases hx
    | emp ad cap sz' =>
      simp only [AV.els] at hx
      split at hx
      · cases hx; exact ⟨[], by simp, .inr ⟨ad, cap, rfl, by simp⟩, by simp, by simp, by simp⟩
      · cases hx
    | sl bk of len cap sz' es xv hlen hcap hml hszs hb hc hr =>
      simp only [AV.els] at hx
      split at hx
      · rename_i hs
        simp only [Option.some.injEq] at hx
        subst hx
        subst hs
        subst hlen
        have hat : ∀ k, k < es.length * sz' → ∃ el d, es[k / sz']? = some el ∧ el[k % sz']? = some d := by
          intro k hk
          have h1 : k / sz' < es.length := Nat.div_lt_of_lt_mul (by rw [Nat.mul_comm]; exact hk)
          have h2 : k % sz' < es[k / sz'].length := by rw [hszs _ (List.getElem_mem h1)]; exact Nat.mod_lt _ h0
          exact ⟨es[k / sz'], _, List.getElem?_eq_getElem h1, List.getElem?_eq_getElem h2⟩
        have hg : ∀ k v, ((List.range (es.length * sz')).map fun k => xv (k / sz') (k % sz'))[k]? = some v → k < es.length * sz' ∧ v = xv (k / sz') (k % sz') := by
          intro k v hk
          have hlt := (List.getElem?_eq_some_iff.1 hk).1
          simp only [List.length_map, List.length_range] at hlt
          rw [List.getElem?_map, List.getElem?_range hlt] at hk
          simp at hk
          exact ⟨hlt, hk.symm⟩
        refine ⟨(List.range (es.length * sz')).map fun k => xv (k / sz') (k % sz'), by simp, .inr ⟨_, cap, rfl, fun j v hj => ?_⟩, fun v hv => ?_, hszs, fun p q el d hp hq => ?_⟩
        · obtain ⟨hlt, rfl⟩ := hg j v hj
          obtain ⟨el, d, h1, h2⟩ := hat j hlt
          rw [add_addr]
          have := hc _ _ el d h1 h2
          rw [show of + j / sz' * sz' + j % sz' = of + j by have := Nat.div_add_mod' j sz'; omega] at this
          exact this
        · obtain ⟨k, hk, he⟩ := List.getElem_of_mem hv
          obtain ⟨hlt, rfl⟩ := hg k v (by rw [← he]; exact List.getElem?_eq_getElem hk)
          obtain ⟨el, d, h1, h2⟩ := hat k hlt
          exact (hr _ _ el d h1 h2).one
        · have hqs : q < sz' := by rw [← hszs el (List.mem_of_getElem? hp)]; exact (List.getElem?_eq_some_iff.1 hq).1
          have hpl := (List.getElem?_eq_some_iff.1 hp).1
          have hlt : p * sz' + q < es.length * sz' := by
            have : (p + 1) * sz' ≤ es.length * sz' := Nat.mul_le_mul_right _ hpl
            rw [Nat.add_mul] at this
            omega
          obtain ⟨e1, e2⟩ := divmod (p := p) hqs
          refine ⟨xv p q, ?_, hr p q el d hp hq⟩
          rw [List.getElem?_map, List.getElem?_range hlt]
          simp [e1, e2]
      · cases hx
  | n => simp only [AV.els, Option.some.injEq] at hx; subst hx; exact ⟨[], by simp, .inl ⟨rfl, rfl⟩, by simp, by simp, by simp⟩
  | rdead _ _ _ _ _ _ hdd => simp [AV.els, hdd] at hx
  | rnil id e sz' m hi hh =>
    simp only [AV.els, hh] at hx
    split at hx
    · cases hx; exact ⟨[], by simp, .inl ⟨rfl, rfl⟩, by simp, by simp, by simp⟩
    · cases hx
  | r id off len bk ao cap et sz' m es hi hh hlen hcap hao htip =>
    simp only [AV.els, hh] at hx
    split at hx
    rotate_left
    · cases hx
    rename_i hs
    subst hs
    cases hx
    have hblk := S.blk id
    rw [hh] at hblk
    have hwl : ((es.drop off).take len).length = len := by simp; omega
    have hwg : ∀ (i : Nat) (el : List D), ((es.drop off).take len)[i]? = some el → i < len ∧ es[off + i]? = some el := by
      intro i el hel
      have hi := (List.getElem?_eq_some_iff.1 hel).1
      rw [List.getElem?_take, if_pos (by omega), List.getElem?_drop] at hel
      exact ⟨by omega, hel⟩
    cases hblk with
    | slnil => simp at hlen; have : len = 0 := by omega
               subst this
               exact ⟨[], by simp, .inr ⟨_, cap, by simp; rfl, by simp⟩, by simp, by simp, by simp⟩
    | sl bk' _ _ _ _ cur Cc hz hi' hbk hC hle hC2 hsz hvr =>
      rw [hi] at hi'; cases hi'
      have hbnd : off * sz' + len * sz' ≤ cur.size := by
        rw [hC, ← Nat.add_mul]
        exact Nat.mul_le_mul_right _ (by omega)
      have hg : ∀ k, k < len * sz' → ((cur.toList.drop (off * sz')).take (len * sz'))[k]? = cur[off * sz' + k]? := fun k hk => by rw [List.getElem?_take, if_pos hk, List.getElem?_drop]; simp
      have hnl : ((cur.toList.drop (off * sz')).take (len * sz')).length = len * sz' := by simp; omega
      refine ⟨(cur.toList.drop (off * sz')).take (len * sz'), by rw [hnl, hwl], .inr ⟨_, cap, by rw [hwl], fun j v hj => ?_⟩, fun v hv => ?_, fun el hel => hsz el (List.mem_of_mem_drop (List.mem_of_mem_take hel)), fun p q el d hp hq => ?_⟩
      · have hjl : j < len * sz' := by rw [← hnl]; exact (List.getElem?_eq_some_iff.1 hj).1
        rw [hg j hjl] at hj
        have : len ≠ 0 := by rintro rfl; simp at hjl
        rw [add_addr, hao this]
        exact cell_of hbk hj
      · obtain ⟨k, hk, he⟩ := List.getElem_of_mem hv
        rw [hnl] at hk
        have hk2 := hg k hk
        rw [List.getElem?_eq_getElem (by rw [hnl]; exact hk), he] at hk2
        have h1 : k / sz' < len := Nat.div_lt_of_lt_mul (by rw [Nat.mul_comm]; exact hk)
        have h1' : off + k / sz' < es.length := by omega
        have h2 : k % sz' < es[off + k / sz'].length := by rw [hsz _ (List.getElem_mem h1')]; exact Nat.mod_lt _ h0
        obtain ⟨v', h3, h4⟩ := hvr _ _ _ _ (List.getElem?_eq_getElem h1') (List.getElem?_eq_getElem h2)
        rw [show (off + k / sz') * sz' + k % sz' = off * sz' + k by rw [Nat.add_mul]; have := Nat.div_add_mod' k sz'; omega, ← hk2] at h3
        cases h3
        exact h4.one
      · obtain ⟨h3, h4⟩ := hwg p el hp
        obtain ⟨v, h5, h6⟩ := hvr _ q el d h4 hq
        have hqs : q < sz' := by rw [← hsz el (List.mem_of_getElem? h4)]; exact (List.getElem?_eq_some_iff.1 hq).1
        refine ⟨v, ?_, h6⟩
        have hlt : p * sz' + q < len * sz' := by
          have : (p + 1) * sz' ≤ len * sz' := Nat.mul_le_mul_right _ h3
          rw [Nat.add_mul] at this
          omega
        rw [hg _ hlt, ← h5, Nat.add_mul]
        congr 1
        omega
  | pdead => simp [AV.els] at hx
  | p => simp [AV.els] at hx
  | q => simp [AV.els] at hx
  | a => simp [AV.els] at hx
  | t => simp [AV.els] at hx

/-- What an own slice holds behind an append. -/
theorem app_content {w' : World} {F F' : Nat → Prop} (hF : ∀ b, F b → F' b ∧ w'.heap[b]? = w.heap[b]?) {sz len : Nat} {es xs : List (List D)} {cur new : Array Value} {news : List Value} {u : Value} (hlen : len ≤ es.length)
    (hes : ∀ (p q : Nat) (el : List D) (d : D), es[p]? = some el → el[q]? = some d → ∃ v, cur[p * sz + q]? = some v ∧ Rd w F v d) (hsz : ∀ e, e ∈ es → e.length = sz) (src : Src w F sz u xs news)
    (h1 : ∀ k, k < len * sz → new[k]? = cur[k]?) (h2 : ∀ k, k < xs.length * sz → new[len * sz + k]? = news[k]?) :
    (∀ e, e ∈ es.take len ++ xs → e.length = sz) ∧ ∀ (p q : Nat) (el : List D) (d : D), (es.take len ++ xs)[p]? = some el → el[q]? = some d → ∃ v, new[p * sz + q]? = some v ∧ Rd w' F' v d := by
  refine ⟨fun e he => ?_, fun p q el d hp hq => ?_⟩
  · rcases List.mem_append.1 he with he | he
    · exact hsz e (List.mem_of_mem_take he)
    · exact src.esz e he
  · rw [List.getElem?_append, List.length_take, Nat.min_eq_left hlen] at hp
    split at hp
    · rename_i hlt
      rw [List.getElem?_take, if_pos hlt] at hp
      have hqs : q < sz := by rw [← hsz el (List.mem_of_getElem? hp)]; exact (List.getElem?_eq_some_iff.1 hq).1
      obtain ⟨v, h3, h4⟩ := hes p q el d hp hq
      have : (p + 1) * sz ≤ len * sz := Nat.mul_le_mul_right _ hlt
      rw [Nat.add_mul] at this
      exact ⟨v, by rw [h1 _ (by omega)]; exact h3, h4.mono hF⟩
    · rename_i hge
      have hqs : q < sz := by rw [← src.esz el (List.mem_of_getElem? hp)]; exact (List.getElem?_eq_some_iff.1 hq).1
      have hpl := (List.getElem?_eq_some_iff.1 hp).1
      obtain ⟨v, h3, h4⟩ := src.rd (p - len) q el d hp hq
      have h5 : (p - len + 1) * sz ≤ xs.length * sz := Nat.mul_le_mul_right _ hpl
      have h6 : p * sz = len * sz + (p - len) * sz := by rw [← Nat.add_mul]; congr 1; omega
      rw [Nat.add_mul] at h5
      refine ⟨v, ?_, h4.mono hF⟩
      rw [h6, Nat.add_assoc, h2 _ (by omega)]
      exact h3

theorem run_app_nilsrc {P : Program} {w : World} {t ty et sz n cap : Nat} {base : Option Addr} (ht : P.underlying t = some (.slice et)) (hsz : szOf P et = some sz) (hc : n ≤ cap) :
    (Builtin.append_ #[t, t] ty #[.slice base n cap, .slice none 0 0]).run P w = .ok (.slice base n cap) w := by
  have hr := fun w => run_sizeOf hsz w
  cases base <;> simp [Builtin.append_, run_underlying ht, hr, Builtin.lenOf, Builtin.firstCells, hc, storeCells]

theorem run_app_nilnil {P : Program} {w : World} {t ty et sz cap : Nat} {ad : Addr} (ht : P.underlying t = some (.slice et)) (hsz : szOf P et = some sz) :
    (Builtin.append_ #[t, t] ty #[.slice none 0 0, .slice (some ad) 0 cap]).run P w = .ok (.slice none 0 0) w := by
  have hr := fun w => run_sizeOf hsz w
  simp [Builtin.append_, run_underlying ht, hr, Builtin.lenOf, Builtin.firstCells, loadCells, loadCellsFrom]

end

section
variable {C : Ctx} {U U' : Nat → Prop} {σ : St} {a : Act} {w : World} {ι : Nat → Option Nat} {o : Oper} {Q : Exit → Act → World → Prop} {Γ : Tab} {b : Nat} {e : Eff}
variable (S : Sat C U σ a w ι) (hd : ∀ d, o.dst = some d → d < C.N) (hb : U b) (hU' : ∀ i, U' i → U i ∧ i ≠ b)
include S hd hb hU'

/-- Appended to nothing ('id': the number that stood for it, or the new one itself). -/
theorem app_nil {s x : Operand} {t et sz : Nat} {i : TypeInfo} {z : Value} (ho : o.op = .call { callee := .builtin .append, args := #[s, x], argTypes := #[t, t] }) (ht : C.P.underlying t = some (.slice et)) (hi : C.P.info? et = some i) (hz : i.zero = some z)
    (hsz : i.size = sz) (hzs : z.cells.size = sz) (hby : i.bytes ≤ 32768) (h0 : 0 < sz) {id : Nat} (hid : id = b ∨ (∃ e sz m es, σ.h id = .sl e sz m es) ∧ (σ.h id).own = true) (hιn : ι id = none) (hs : a.eval s = .slice none 0 0)
    {xs : List (List D)} {news : List Value} (src : Src w (Fz C w ι σ.h) sz (a.eval x) xs news) (hlim : xs.length ≤ big) {bl : List (Nat × Blk)} (hbl : updL σ.h bl = upd (upd σ.h id .dead) b (.sl et sz true xs)) :
    o.wp C.P a w (fun a' w' => SatU C U' (σ.app o.dst ⟨.r sz b 0 xs.length, bl⟩) a' w') Q := by
  have hlim' : xs.length ≤ 4294967296 := hlim
  by_cases hx0 : xs = []
  · subst hx0
    have hold : ∀ k, k < w.heap.size → ι id ≠ some k → w.heap[k]? = w.heap[k]? := fun _ _ _ => rfl
    have SA := S.moved hb hU' hid S.fra (Nat.le_refl _) hold (g := none) (by simp) (B := .sl et sz true []) ⟨by simp, by simp⟩ (.slnil et sz true h0 (upd_same _ _ _))
    refine op_done (σ := σ) hd (v := .slice none 0 0) ?_ SA (.rnil b et sz true (upd_same _ _ _) (upd_same _ _ _)) hbl
    rcases src.val with ⟨h1, _⟩ | ⟨ad, cap, h1, _⟩
    · have := run_app_nilsrc (P := C.P) (w := w) (ty := o.type) (base := none) (n := 0) (cap := 0) (sz := sz) ht (by unfold szOf; rw [hi]; simp [hsz]) (Nat.le_refl 0)
      simp [execOp, ho, resolve, invoke, builtin, hs, h1, this]
    · have := run_app_nilnil (P := C.P) (w := w) (ty := o.type) (ad := ad) (cap := cap) (sz := sz) ht (by unfold szOf; rw [hi]; simpa using hsz)
      simp only [List.length_nil] at h1
      simp [execOp, ho, resolve, invoke, builtin, hs, h1, this]
  · rcases src.val with ⟨_, h1⟩ | ⟨ad, cap, h1, hcell⟩
    · exact absurd h1 hx0
    · have hpos : 0 < xs.length := List.length_pos_iff.2 hx0
      have hnl : news.length = xs.length * i.size := by rw [src.len, hsz]
      have hbytes : xs.length * i.bytes ≤ 281474976710656 := by
        have := Nat.mul_le_mul hlim' hby
        omega
      have hrun := run_append_nil (P := C.P) w t o.type et i z ht hi hz ad xs.length cap news hnl hcell hpos (by omega) hbytes
      have hge := grownCap_ge w xs.length 0 et
      have hle := grownCap_le_maxLen w xs.length 0 et (by simp [maxLen]; omega)
      generalize grownCap w xs.length 0 et = G at *
      have hold : ∀ k, k < w.heap.size → ι id ≠ some k → (w.drew.alloc (.cells (news.toArray ++ Builtin.zeroCells z.cells (G - xs.length)) et)).heap[k]? = w.heap[k]? := fun k hk _ => Below.heap_alloc w.drew _ k hk
      have hfra : Fra C (w.drew.alloc (.cells (news.toArray ++ Builtin.zeroCells z.cells (G - xs.length)) et)) := by
        have : Fra C w.drew := ⟨S.fra.os, S.fra.tape, S.fra.output, S.fra.size, S.fra.block⟩
        exact this.alloc _
      have hg : ∀ k, some w.heap.size = some k → C.fr k ∧ k < (w.drew.alloc (.cells (news.toArray ++ Builtin.zeroCells z.cells (G - xs.length)) et)).heap.size ∧ (w.heap.size ≤ k ∨ ι id = some k) := by
        intro k hk; cases hk; exact ⟨.inl S.fra.size, by simp, .inl (Nat.le_refl _)⟩
      obtain ⟨hF, hgo⟩ := moved_mono (w' := w.drew.alloc (.cells (news.toArray ++ Builtin.zeroCells z.cells (G - xs.length)) et)) S hb hid (by simp) hold (g := some w.heap.size) hg (.sl et sz true xs)
      have hsize : (news.toArray ++ Builtin.zeroCells z.cells (G - xs.length)).size = G * sz := by
        rw [Array.size_append, size_zeroCells, hzs]
        simp only [List.size_toArray, src.len]
        rw [← Nat.add_mul]
        congr 1
        omega
      have hnew : ∀ k, k < xs.length * sz → (news.toArray ++ Builtin.zeroCells z.cells (G - xs.length))[0 * sz + k]? = news[k]? := by
        intro k hk
        rw [Nat.zero_mul, Nat.zero_add, Array.getElem?_append_left (by simpa [src.len] using hk)]
        simp
      obtain ⟨c1, c2⟩ := app_content (w' := w.drew.alloc (.cells (news.toArray ++ Builtin.zeroCells z.cells (G - xs.length)) et)) hF (sz := sz) (len := 0) (es := []) (cur := #[]) (Nat.zero_le _) (by simp) (by simp) src (by simp) hnew
      have SA := S.moved hb hU' hid hfra (by simp) hold hg (B := .sl et sz true xs) ⟨by simp, by simp⟩
        (.sl w.heap.size et sz true xs _ G h0 (upd_same _ _ _) (heap_alloc_new w.drew _) hsize (by omega) hle (by simpa using c1) (by simpa using c2))
      refine op_done (σ := σ) hd ?_ SA (.r b 0 xs.length w.heap.size 0 G et sz true xs (upd_same _ _ _) (upd_same _ _ _) (by omega) (by omega) (fun _ => by simp) (fun _ => ⟨rfl, ?_⟩)) hbl
      · simp [execOp, ho, resolve, invoke, builtin, hs, h1, hrun]
      · unfold World.shape?
        rw [show (w.drew.alloc (.cells (news.toArray ++ Builtin.zeroCells z.cells (G - xs.length)) et)).heap[w.heap.size]? = some (.cells (news.toArray ++ Builtin.zeroCells z.cells (G - xs.length)) et) from heap_alloc_new w.drew _]
        simp [hsize]

/-- Appended to an own slice. -/
theorem app_own {s x : Operand} {t et sz : Nat} {i : TypeInfo} {z : Value} (ho : o.op = .call { callee := .builtin .append, args := #[s, x], argTypes := #[t, t] }) (ht : C.P.underlying t = some (.slice et)) (hi : C.P.info? et = some i) (hz : i.zero = some z)
    (hsz : i.size = sz) (hzs : z.cells.size = sz) (hby : i.bytes ≤ 32768) (h0 : 0 < sz) {id bk cap len : Nat} {es : List (List D)} {cur : Array Value} (hh : σ.h id = .sl et sz true es) (hbk : ι id = some bk) (hs : a.eval s = .slice (some ⟨bk, 0, none⟩) len cap)
    (hheap : w.heap[bk]? = some (.cells cur et (0, 0))) (hC : cur.size = cap * sz) (hle : es.length ≤ cap) (hC2 : cap ≤ maxLen) (hszs : ∀ e, e ∈ es → e.length = sz)
    (hes : ∀ (p q : Nat) (el : List D) (d : D), es[p]? = some el → el[q]? = some d → ∃ v, cur[p * sz + q]? = some v ∧ Rd w (Fz C w ι σ.h) v d) (hlen : len ≤ es.length)
    {xs : List (List D)} {news : List Value} (src : Src w (Fz C w ι σ.h) sz (a.eval x) xs news) (hcond : len = es.length ∨ len + xs.length ≤ es.length) (hlim : len + xs.length ≤ big) {bl : List (Nat × Blk)} (hbl : updL σ.h bl = upd (upd σ.h id .dead) b (.sl et sz true (es.take len ++ xs))) :
    o.wp C.P a w (fun a' w' => SatU C U' (σ.app o.dst ⟨.r sz b 0 (len + xs.length), bl⟩) a' w') Q := by
  have hlim' : len + xs.length ≤ 4294967296 := hlim
  have hid : id = b ∨ (∃ e sz m es, σ.h id = .sl e sz m es) ∧ (σ.h id).own = true := .inr ⟨⟨_, _, _, _, hh⟩, by rw [hh]; rfl⟩
  have hrng := S.rng id bk hbk
  have hB0 : C.fr bk := hrng.1.elim (fun h => h) fun ⟨_, cs, h⟩ => by rw [hh] at h; cases h
  have hl' : (es.take len ++ xs).length = len + xs.length := by simp; omega
  -- in place
  have place : ∀ new : Array Value, new.size = cur.size → (∀ k, k < len * sz → new[k]? = cur[k]?) → (∀ k, k < xs.length * sz → new[len * sz + k]? = news[k]?) → len + xs.length ≤ cap →
      (execOp a.eval o).run C.P w = .ok (.value (.slice (some ⟨bk, 0, none⟩) (len + xs.length) cap)) (w.setRow bk new) →
      o.wp C.P a w (fun a' w' => SatU C U' (σ.app o.dst ⟨.r sz b 0 (len + xs.length), bl⟩) a' w') Q := by
    intro new hns hn1 hn2 hcap hrun
    have hold : ∀ k, k < w.heap.size → ι id ≠ some k → (w.setRow bk new).heap[k]? = w.heap[k]? := fun k _ hk => setRow_other w bk k new (fun e => hk (by rw [hbk, e]))
    have hg : ∀ k, some bk = some k → C.fr k ∧ k < (w.setRow bk new).heap.size ∧ (w.heap.size ≤ k ∨ ι id = some k) := by
      intro k hk; cases hk; exact ⟨hB0, by simpa using hrng.2, .inr hbk⟩
    obtain ⟨hF, hgo⟩ := moved_mono (w' := w.setRow bk new) S hb hid (by simp) hold (g := some bk) hg (.sl et sz true (es.take len ++ xs))
    obtain ⟨c1, c2⟩ := app_content (w' := w.setRow bk new) hF hlen hes hszs src hn1 hn2
    have SA := S.moved hb hU' hid (S.fra.setRow hB0.fra new) (by simp) hold hg (B := .sl et sz true (es.take len ++ xs)) ⟨by simp, by simp⟩
      (.sl bk et sz true _ new cap h0 (upd_same _ _ _) (setRow_heap w bk cur new et (0, 0) hheap) (by omega) (by omega) hC2 c1 c2)
    refine op_done (σ := σ) hd hrun SA (.r b 0 (len + xs.length) bk 0 cap et sz true _ (upd_same _ _ _) (upd_same _ _ _) (by omega) hcap (fun _ => by simp) (fun _ => ⟨rfl, ?_⟩)) hbl
    unfold World.shape?
    rw [setRow_heap w bk cur new et (0, 0) hheap]
    simp [hns, hC]
  rcases src.val with ⟨h1, h2⟩ | ⟨ad, cx, h1, hcell⟩
  · subst h2
    refine place cur rfl (fun _ _ => rfl) (by simp) (by simp; omega) ?_
    have := run_app_nilsrc (P := C.P) (w := w) (ty := o.type) (base := some ⟨bk, 0, none⟩) (n := len) (cap := cap) (sz := sz) ht (by unfold szOf; rw [hi]; simpa using hsz) (by omega)
    rw [setRow_self w bk cur et (0, 0) hheap]
    simp [execOp, ho, resolve, invoke, builtin, hs, h1, this]
  · have hone : ∀ u, u ∈ news → u.oneCell' = true := src.one
    by_cases hroom : len + xs.length ≤ cap
    · have hfit : len * i.size + news.length ≤ cur.size := by
        rw [src.len, hsz, hC, ← Nat.add_mul]; exact Nat.mul_le_mul_right _ hroom
      have hrun := run_append_room (P := C.P) w t o.type et i ht hi bk len cap cur hheap ad xs.length cx news (by rw [src.len, hsz]) hcell hone hroom hfit
      rw [hsz] at hfit
      rw [hsz] at hrun
      have hspl := splice_get (l := cur.toList) (xs := news) (j := len * sz) (by simpa using hfit)
      have hspn : (splice cur.toList (len * sz) news).length = cur.toList.length := splice_length (by simpa using hfit)
      refine place (splice cur.toList (len * sz) news).toArray (by simpa using hspn) (fun k hk => ?_) (fun k hk => ?_) hroom ?_
      · rw [List.getElem?_toArray, hspl k, if_pos hk]; simp
      · rw [List.getElem?_toArray, hspl, if_neg (by omega), if_pos (by rw [src.len]; omega)]
        congr 1
        omega
      · unfold splice
        simp [execOp, ho, resolve, invoke, builtin, hs, h1, hrun]
    · have hle2 : len = es.length := by omega
      have holds : ∀ j v, (cur.toList.take (len * sz))[j]? = some v → w.cell? ((⟨bk, 0, none⟩ : Addr).add j) = some v := by
        intro j v hj
        rw [add_addr, Nat.zero_add]
        rw [List.getElem?_take] at hj
        split at hj
        · exact cell_of hheap (by simpa using hj)
        · cases hj
      have hlc : len * sz ≤ cur.size := by rw [hC]; exact Nat.mul_le_mul_right _ (by omega)
      have hol : (cur.toList.take (len * sz)).length = len * i.size := by rw [hsz]; simp; omega
      have hbytes : (len + xs.length) * i.bytes ≤ 140737488355328 := by
        have := Nat.mul_le_mul hlim' hby
        omega
      have hrun := run_append_grow (P := C.P) w t o.type et i z ht hi hz ⟨bk, 0, none⟩ len cap (cur.toList.take (len * sz)) hol holds ad xs.length cx news (by rw [src.len, hsz]) hcell (by omega) (by omega) (growslice_fits (by omega) hbytes)
      have hge := grownCap_ge w (len + xs.length) cap et
      have hle3 := grownCap_le_maxLen w (len + xs.length) cap et (by simp [maxLen]; omega)
      generalize grownCap w (len + xs.length) cap et = G at *
      generalize hnewd : ((cur.toList.take (len * sz)).toArray ++ news.toArray ++ Builtin.zeroCells z.cells (G - (len + xs.length))) = new at *
      have hns : new.size = G * sz := by
        rw [← hnewd, Array.size_append, Array.size_append, size_zeroCells, hzs]
        simp only [List.size_toArray, src.len, hol, hsz]
        rw [← Nat.add_mul, ← Nat.add_mul]
        congr 1
        omega
      have hol' : (cur.toList.take (len * sz)).length = len * sz := by rw [hol, hsz]
      have hn1 : ∀ k, k < len * sz → new[k]? = cur[k]? := by
        intro k hk
        rw [← hnewd, Array.append_assoc, Array.getElem?_append_left (by simpa [hol'] using hk), List.getElem?_toArray, List.getElem?_take, if_pos hk]
        simp
      have hn2 : ∀ k, k < xs.length * sz → new[len * sz + k]? = news[k]? := by
        intro k hk
        rw [← hnewd, Array.append_assoc, Array.getElem?_append_right (by simp [hol'])]
        rw [Array.getElem?_append_left (by simp [src.len, hol']; omega)]
        simp [hol']
      have hold : ∀ k, k < w.heap.size → ι id ≠ some k → (w.drew.alloc (.cells new et)).heap[k]? = w.heap[k]? := fun k hk _ => Below.heap_alloc w.drew _ k hk
      have hfra : Fra C (w.drew.alloc (.cells new et)) := by
        have : Fra C w.drew := ⟨S.fra.os, S.fra.tape, S.fra.output, S.fra.size, S.fra.block⟩
        exact this.alloc _
      have hg : ∀ k, some w.heap.size = some k → C.fr k ∧ k < (w.drew.alloc (.cells new et)).heap.size ∧ (w.heap.size ≤ k ∨ ι id = some k) := by
        intro k hk; cases hk; exact ⟨.inl S.fra.size, by simp, .inl (Nat.le_refl _)⟩
      obtain ⟨hF, hgo⟩ := moved_mono (w' := w.drew.alloc (.cells new et)) S hb hid (by simp) hold (g := some w.heap.size) hg (.sl et sz true (es.take len ++ xs))
      obtain ⟨c1, c2⟩ := app_content (w' := w.drew.alloc (.cells new et)) hF hlen hes hszs src hn1 hn2
      have SA := S.moved hb hU' hid hfra (by simp) hold hg (B := .sl et sz true (es.take len ++ xs)) ⟨by simp, by simp⟩
        (.sl w.heap.size et sz true _ new G h0 (upd_same _ _ _) (heap_alloc_new w.drew _) hns (by omega) hle3 c1 c2)
      refine op_done (σ := σ) hd ?_ SA (.r b 0 (len + xs.length) w.heap.size 0 G et sz true _ (upd_same _ _ _) (upd_same _ _ _) (by omega) (by omega) (fun _ => by simp) (fun _ => ⟨rfl, ?_⟩)) hbl
      · simp [execOp, ho, resolve, invoke, builtin, hs, h1, hrun]
      · unfold World.shape?
        rw [show (w.drew.alloc (.cells new et)).heap[w.heap.size]? = some (.cells new et) from heap_alloc_new w.drew _]
        simp [hns]

theorem s_app {s x : Operand} {s' x' : Opd} {t et sz : Nat} {i : TypeInfo} {t1 t2 : TypeId} (ho : o.op = .call { callee := .builtin .append, args := #[s, x], argTypes := #[t, t] }) (ht : elOf C.P t = some et) (hsz : szOf C.P et = some sz) (hi : C.P.info? et = some i) (h0 : 0 < sz)
    (hby : i.bytes ≤ 32768) (hz : (zeroOf C.P et).map (·.length) = some sz) (hs : cO C.P t1 s = some s') (hx : cO C.P t2 x = some x') (he : delta Γ (Opd.ev σ.t) σ.h b (.app s' x' et sz) = some e) :
    o.wp C.P a w (fun a' w' => SatU C U' (σ.app o.dst e) a' w') Q := by
  obtain ⟨zs, hzs, hzl⟩ := Option.map_eq_some_iff.1 hz
  obtain ⟨i', z, hi', hzz, hcr⟩ := zeroOf_spec hzs
  rw [hi] at hi'; cases hi'
  obtain ⟨i'', hi'', hsz'⟩ := info_of_szOf hsz
  rw [hi] at hi''; cases hi''
  have hzc : z.cells.size = sz := by rw [(hcr w (fun _ => True) ι σ.h).size]; exact hzl
  have h1 := cO_vr S hs
  simp only [delta] at he
  split at he
  rotate_left
  · cases he
  rename_i xs hxs
  obtain ⟨news, src⟩ := els_src S h0 (cO_vr S hx) hxs
  split at he
  · rename_i szn hv
    split at he
    rotate_left
    · cases he
    rename_i hlim
    cases he
    rw [hv] at h1
    have hae : a.eval s = .slice none 0 0 := by
      generalize a.eval s = av at h1
      cases h1; rfl
    refine app_nil S hd hb hU' ho (elOf_und ht) hi hzz hsz' hzc hby h0 (id := b) (.inl rfl) (S.fresh b hb).2 hae src hlim ?_
    funext k
    simp only [updL]
    by_cases hk : k = b
    · subst hk; rw [upd_same, upd_same]
    · rw [upd_ne _ _ _ _ hk, upd_ne _ _ _ _ hk, upd_ne _ _ _ _ hk]
  · rename_i szr id len hv
    split at he
    rotate_left
    · cases he
    rename_i et' sz' es hh
    split at he
    rotate_left
    · cases he
    rename_i hc
    obtain ⟨rfl, rfl, hcond, hlim⟩ := hc
    cases he
    rw [hv] at h1
    have hown : (∃ e sz m es, σ.h id = .sl e sz m es) ∧ (σ.h id).own = true := ⟨⟨_, _, _, _, hh⟩, by rw [hh]; rfl⟩
    generalize hae : a.eval s = av at h1
    cases h1 with
    | rdead _ _ _ _ _ _ hdd => rw [hdd] at hh; cases hh
    | rnil _ e' _ m hi' hh' =>
      rw [hh] at hh'
      cases hh'
      have := app_nil S hd hb hU' ho (elOf_und ht) hi hzz hsz' hzc hby h0 (id := id) (.inr hown) hi' hae src (by simpa using hlim) (bl := [(id, .dead), (b, .sl _ _ true xs)]) rfl (Q := Q)
      simpa using this
    | r _ _ _ bk ao cap e' _ m es' hi' hh' hlen hcap hao htip =>
      rw [hh] at hh'
      cases hh'
      obtain ⟨rfl, hshape⟩ := htip rfl
      have hblk := S.blk id
      rw [hh] at hblk
      cases hblk with
      | slnil _ _ _ _ hin => rw [hi'] at hin; cases hin
      | sl bk' _ _ _ _ cur Cc hz' hi2 hbk hC hle hC2 hszs hvr =>
        rw [hi'] at hi2; cases hi2
        have hCc : Cc = cap := by
          unfold World.shape? at hshape
          rw [hbk] at hshape
          simp only [Option.some.injEq, Prod.mk.injEq, true_and] at hshape
          rw [hC] at hshape
          exact Nat.eq_of_mul_eq_mul_right h0 hshape
        subst hCc
        exact app_own S hd hb hU' ho (elOf_und ht) hi hzz hsz' hzc hby h0 hh hi' hae hbk hC hle hC2 hszs hvr (by omega) src hcond hlim rfl
  · cases he

end
end Go.Proofs.Ytephkbajoofeoaa.Am
