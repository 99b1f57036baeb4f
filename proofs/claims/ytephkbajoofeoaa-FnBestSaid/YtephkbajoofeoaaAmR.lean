/-
  A FUNCTION's CONTRACT, OUT OF WHAT THE ABSTRACT MACHINE SAYS OF ITS CODE.
-/
import Derived.Test.YtephkbajoofeoaaAmQ
namespace Go.Proofs.Ytephkbajoofeoaa.Am
set_option linter.unusedSimpArgs false
set_option linter.unusedVariables false
open Go Go.RowKit

theorem VR.lift {w : World} {F F' : Nat → Prop} (hF : ∀ b, F b → F' b) {ι : Nat → Option Nat} {h : Nat → Blk} {v : Value} {x : AV} (hx : x.dat = true) (hv : VR w F noι noh v x) : VR w F' ι h v x := by
  cases x with
  | c d => exact hv.data hF
  | a cs =>
    cases hv with
    | a vs _ hl h1 hv =>
      refine .a vs cs hl h1 (fun k v x hk hxk => ?_)
      have := List.all_eq_true.1 hx x (List.mem_of_getElem? hxk)
      cases x with
      | c d => exact (hv k v _ hk hxk).data hF
      | _ => simp at this
  | _ => simp [AV.dat] at hx

theorem OwnV.lift {w : World} {F F' : Nat → Prop} {v : Value} {o : Option Nat} {e : TypeId} {sz : Nat} {es : List (List D)} (H : OwnV w F v o e sz es) {ι : Nat → Option Nat} {h : Nat → Blk} {m : Nat} (h1 : ι m = o) (h2 : h m = .sl e sz true es) :
    VR w F' ι h v (.r sz m 0 es.length) := by
  have hvx := H.vr
  generalize hn : es.length = n at hvx ⊢
  cases hvx with
  | rdead _ _ _ _ _ _ hd => cases hd
  | rnil _ e' _ mm hi hh' =>
    have : es = [] := List.eq_nil_of_length_eq_zero hn
    subst this
    exact .rnil m e sz true (h1.trans hi) h2
  | r _ _ _ b ao cap e' _ mm es' hi hh' hlen hcap ho htip =>
    cases hh'
    exact .r m 0 n b ao cap e sz true es (h1.trans hi) h2 hlen hcap ho htip

theorem layS_len : ∀ (xs : List AV) (n m : Nat), (layS xs n m).length = xs.length := by
  intro xs
  induction xs with
  | nil => intro n m; rfl
  | cons x xs ih => intro n m; cases x <;> simp [layS, ih]

structure Lay (w : World) (F0 : Nat → Prop) (vs : List Value) (xs : List AV) (lb : List Nat) (gb : List (Option Nat × Blk)) : Prop where
  nd : lb.Nodup
  len : lb.length = (layB xs).length
  vl : vs.length = xs.length
  bx : ∀ (i b : Nat) (cs : List AV), lb[i]? = some b → (layB xs)[i]? = some cs → cs.all isC = true ∧ ∃ e vals, w.heap[b]? = some (.cells vals e (0, 0)) ∧ DR w F0 vals cs
  gl : gb.length = (layG xs).length
  gget : ∀ (j : Nat) (o : Option Nat) (B : Blk), gb[j]? = some (o, B) → (layG xs)[j]? = some B ∧ (∃ e sz es, B = .sl e sz true es) ∧ BR w F0 (fun _ => o) (fun _ => B) 0 B ∧ ∀ b, o = some b → b ∉ lb
  ginj : ∀ (i j b : Nat) (B B' : Blk), gb[i]? = some (some b, B) → gb[j]? = some (some b, B') → i = j
  val : ∀ (n m : Nat) (F : Nat → Prop) (ι : Nat → Option Nat) (h : Nat → Blk), (∀ b, F0 b → F b) → (∀ i b, lb[i]? = some b → ι (n + i) = some b) → (∀ i cs, (layB xs)[i]? = some cs → h (n + i) = .box cs) →
    (∀ (j : Nat) (o : Option Nat) (B : Blk), gb[j]? = some (o, B) → ι (m + j) = o ∧ h (m + j) = B) → ∀ (k : Nat) (v : Value), vs[k]? = some v → VR w F ι h v (((layS xs n m)[k]?).getD .u)

theorem args_lay {w : World} {F0 : Nat → Prop} {vs : List Value} {xs : List AV} {lb : List Nat} {gb : List (Option Nat × Blk)} (hA : Args w F0 vs xs lb gb) : Lay w F0 vs xs lb gb := by
  induction hA with
  | nil => exact ⟨List.nodup_nil, rfl, rfl, by simp, rfl, by simp, by simp, by simp⟩
  | dat v x vs xs lb gb hv hr hx ih =>
    have hB : layB (x :: xs) = layB xs := by cases x <;> simp [layB, AV.dat] at hx ⊢
    have hG : layG (x :: xs) = layG xs := by cases x <;> simp [layG, AV.dat] at hx ⊢
    have hS : ∀ n m, layS (x :: xs) n m = x :: layS xs n m := by intro n m; cases x <;> simp [layS, AV.dat] at hx ⊢
    refine ⟨ih.nd, by rw [hB]; exact ih.len, by simp [ih.vl], by rw [hB]; exact ih.bx, by rw [hG]; exact ih.gl, by rw [hG]; exact ih.gget, ih.ginj, fun n m F ι h hF hι hh hg k u hk => ?_⟩
    rw [hS]
    cases k with
    | zero => simp at hk; subst hk; exact hv.lift hF hx
    | succ k => exact ih.val n m F ι h hF hι (by rw [hB] at hh; exact hh) hg k u (by simpa using hk)
  | box b e vals cs vs xs lb gb hb hd hc hn hng hr ih =>
    refine ⟨List.nodup_cons.2 ⟨hn, ih.nd⟩, by simp [layB, ih.len], by simp [ih.vl], fun i b' cs' hi hcs => ?_, ih.gl, fun j o B hj => ?_, ih.ginj, fun n m F ι h hF hι hh hg k u hk => ?_⟩
    · cases i with
      | zero => simp [layB] at hi hcs; subst hi; subst hcs; exact ⟨hc, e, vals, hb, hd⟩
      | succ i => exact ih.bx i b' cs' (by simpa using hi) (by simpa [layB] using hcs)
    · obtain ⟨g1, g2, g3, g4⟩ := ih.gget j o B hj
      refine ⟨g1, g2, g3, fun b' hb' => ?_⟩
      simp only [List.mem_cons, not_or]
      refine ⟨fun e => ?_, g4 b' hb'⟩
      subst e
      subst hb'
      exact hng ⟨B, List.mem_of_getElem? hj⟩
    · cases k with
      | zero =>
        simp at hk
        subst hk
        have g1 := hι 0 b rfl
        have g2 := hh 0 cs rfl
        simp only [Nat.add_zero] at g1 g2
        have : VR w F ι h (.pointer (some ⟨b, 0 * (h n).sz + 0, none⟩)) (.p n 0 0) := .p n 0 0 b g1 (by rw [g2]; simp) (by rw [g2]; simp)
        simpa [layS] using this
      | succ k =>
        simp only [layS]
        exact ih.val (n + 1) m F ι h hF (fun i b hi => by have := hι (i + 1) b (by simpa using hi); rwa [show n + (i + 1) = n + 1 + i by omega] at this) (fun i cs hi => by have := hh (i + 1) cs (by simpa [layB] using hi); rwa [show n + (i + 1) = n + 1 + i by omega] at this) hg k u (by simpa using hk)
  | own v o e sz es vs xs lb gb hv hn hr ih =>
    refine ⟨ih.nd, ih.len, by simp [ih.vl], ih.bx, by simp [layG, ih.gl], fun j o' B hj => ?_, fun i j b B B' hi hj => ?_, fun n m F ι h hF hι hh hg k u hk => ?_⟩
    · cases j with
      | zero => simp at hj; obtain ⟨rfl, rfl⟩ := hj; exact ⟨rfl, ⟨_, _, _, rfl⟩, hv.br, fun b hb => (hn b hb).1⟩
      | succ j => exact ih.gget j o' B (by simpa using hj)
    · cases i with
      | zero =>
        simp at hi
        cases j with
        | zero => rfl
        | succ j => simp at hj; exact absurd ⟨B', List.mem_of_getElem? hj⟩ (hn b hi.1).2
      | succ i =>
        cases j with
        | zero => simp at hj; simp at hi; exact absurd ⟨B, List.mem_of_getElem? hi⟩ (hn b hj.1).2
        | succ j => simp at hi hj; rw [ih.ginj i j b B B' hi hj]
    · cases k with
      | zero =>
        simp at hk
        subst hk
        obtain ⟨g1, g2⟩ := hg 0 _ _ rfl
        simp only [Nat.add_zero] at g1 g2
        have := hv.lift (F' := F) g1 g2
        simpa [layS] using this
      | succ k =>
        simp only [layS]
        exact ih.val n (m + 1) F ι h hF hι hh (fun j o B hj => by have := hg (j + 1) o B (by simpa using hj); rwa [show m + (j + 1) = m + 1 + j by omega] at this) k u (by simpa using hk)

/-- What stays while a function runs that was called so. -/
def ctxOf (P : Program) (w : World) (F0 : Nat → Prop) (lb : List Nat) (gb : List (Option Nat × Blk)) (N : Nat) : Ctx :=
  { P := P, w0 := w, F0 := F0, X := fun b => b ∈ lb ∨ given gb b, L := fun i => lb[i]?, N := N, G := given gb, O := fun i => if i < lb.length then none else gb[i - lb.length]?, GX := fun _ h => .inr h }

def ι0 (lb : List Nat) (gb : List (Option Nat × Blk)) (i : Nat) : Option Nat := if i < lb.length then lb[i]? else (gb[i - lb.length]?).bind (·.1)

theorem ι0_lt {lb : List Nat} {gb : List (Option Nat × Blk)} {i b : Nat} (h : lb[i]? = some b) : ι0 lb gb i = some b := by
  unfold ι0
  rw [if_pos (List.getElem?_eq_some_iff.1 h).1]
  exact h
theorem ι0_ge {lb : List Nat} {gb : List (Option Nat × Blk)} {j : Nat} {o : Option Nat} {B : Blk} (h : gb[j]? = some (o, B)) : ι0 lb gb (lb.length + j) = o := by
  unfold ι0
  rw [if_neg (by omega), show lb.length + j - lb.length = j by omega, h]
  rfl
theorem ι0_cases {lb : List Nat} {gb : List (Option Nat × Blk)} {i b : Nat} (h : ι0 lb gb i = some b) : lb[i]? = some b ∨ lb.length ≤ i ∧ ∃ B, gb[i - lb.length]? = some (some b, B) := by
  unfold ι0 at h
  split at h
  · exact .inl h
  · refine .inr ⟨by omega, ?_⟩
    cases hx : gb[i - lb.length]? with
    | none => rw [hx] at h; cases h
    | some p =>
      rw [hx] at h
      obtain ⟨o, B⟩ := p
      simp only [Option.bind_some] at h
      subst h
      exact ⟨B, rfl⟩

/-- A function begins as is said. -/
theorem start_sat {P : Program} {w : World} {F0 : Nat → Prop} {vs : Array Value} {xs : List AV} {lb : List Nat} {gb : List (Option Nat × Blk)} (hA : Args w F0 vs.toList xs lb gb) (hF : ∀ b, F0 b → b < w.heap.size ∧ b ∉ lb ∧ ¬ given gb b) {N : Nat} (hN : xs.length ≤ N) :
    SatE (ctxOf P w F0 lb gb N) (start xs) { tmps := vs ++ Array.replicate (N - vs.size) undef, defers := [] } w := by
  have L := args_lay hA
  have h2 := L.len
  have h3 := L.vl
  have hh : ∀ (i : Nat) (cs : List AV), (layB xs)[i]? = some cs → (start xs).h i = .box cs := fun i cs hi => by simp [start, hi]
  have hk : ∀ (j : Nat) (B : Blk), (layG xs)[j]? = some B → (start xs).h (lb.length + j) = B := fun j B hj => by
    simp only [start]
    rw [List.getElem?_eq_none (by omega), ← h2, show lb.length + j - lb.length = j by omega, hj]
    rfl
  have hout : ∀ i, (layB xs).length + (layG xs).length ≤ i → (start xs).h i = .none ∧ ι0 lb gb i = none := fun i hi => by
    have hgl := L.gl
    constructor
    · simp only [start]
      rw [List.getElem?_eq_none (by omega), List.getElem?_eq_none (by omega)]
      rfl
    · unfold ι0
      rw [if_neg (by omega), List.getElem?_eq_none (by omega)]
      rfl
  have hex : ∀ (i b : Nat), lb[i]? = some b → ∃ cs, (layB xs)[i]? = some cs := fun i b hi => by
    have : i < lb.length := (List.getElem?_eq_some_iff.1 hi).1
    exact ⟨(layB xs)[i]'(by omega), List.getElem?_eq_getElem (by omega)⟩
  have hdis : ∀ b, b ∈ lb → ¬ given gb b := fun b hb ⟨B, hm⟩ => by
    obtain ⟨j, hj⟩ := List.getElem?_of_mem hm
    exact (L.gget j _ _ hj).2.2.2 b rfl hb
  have hgid : ∀ i b, ι0 lb gb i = some b → given gb b → lb.length ≤ i ∧ ∃ B, gb[i - lb.length]? = some (some b, B) := fun i b hi hg => by
    rcases ι0_cases hi with h | h
    · exact absurd hg (hdis b (List.mem_of_getElem? h))
    · exact h
  have hblt : ∀ b, given gb b → b < w.heap.size := fun b ⟨B, hm⟩ => by
    obtain ⟨j, hj⟩ := List.getElem?_of_mem hm
    obtain ⟨_, ⟨e, sz, es, rfl⟩, hbr, _⟩ := L.gget j _ _ hj
    cases hbr with
    | slnil _ _ _ _ hi => cases hi
    | sl bk _ _ _ _ cur Cc hz hi hb => cases hi; exact (Array.getElem?_eq_some_iff.1 hb).1
  have hFz : ∀ b, F0 b → Fz (ctxOf P w F0 lb gb N) w (ι0 lb gb) (start xs).h b := fun b hb => ⟨(hF b hb).1, .inl hb, fun id hid => by
    rcases ι0_cases hid with h | ⟨_, B, h⟩
    · exact absurd (List.mem_of_getElem? h) (hF b hb).2.1
    · exact absurd ⟨B, List.mem_of_getElem? h⟩ (hF b hb).2.2⟩
  have hcase : ∀ id, id < lb.length ∨ (∃ j o B, id = lb.length + j ∧ gb[j]? = some (o, B)) ∨ (layB xs).length + (layG xs).length ≤ id := fun id => by
    have hgl := L.gl
    by_cases h : id < lb.length
    · exact .inl h
    · by_cases h' : id < lb.length + gb.length
      · exact .inr (.inl ⟨id - lb.length, gb[id - lb.length].1, gb[id - lb.length].2, by omega, List.getElem?_eq_getElem (by omega)⟩)
      · exact .inr (.inr (by omega))
  refine ⟨ι0 lb gb, ⟨rfl, rfl, rfl, Nat.le_refl _, fun _ _ _ => rfl⟩, fun s => ?_, ?_, rfl, fun id => ?_, fun i j b hi hj => ?_, fun i b hi => ?_, fun i hi => hout i hi, fun i b hi => ?_, fun i b hi => ?_, fun i o B hi => ?_⟩
  · show VR _ _ _ _ _ (((layS xs 0 (layB xs).length)[s]?).getD .u)
    rcases Nat.lt_or_ge s vs.size with hs | hs
    · have := L.val 0 (layB xs).length (Fz (ctxOf P w F0 lb gb N) w (ι0 lb gb) (start xs).h) (ι0 lb gb) (start xs).h hFz (fun i b hi => by rw [Nat.zero_add]; exact ι0_lt hi) (fun i cs hi => by simpa using hh i cs hi)
        (fun j o B hj => by rw [← h2]; exact ⟨ι0_ge hj, hk j B (L.gget j o B hj).1⟩) s vs[s] (by simp [hs])
      rw [show (vs ++ Array.replicate (N - vs.size) undef).getD s undef = vs[s] by simp [Array.getD_eq_getD_getElem?, Array.getElem?_append, hs]]
      exact this
    · rw [List.getElem?_eq_none (by rw [layS_len]; simp at h3; omega)]
      exact .u _
  · simp [ctxOf] at h3 ⊢; omega
  · rcases hcase id with hlt | ⟨j, o, B, rfl, hj⟩ | hge
    · have hx : (layB xs)[id]? = some ((layB xs)[id]'(by omega)) := List.getElem?_eq_getElem (by omega)
      rw [hh id _ hx]
      obtain ⟨hc, e, vals, hb, hd⟩ := L.bx id lb[id] _ (by simp) hx
      refine .box lb[id] e vals _ (ι0_lt (by simp)) hb hd.size hd.one (fun k v x hk hxk => (hd.vr k v x hk hxk).lift hFz ?_)
      have := List.all_eq_true.1 hc x (List.mem_of_getElem? hxk)
      cases x <;> simp_all [isC, AV.dat]
    · obtain ⟨g1, ⟨e, sz, es, rfl⟩, g3, _⟩ := L.gget j o B hj
      rw [hk j _ g1]
      have hι := ι0_ge (lb := lb) hj
      cases g3 with
      | slnil _ _ _ hz hi => exact .slnil e sz true hz (hι.trans hi)
      | sl bk _ _ _ _ cur Cc hz hi hb hC hle hC2 hsz hv => exact .sl bk e sz true es cur Cc hz (hι.trans hi) hb hC hle hC2 hsz (fun i j x d hx hd => let ⟨v, h1, h2⟩ := hv i j x d hx hd; ⟨v, h1, h2.mono fun b hb => ⟨hFz b hb, rfl⟩⟩)
    · rw [(hout id hge).1]; exact .none
  · rcases ι0_cases hi with h1 | ⟨h1, B, h1'⟩
    · rcases ι0_cases hj with h2 | ⟨h2, B', h2'⟩
      · exact (List.getElem?_inj (List.getElem?_eq_some_iff.1 h1).1 L.nd).1 (h1.trans h2.symm)
      · exact absurd ⟨B', List.mem_of_getElem? h2'⟩ (hdis b (List.mem_of_getElem? h1))
    · rcases ι0_cases hj with h2 | ⟨h2, B', h2'⟩
      · exact absurd ⟨B, List.mem_of_getElem? h1'⟩ (hdis b (List.mem_of_getElem? h2))
      · have := L.ginj _ _ b B B' h1' h2'
        omega
  · rcases ι0_cases hi with h1 | ⟨h1, B, h1'⟩
    · obtain ⟨cs, hcs⟩ := hex i b h1
      obtain ⟨_, e, vals, hb, _⟩ := L.bx i b cs h1 hcs
      exact ⟨.inr ⟨.inl (List.mem_of_getElem? h1), cs, hh i cs hcs⟩, (Array.getElem?_eq_some_iff.1 hb).1⟩
    · have hg : given gb b := ⟨B, List.mem_of_getElem? h1'⟩
      exact ⟨.inl (.inr hg), hblt b hg⟩
  · rcases ι0_cases hi with h1 | ⟨h1, B, h1'⟩
    · obtain ⟨cs, hcs⟩ := hex i b h1
      rw [hh i cs hcs]; simp
    · obtain ⟨g1, ⟨e, sz, es, rfl⟩, _⟩ := L.gget _ _ _ h1'
      have := hk _ _ g1
      rw [show lb.length + (i - lb.length) = i by omega] at this
      rw [this]
      simp
  · obtain ⟨cs, hcs⟩ := hex i b hi
    exact ⟨ι0_lt hi, ⟨cs, hh i cs hcs⟩, rfl⟩
  · simp only [ctxOf] at hi
    split at hi
    · cases hi
    · obtain ⟨g1, ⟨e, sz, es, rfl⟩, _⟩ := L.gget _ _ _ hi
      have h5 := hk _ _ g1
      have h6 := ι0_ge (lb := lb) hi
      rw [show lb.length + (i - lb.length) = i by omega] at h5 h6
      exact .inr ⟨h6, by rw [h5]; exact ⟨rfl, rfl, rfl⟩, fun _ _ => rfl⟩

/-- What stands at the end is what the contract says. -/
theorem post_of_sat {P : Program} {w : World} {F0 : Nat → Prop} {lb : List Nat} {gb : List (Option Nat × Blk)} {N n m : Nat} (hn : n = lb.length) (hm : m = gb.length) {U : Nat → Prop} {σ : St} {a : Act} {w' : World} {ι : Nat → Option Nat}
    (S : Sat (ctxOf P w F0 lb gb N) U σ a w' ι) {ids : List Nat} (hnd : ids.Nodup) (hids : ∀ id, id ∈ ids → n + m ≤ id) {x : AV} {r : Res} (hr : expRes n m ids σ x = some r) {v : Value}
    (hv : VR w' (Fz (ctxOf P w F0 lb gb N) w' ι σ.h) ι σ.h v x) :
    Post w F0 lb gb r v w' (fun i => (ids[i]?).bind ι) := by
  unfold expRes at hr
  split at hr
  rotate_left
  · cases hr
  rename_i css gs hcss hgs
  have hr := (Option.some.inj hr).symm
  subst hr
  obtain ⟨hl, hbx⟩ := bxGet_get hcss
  obtain ⟨hgl, hgv⟩ := gvGet_get hgs
  have hgh : ∀ (k : Nat) (o : Option Nat) (B0 B : Blk), gb[k]? = some (o, B0) → gs[k]? = some B → σ.h (n + k) = B ∧ (B = .dead ∨ (ι (n + k) = o ∧ Same B0 B ∧ ∀ b, o = some b → w'.shape? b = w.shape? b)) := fun k o B0 B hk hB => by
    obtain ⟨h1, _⟩ := hgv k B hB
    refine ⟨h1, ?_⟩
    have := S.hand (n + k) o B0 (by simp only [ctxOf]; rw [if_neg (by omega), show n + k - lb.length = k by omega]; exact hk)
    rw [h1] at this
    exact this
  have hrh : ∀ i id, ids[i]? = some id → Res.h ⟨x.rn ids, ids.map fun id => (σ.h id).rn ids, css, true, gs⟩ i = (σ.h id).rn ids := fun i id hi => by simp [Res.h, hi]
  have hown : ∀ i id, ids[i]? = some id → (Res.h ⟨x.rn ids, ids.map fun id => (σ.h id).rn ids, css, true, gs⟩ i).own = (σ.h id).own := fun i id hi => by rw [hrh i id hi]; cases σ.h id <;> rfl
  have hbind : ∀ (i b : Nat), (ids[i]?).bind ι = some b → ∃ id, ids[i]? = some id ∧ ι id = some b := fun i b hi => by
    cases hx : ids[i]? with
    | none => rw [hx] at hi; cases hi
    | some id => rw [hx] at hi; exact ⟨id, rfl, hi⟩
  have hFz : ∀ b, Fz (ctxOf P w F0 lb gb N) w' ι σ.h b → FzC w w' F0 gb ⟨x.rn ids, ids.map fun id => (σ.h id).rn ids, css, true, gs⟩ (fun i => (ids[i]?).bind ι) b := by
    intro b ⟨g1, g2, g3⟩
    refine ⟨g1, g2.imp (fun h => ⟨rfl, h⟩) (fun h => h), fun i hi => ?_, fun k B0 B hk hB => ?_⟩
    · obtain ⟨id, h1, h2⟩ := hbind i b hi
      rw [hown i id h1]
      exact g3 id h2
    · obtain ⟨h1, h2 | ⟨h2, _⟩⟩ := hgh k _ B0 B hk hB
      · rw [h2]; rfl
      · rw [← h1]; exact g3 _ h2
  have hsame : ∀ (k b : Nat), lb[k]? = some b → w'.shape? b = w.shape? b := fun k b hk => (S.lent k b hk).2.2
  have hlentid : ∀ (k b : Nat), lb[k]? = some b → ι k = some b := fun k b hk => (S.lent k b hk).1
  refine ⟨S.fra.os, S.fra.tape, S.fra.output, S.fra.size, fun k hk h1 h2 => S.fra.block k hk (fun h => h.elim h1 h2), hv.rn hFz hrh, fun i => ?_, fun i j b hi hj => ?_, fun i b hi => ?_, fun i b hi => ?_, hl.trans hn, fun k b cs hk hcs => ?_, hgl.trans hm, fun k o B0 B hk hB => ?_⟩
  · cases hx : ids[i]? with
    | none => simp only [Res.h, List.getElem?_map, hx, Option.map_none, Option.getD_none]; exact .none
    | some id =>
      rw [hrh i id hx]
      exact (S.blk id).rn hFz hrh hx
  · obtain ⟨id, h1, h2⟩ := hbind i b hi
    obtain ⟨id', h3, h4⟩ := hbind j b hj
    have := S.inj id id' b h2 h4
    subst this
    exact (List.getElem?_inj (List.getElem?_eq_some_iff.1 h1).1 hnd).1 (h1.trans h3.symm)
  · obtain ⟨id, h1, h2⟩ := hbind i b hi
    obtain ⟨h3, h4⟩ := S.rng id b h2
    have h5 := hids id (List.mem_of_getElem? h1)
    refine ⟨?_, h4, by simpa using (List.getElem?_eq_some_iff.1 h1).1⟩
    have hgiv : given gb b → ∃ (k : Nat) (B0 : Blk), gb[k]? = some (some b, B0) ∧ gs[k]? = some Blk.dead := fun ⟨B0, hmem⟩ => by
      obtain ⟨k, hk⟩ := List.getElem?_of_mem hmem
      have hkl := (List.getElem?_eq_some_iff.1 hk).1
      have hB : gs[k]? = some (gs[k]'(by omega)) := List.getElem?_eq_getElem (by omega)
      obtain ⟨_, g2 | ⟨g2, _⟩⟩ := hgh k _ B0 _ hk hB
      · exact ⟨k, B0, hk, by rw [hB, g2]⟩
      · have := S.inj _ _ _ h2 g2
        omega
    rcases h3 with (h3 | h3) | ⟨h3, _⟩
    · exact .inl h3
    · exact .inr (hgiv h3)
    · rcases h3 with h3 | h3
      · exfalso
        obtain ⟨k, hk⟩ := List.getElem?_of_mem h3
        have := S.inj id k b h2 (hlentid k b hk)
        subst this
        have := (List.getElem?_eq_some_iff.1 hk).1
        omega
      · exact .inr (hgiv h3)
  · obtain ⟨id, h1, h2⟩ := hbind i b hi
    rw [hrh i id h1]
    have := S.live id b h2
    cases hx : σ.h id <;> simp_all [Blk.rn]
  · obtain ⟨h1, h2⟩ := hbx k cs hcs
    simp only [Nat.zero_add] at h1
    refine ⟨h2, hsame k b hk, ?_⟩
    have hb := S.blk k
    rw [h1] at hb
    cases hb with
    | box b' e vals _ hi hb hl h3 hvr =>
      rw [hlentid k b hk] at hi
      cases hi
      refine ⟨e, vals, hb, hl, h3, fun j v y hj hy => ?_⟩
      have h4 := List.all_eq_true.1 h2 y (List.mem_of_getElem? hy)
      cases y with
      | c d => exact (hvr j v _ hj hy).data hFz
      | _ => simp [isC] at h4
  · obtain ⟨h1, h2 | ⟨h2, h3, h4⟩⟩ := hgh k o B0 B hk hB
    · exact .inl h2
    · refine .inr ⟨h3, ?_, h4⟩
      have hb := S.blk (n + k)
      rw [h1] at hb
      rcases (hgv k B hB).2 with rfl | ⟨e, sz, mm, es, rfl⟩
      · exact .dead
      · cases hb with
        | slnil _ _ _ hz hi => exact .slnil e sz mm hz (h2.symm.trans hi)
        | sl bk _ _ _ _ cur Cc hz hi hb hC hle hC2 hsz hv => exact .sl bk e sz mm es cur Cc hz (h2.symm.trans hi) hb hC hle hC2 hsz (fun i j x d hx hd => let ⟨v, h1, h2⟩ := hv i j x d hx hd; ⟨v, h1, h2.mono fun b hb => ⟨hFz b hb, rfl⟩⟩)

/-- A CONTRACT: out of what the abstract machine says. -/
theorem con_of_awp {P : Program} {Γ : Tab} {f : FuncId} {fn : Func} {c : Code} {ac : ACode} {rs : List ARv} {xs : List AV} {r : Res} (hm : P.follows .mixedOrders = true) (hΓ : TabOk P Γ) (hf : P.funcs[f]? = some fn) (hb : fn.body = some c)
    (hc : comp P fn.ntmps c = some ac) (hrs : cRvs P fn.results.toList = some rs) (hN : xs.length ≤ fn.ntmps) (h : awp Γ ac (Ends (layB xs).length (layG xs).length rs r) (start xs)) : Con P f xs r := by
  intro w F0 vs lb gb hA hF
  have hlb := (args_lay hA).len
  have hgb := (args_lay hA).gl
  refine calls_of_wp hf hb ?_
  refine code_sound (C := ctxOf P w F0 lb gb fn.ntmps) hm hΓ c ac _ _ _ _ _ hc h (start_sat hA hF hN) ?_
  rintro e σ a w' ⟨ho, ids, ws, h1, h2, h3, h4⟩ ⟨ι, S⟩
  obtain ⟨v, h5, h6⟩ := results_sound S hrs h1
  have key : a.defers = [] ∧ ∃ v, (results fn a.tmps).run P w' = .ok v w' ∧ ∃ v1 ι, Ending.returned v = .returned v1 ∧ Post w F0 lb gb r v1 w' ι :=
    ⟨S.defers, v, h5, v, _, rfl, post_of_sat hlb.symm hgb.symm S h2 h3 h4 h6⟩
  cases e with
  | normal => exact key
  | ret => exact key
  | exit id => exact ho.elim

end Go.Proofs.Ytephkbajoofeoaa.Am
