/-
  CONTRACTS: what a function's call comes to, on abstract values; and the soundness of a call.
-/
import Derived.Test.YtephkbajoofeoaaAmI
namespace Go.Proofs.Ytephkbajoofeoaa.Am
set_option linter.unusedSimpArgs false
set_option linter.unusedVariables false
open Go Go.RowKit

def noι : Nat → Option Nat := fun _ => none
def noh : Nat → Blk := fun _ => .none

/-- Is it data? -/
def AV.dat : AV → Bool
  | .c _ => true
  | .a cs => cs.all fun | .c _ => true | _ => false
  | _ => false

def isC : AV → Bool
  | .c _ => true
  | _ => false

/-- An array of cells is data. -/
structure DR (w : World) (F : Nat → Prop) (vals : Array Value) (cs : List AV) : Prop where
  size : vals.size = cs.length
  one : ∀ (k : Nat) (v : Value), vals[k]? = some v → v.oneCell' = true
  vr : ∀ (k : Nat) (v : Value) (x : AV), vals[k]? = some v → cs[k]? = some x → VR w F noι noh v x

/-- A value is a whole own slice, in this block. -/
structure OwnV (w : World) (F : Nat → Prop) (v : Value) (o : Option Nat) (e : TypeId) (sz : Nat) (es : List (List D)) : Prop where
  vr : VR w F (fun _ => o) (fun _ => .sl e sz true es) v (.r sz 0 0 es.length)
  br : BR w F (fun _ => o) (fun _ => .sl e sz true es) 0 (.sl e sz true es)

/-- A block of a slice that is handed over. -/
def given (gb : List (Option Nat × Blk)) (b : Nat) : Prop := ∃ B, (some b, B) ∈ gb

/-- The arguments of a call are so many abstract values; the blocks that are lent; the slices that are handed over. -/
inductive Args (w : World) (F : Nat → Prop) : List Value → List AV → List Nat → List (Option Nat × Blk) → Prop where
  | nil : Args w F [] [] [] []
  | dat (v : Value) (x : AV) (vs : List Value) (xs : List AV) (lb : List Nat) (gb : List (Option Nat × Blk)) (h : VR w F noι noh v x) (hr : Args w F vs xs lb gb) (hx : x.dat = true) : Args w F (v :: vs) (x :: xs) lb gb
  | box (b : Nat) (e : TypeId) (vals : Array Value) (cs : List AV) (vs : List Value) (xs : List AV) (lb : List Nat) (gb : List (Option Nat × Blk)) (hb : w.heap[b]? = some (.cells vals e (0, 0))) (hd : DR w F vals cs) (hc : cs.all isC = true) (hn : b ∉ lb)
      (hg : ¬ given gb b) (hr : Args w F vs xs lb gb) : Args w F (.pointer (some ⟨b, 0, none⟩) :: vs) (.bx cs :: xs) (b :: lb) gb
  | own (v : Value) (o : Option Nat) (e : TypeId) (sz : Nat) (es : List (List D)) (vs : List Value) (xs : List AV) (lb : List Nat) (gb : List (Option Nat × Blk)) (hv : OwnV w F v o e sz es) (hn : ∀ b, o = some b → b ∉ lb ∧ ¬ given gb b)
      (hr : Args w F vs xs lb gb) : Args w F (v :: vs) (.ow e sz es :: xs) lb ((o, .sl e sz true es) :: gb)

/-- The new blocks of a result. -/
def Res.h (r : Res) : Nat → Blk := fun i => (r.hb[i]?).getD .none

/-- The blocks that nobody writes, behind a call. -/
def FzC (w w' : World) (F0 : Nat → Prop) (gb : List (Option Nat × Blk)) (r : Res) (ι : Nat → Option Nat) (b : Nat) : Prop :=
  b < w'.heap.size ∧ (r.al = true ∧ F0 b ∨ w.heap.size ≤ b ∨ given gb b) ∧ (∀ i, ι i = some b → (r.h i).own = false) ∧ ∀ (k : Nat) (B0 B : Blk), gb[k]? = some (some b, B0) → r.gv[k]? = some B → B.own = false

/-- What stands behind a call. -/
structure Post (w : World) (F0 : Nat → Prop) (lb : List Nat) (gb : List (Option Nat × Blk)) (r : Res) (v : Value) (w' : World) (ι : Nat → Option Nat) : Prop where
  os : w'.os = w.os
  tape : w'.tape = w.tape
  output : w'.output = w.output
  size : w.heap.size ≤ w'.heap.size
  block : ∀ k, k < w.heap.size → k ∉ lb → ¬ given gb k → w'.heap[k]? = w.heap[k]?
  val : VR w' (FzC w w' F0 gb r ι) ι r.h v r.v
  blk : ∀ i, BR w' (FzC w w' F0 gb r ι) ι r.h i (r.h i)
  inj : ∀ i j b, ι i = some b → ι j = some b → i = j
  rng : ∀ i b, ι i = some b → (w.heap.size ≤ b ∨ ∃ (k : Nat) (B0 : Blk), gb[k]? = some (some b, B0) ∧ r.gv[k]? = some Blk.dead) ∧ b < w'.heap.size ∧ i < r.hb.length
  live : ∀ i b, ι i = some b → r.h i ≠ .none ∧ r.h i ≠ .dead
  bxl : r.bx.length = lb.length
  bx : ∀ (k b : Nat) (cs : List AV), lb[k]? = some b → r.bx[k]? = some cs → cs.all isC = true ∧ w'.shape? b = w.shape? b ∧ ∃ e vals, w'.heap[b]? = some (.cells vals e (0, 0)) ∧ DR w' (FzC w w' F0 gb r ι) vals cs
  gvl : r.gv.length = gb.length
  gv : ∀ (k : Nat) (o : Option Nat) (B0 B : Blk), gb[k]? = some (o, B0) → r.gv[k]? = some B → B = .dead ∨ Same B0 B ∧ BR w' (FzC w w' F0 gb r ι) (fun _ => o) (fun _ => B) 0 B ∧ ∀ b, o = some b → w'.shape? b = w.shape? b

/-- A CONTRACT: called with these arguments the function comes to this result. -/
def Con (P : Program) (f : FuncId) (args : List AV) (r : Res) : Prop :=
  ∀ (w : World) (F0 : Nat → Prop) (vs : Array Value) (lb : List Nat) (gb : List (Option Nat × Blk)), Args w F0 vs.toList args lb gb → (∀ b, F0 b → b < w.heap.size ∧ b ∉ lb ∧ ¬ given gb b) →
    Calls P f vs w fun e w' => ∃ v ι, e = .returned v ∧ Post w F0 lb gb r v w' ι

/-- A table whose rows are contracts. -/
def TabOk (P : Program) (Γ : Tab) : Prop := ∀ f args r, Γ f args = some r → Con P f args r

theorem VR.data {w : World} {F F' : Nat → Prop} (hF : ∀ b, F b → F' b) {ι : Nat → Option Nat} {h : Nat → Blk} {v : Value} {d : D} (hv : VR w F ι h v (.c d)) {ι' : Nat → Option Nat} {h' : Nat → Blk} : VR w F' ι' h' v (.c d) := by
  cases hv with
  | c v d hr => exact .c _ _ (hr.mono fun b hb => ⟨hF b hb, rfl⟩)

theorem vr_c {w : World} {F : Nat → Prop} {ι : Nat → Option Nat} {h : Nat → Blk} {v : Value} {d : D} (hr : Rd w F v d) : VR w F ι h v (.c d) := .c _ _ hr

/-- What is said of a result holds where its numbers are moved up. -/
theorem VR.shift1 {w : World} {F : Nat → Prop} {ι ι' : Nat → Option Nat} {h h' : Nat → Blk} {b n : Nat} (hi : ∀ i, i < n → ι' (i + b) = ι i ∧ h' (i + b) = (h i).sh b) (hn : ∀ i, n ≤ i → h i = .none ∧ ι i = none) {v : Value} {x : AV} (hv : VR w F ι h v x) : VR w F ι' h' v (x.sh1 b) := by
  have hlt : ∀ i, h i ≠ .none → i < n := fun i hx => by
    rcases Nat.lt_or_ge i n with h1 | h1
    · exact h1
    · exact absurd (hn i h1).1 hx
  cases hv with
  | u => exact .u _
  | c v d hr => exact .c _ _ hr
  | n sz => exact .n _
  | rdead v sz id off len h1 hd =>
    have := hi id (hlt id (by rw [hd]; simp))
    exact .rdead _ _ _ _ _ h1 (by rw [this.2, hd]; rfl)
  | rnil id e sz m hi' hh =>
    have := hi id (hlt id (by rw [hh]; simp))
    exact .rnil _ e sz m (this.1.trans hi') (by rw [this.2, hh]; rfl)
  | r id off len bk ao cap e sz m es hi' hh hlen hcap hao htip =>
    have := hi id (hlt id (by rw [hh]; simp))
    exact .r _ off len bk ao cap e sz m es (this.1.trans hi') (by rw [this.2, hh]; rfl) hlen hcap hao htip
  | pdead v id i j h1 hd =>
    have := hi id (hlt id (by rw [hd]; simp))
    exact .pdead _ _ _ _ h1 (by rw [this.2, hd]; rfl)
  | p id i j bk hi' hn' hd =>
    have := hi id (hlt id hn')
    have hs : (h' (id + b)).sz = (h id).sz := by rw [this.2]; cases h id <;> rfl
    rw [← hs]
    refine .p (id + b) i j bk (this.1.trans hi') ?_ ?_
    · rw [this.2]; cases hx : h id <;> simp_all [Blk.sh]
    · rw [this.2]; cases hx : h id <;> simp_all [Blk.sh]
  | q bk o j cs x hb hc hr => exact .q bk o j cs x hb hc hr
  | a => exact .u _
  | t => exact .u _

theorem VR.shift2 {w : World} {F : Nat → Prop} {ι ι' : Nat → Option Nat} {h h' : Nat → Blk} {b n : Nat} (hi : ∀ i, i < n → ι' (i + b) = ι i ∧ h' (i + b) = (h i).sh b) (hn : ∀ i, n ≤ i → h i = .none ∧ ι i = none) {v : Value} {x : AV} (hv : VR w F ι h v x) : VR w F ι' h' v (x.sh2 b) := by
  cases x with
  | a cs =>
    cases hv with
    | a vs _ hl h1 hv =>
      refine .a vs _ (by simpa using hl) h1 (fun k v x hk hx => ?_)
      simp only [List.getElem?_map, Option.map_eq_some_iff] at hx
      obtain ⟨y, hy, rfl⟩ := hx
      exact (hv k v y hk hy).shift1 hi hn
  | _ => exact hv.shift1 hi hn

theorem VR.shift {w : World} {F : Nat → Prop} {ι ι' : Nat → Option Nat} {h h' : Nat → Blk} {b n : Nat} (hi : ∀ i, i < n → ι' (i + b) = ι i ∧ h' (i + b) = (h i).sh b) (hn : ∀ i, n ≤ i → h i = .none ∧ ι i = none) {v : Value} {x : AV} (hv : VR w F ι h v x) : VR w F ι' h' v (x.sh b) := by
  cases x with
  | t cs =>
    cases hv with
    | t vs _ hl hv =>
      refine .t vs _ (by simpa using hl) (fun k v x hk hx => ?_)
      simp only [List.getElem?_map, Option.map_eq_some_iff] at hx
      obtain ⟨y, hy, rfl⟩ := hx
      exact (hv k v y hk hy).shift2 hi hn
  | _ => exact hv.shift2 hi hn

theorem VR.up {w : World} {F F' : Nat → Prop} (hF : ∀ b, F b → F' b) {ι : Nat → Option Nat} {h : Nat → Blk} {v : Value} {x : AV} (hv : VR w F ι h v x) : VR w F' ι h v x := by
  refine hv.mono (fun b hb => ⟨hF b hb, rfl⟩) (fun id => ?_)
  unfold Goes
  cases hx : h id with
  | none => exact .inl rfl
  | dead => exact .inr (.inl rfl)
  | box cs => exact .inr (.inr ⟨rfl, rfl, fun _ _ => rfl⟩)
  | sl e sz m es => exact .inr (.inr ⟨rfl, ⟨rfl, rfl, rfl⟩, fun _ _ => rfl⟩)

theorem BR.shift {w : World} {F F' : Nat → Prop} (hF : ∀ b, F b → F' b) {ι ι' : Nat → Option Nat} {h h' : Nat → Blk} {b n : Nat} (hi : ∀ i, i < n → ι' (i + b) = ι i ∧ h' (i + b) = (h i).sh b) (hn : ∀ i, n ≤ i → h i = .none ∧ ι i = Option.none) {i : Nat} (hin : i < n) {B : Blk} (hv : BR w F ι h i B) : BR w F' ι' h' (i + b) (B.sh b) := by
  cases hv with
  | none => exact .none
  | dead => exact .dead
  | box bk e vals cs hi' hb hl h1 hv =>
    refine .box bk e vals _ ((hi i hin).1.trans hi') hb (by simpa using hl) h1 (fun k v x hk hx => ?_)
    simp only [List.getElem?_map, Option.map_eq_some_iff] at hx
    obtain ⟨y, hy, rfl⟩ := hx
    exact ((hv k v y hk hy).shift1 hi hn).up hF
  | slnil e sz m hz hi' => exact .slnil e sz m hz ((hi i hin).1.trans hi')
  | sl bk e sz m es cur Cc hz hi' hb hC hle hC2 hsz hv =>
    exact .sl bk e sz m es cur Cc hz ((hi i hin).1.trans hi') hb hC hle hC2 hsz (fun p q x d hp hq => let ⟨v, h1, h2⟩ := hv p q x d hp hq; ⟨v, h1, h2.mono fun b hb => ⟨hF b hb, rfl⟩⟩)

theorem numbered_get (l : List Blk) : ∀ (b : Nat) (h : Nat → Blk) (i : Nat), updL h (numbered b l) i = if b ≤ i ∧ i < b + l.length then (l[i - b]?).getD .none else h i := by
  induction l with
  | nil => intro b h i; simp only [numbered, updL, List.length_nil]; rw [if_neg (by omega)]
  | cons x l ih =>
    intro b h i
    simp only [numbered, updL, List.length_cons]
    rw [ih (b + 1) (upd h b x) i]
    by_cases h1 : i = b
    · subst h1
      rw [if_neg (by omega), if_pos (by omega), upd_same]
      simp
    · by_cases h2 : b ≤ i ∧ i < b + (l.length + 1)
      · rw [if_pos (by omega), if_pos h2]
        rw [show i - b = (i - (b + 1)) + 1 by omega]
        simp
      · rw [if_neg (by omega), if_neg h2, upd_ne _ _ _ _ h1]

theorem updL_append (h : Nat → Blk) : ∀ (l m : List (Nat × Blk)), updL h (l ++ m) = updL (updL h l) m := by
  intro l
  induction l generalizing h with
  | nil => intro m; rfl
  | cons x l ih => intro m; exact ih _ m

theorem hands_get : ∀ (ids : List Nat) (css : List Blk) (h : Nat → Blk) (i : Nat), ids.Nodup → css.length = ids.length →
    (i ∉ ids → updL h (hands ids css) i = h i) ∧ ∀ (k : Nat) (B : Blk), ids[k]? = some i → css[k]? = some B → updL h (hands ids css) i = B
  | [], css, h, i, _, hl => by
    have : css = [] := List.eq_nil_of_length_eq_zero hl
    subst this
    exact ⟨fun _ => rfl, by simp⟩
  | id :: ids, [], h, i, _, hl => by simp at hl
  | id :: ids, cs0 :: css, h, i, hnd, hl => by
    simp only [List.nodup_cons] at hnd
    obtain ⟨h1, h2⟩ := hands_get ids css (upd h id cs0) i hnd.2 (by simpa using hl)
    simp only [hands, updL]
    refine ⟨fun hi => ?_, fun k cs hk hcs => ?_⟩
    · simp only [List.mem_cons, not_or] at hi
      rw [h1 hi.2, upd_ne _ _ _ _ hi.1]
    · cases k with
      | zero =>
        simp at hk hcs
        subst hk; subst hcs
        rw [h1 hnd.1, upd_same]
      | succ k =>
        simp at hk hcs
        exact h2 k cs hk hcs

theorem boxes_get : ∀ (ids : List Nat) (css : List (List AV)) (h : Nat → Blk) (i : Nat), ids.Nodup → css.length = ids.length →
    (i ∉ ids → updL h (boxes ids css) i = h i) ∧ ∀ (k : Nat) (cs : List AV), ids[k]? = some i → css[k]? = some cs → updL h (boxes ids css) i = .box cs
  | [], css, h, i, _, hl => by
    have : css = [] := List.eq_nil_of_length_eq_zero hl
    subst this
    exact ⟨fun _ => rfl, by simp⟩
  | id :: ids, [], h, i, _, hl => by simp at hl
  | id :: ids, cs0 :: css, h, i, hnd, hl => by
    simp only [List.nodup_cons] at hnd
    obtain ⟨h1, h2⟩ := boxes_get ids css (upd h id (.box cs0)) i hnd.2 (by simpa using hl)
    simp only [boxes, updL]
    refine ⟨fun hi => ?_, fun k cs hk hcs => ?_⟩
    · simp only [List.mem_cons, not_or] at hi
      rw [h1 hi.2, upd_ne _ _ _ _ hi.1]
    · cases k with
      | zero =>
        simp at hk hcs
        subst hk; subst hcs
        rw [h1 hnd.1, upd_same]
      | succ k =>
        simp at hk hcs
        exact h2 k cs hk hcs

end Go.Proofs.Ytephkbajoofeoaa.Am
