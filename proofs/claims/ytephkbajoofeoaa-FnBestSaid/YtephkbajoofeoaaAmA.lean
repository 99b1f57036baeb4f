/-
  AN OWN ABSTRACT MACHINE OVER PURE DATA: its values, its states, and what it means that a world and a frame stand as a state says. No program in sight.
-/
import Derived.WalkKit
import Derived.KernelRfl
namespace Go.Proofs.Ytephkbajoofeoaa.Am
set_option linter.unusedSimpArgs false
set_option linter.unusedVariables false
open Go Go.RowKit

/-- The data of one cell: a value that is itself, or a slice: how many cells an element has, and the elements. -/
inductive D where
  | v (x : Value)
  | sl (sz : Nat) (es : List (List D))

/-- An abstract value. -/
inductive AV where
  /-- nothing is known -/
  | u
  /-- data, read in memory that nobody writes any more -/
  | c (d : D)
  /-- a nil slice -/
  | n (sz : Nat)
  /-- a window of an own slice, of elements of so many cells -/
  | r (sz id off len : Nat)
  /-- the address of cell j of element i of an own block -/
  | p (id i j : Nat)
  /-- the address of cell j of data that nobody writes any more -/
  | q (cs : List D) (j : Nat)
  /-- a struct, cell by cell -/
  | a (cs : List AV)
  /-- several results -/
  | t (vs : List AV)
  /-- the address of a box lent to a callee, and what is in it -/
  | bx (cs : List AV)
  /-- a whole own slice handed to a callee -/
  | ow (e : TypeId) (sz : Nat) (es : List (List D))

/-- An abstract block. -/
inductive Blk where
  | none
  | dead
  | box (cs : List AV)
  | sl (e : TypeId) (sz : Nat) (m : Bool) (es : List (List D))

structure St where
  t : Nat → AV
  h : Nat → Blk
  nx : Nat

def upd {α : Type} (f : Nat → α) (i : Nat) (x : α) : Nat → α := fun j => if j = i then x else f j

theorem upd_same {α : Type} (f : Nat → α) (i : Nat) (x : α) : upd f i x i = x := by simp [upd]
theorem upd_ne {α : Type} (f : Nat → α) (i j : Nat) (x : α) (h : j ≠ i) : upd f i x j = f j := by simp [upd, h]

/-- A value of one cell that is no address: whoever holds it knows all. (Addresses are let by too: what is said of it is that it is this very value.) -/
inductive Rd (w : World) (F : Nat → Prop) : Value → D → Prop where
  | v (x : Value) (h : x.oneCell' = true) : Rd w F x (.v x)
  | nil (sz : Nat) : Rd w F (.slice none 0 0) (.sl sz [])
  | emp (a : Addr) (cap sz : Nat) : Rd w F (.slice (some a) 0 cap) (.sl sz [])
  | sl (b o len cap sz : Nat) (es : List (List D)) (x : Nat → Nat → Value) (hlen : es.length = len) (hcap : len ≤ cap) (hml : len ≤ maxLen) (hsz : ∀ e, e ∈ es → e.length = sz) (hb : es ≠ [] → F b)
      (hc : ∀ i j e d, es[i]? = some e → e[j]? = some d → w.cell? ⟨b, o + i * sz + j, Option.none⟩ = some (x i j))
      (hr : ∀ i j e d, es[i]? = some e → e[j]? = some d → Rd w F (x i j) d) : Rd w F (.slice (some ⟨b, o, Option.none⟩) len cap) (.sl sz es)

theorem Rd.one {w : World} {F : Nat → Prop} {v : Value} {d : D} (h : Rd w F v d) : v.oneCell' = true := by
  cases h with
  | v x h => exact h
  | nil => rfl
  | emp => rfl
  | sl => rfl

theorem Rd.mono {w w' : World} {F F' : Nat → Prop} (hF : ∀ b, F b → F' b ∧ w'.heap[b]? = w.heap[b]?) {v : Value} {d : D} (h : Rd w F v d) : Rd w' F' v d := by
  induction h with
  | v x h => exact .v x h
  | nil sz => exact .nil sz
  | emp a cap sz => exact .emp a cap sz
  | sl b o len cap sz es x hlen hcap hml hsz hb hc hr ih =>
    refine .sl b o len cap sz es x hlen hcap hml hsz (fun hn => (hF b (hb hn)).1) (fun i j e d he hd => ?_) ih
    rw [World.cell?_of_block (w := w) (w' := w') (a := ⟨b, _, Option.none⟩) (hF b (hb (fun h0 => by rw [h0] at he; simp at he))).2]
    exact hc i j e d he hd

/-- How many cells an element of a block takes (a box is one element). -/
def Blk.sz : Blk → Nat
  | .sl _ sz _ _ => sz
  | _ => 0

/-- What a value is in a world whose own blocks lie where 'ι' says. -/
inductive VR (w : World) (F : Nat → Prop) (ι : Nat → Option Nat) (h : Nat → Blk) : Value → AV → Prop where
  | u (v : Value) : VR w F ι h v .u
  | c (v : Value) (d : D) (hr : Rd w F v d) : VR w F ι h v (.c d)
  | n (sz : Nat) : VR w F ι h (.slice Option.none 0 0) (.n sz)
  | rdead (v : Value) (sz id off len : Nat) (h1 : v.oneCell' = true) (hd : h id = .dead) : VR w F ι h v (.r sz id off len)
  | rnil (id : Nat) (e : TypeId) (sz : Nat) (m : Bool) (hi : ι id = Option.none) (hh : h id = .sl e sz m []) : VR w F ι h (.slice Option.none 0 0) (.r sz id 0 0)
  | r (id off len b ao cap : Nat) (e : TypeId) (sz : Nat) (m : Bool) (es : List (List D)) (hi : ι id = some b) (hh : h id = .sl e sz m es) (hlen : off + len ≤ es.length)
      (hcap : len ≤ cap) (ho : len ≠ 0 → ao = off * sz) (htip : off = 0 → ao = 0 ∧ w.shape? b = some (e, cap * sz)) : VR w F ι h (.slice (some ⟨b, ao, Option.none⟩) len cap) (.r sz id off len)
  | pdead (v : Value) (id i j : Nat) (h1 : v.oneCell' = true) (hd : h id = .dead) : VR w F ι h v (.p id i j)
  | p (id i j b : Nat) (hi : ι id = some b) (hn : h id ≠ .none) (hd : h id ≠ .dead) : VR w F ι h (.pointer (some ⟨b, i * (h id).sz + j, Option.none⟩)) (.p id i j)
  | q (b o j : Nat) (cs : List D) (x : Nat → Value) (hb : F b) (hc : ∀ k d, cs[k]? = some d → w.cell? ⟨b, o + k, Option.none⟩ = some (x k)) (hr : ∀ k d, cs[k]? = some d → Rd w F (x k) d) :
      VR w F ι h (.pointer (some ⟨b, o + j, Option.none⟩)) (.q cs j)
  | a (vs : Array Value) (cs : List AV) (hl : vs.size = cs.length) (h1 : ∀ (k : Nat) (v : Value), vs[k]? = some v → v.oneCell' = true) (hv : ∀ (k : Nat) (v : Value) (x : AV), vs[k]? = some v → cs[k]? = some x → VR w F ι h v x) : VR w F ι h (.agg vs) (.a cs)
  | t (vs : Array Value) (cs : List AV) (hl : vs.size = cs.length) (hv : ∀ (k : Nat) (v : Value) (x : AV), vs[k]? = some v → cs[k]? = some x → VR w F ι h v x) : VR w F ι h (.tuple vs) (.t cs)

/-- A block that goes on keeps its form. -/
def Same : Blk → Blk → Prop
  | .box cs, .box cs' => cs'.length = cs.length
  | .sl e sz _ es, .sl e' sz' _ es' => e' = e ∧ sz' = sz ∧ es'.length = es.length
  | _, _ => False

theorem Same.sz {x y : Blk} (h : Same x y) : y.sz = x.sz := by
  cases x <;> cases y <;> simp_all [Same, Blk.sz]
theorem Same.trans {x y z : Blk} (h : Same x y) (h' : Same y z) : Same x z := by
  cases x <;> cases y <;> simp only [Same] at h <;> cases z <;> simp only [Same] at h' ⊢
  · exact h'.trans h
  · exact ⟨h'.1.trans h.1, h'.2.1.trans h.2.1, h'.2.2.trans h.2.2⟩
theorem Same.ne {x y : Blk} (h : Same x y) : y ≠ .none ∧ y ≠ .dead := by
  cases x <;> cases y <;> simp_all [Same]

theorem Same.refl {x : Blk} (h1 : x ≠ .none) (h2 : x ≠ .dead) : Same x x := by
  cases x <;> simp_all [Same]

/-- What becomes of an own block when the state goes on. -/
def Goes (w w' : World) (ι ι' : Nat → Option Nat) (h h' : Nat → Blk) (id : Nat) : Prop :=
  h id = .none ∨ h' id = .dead ∨ (ι' id = ι id ∧ Same (h id) (h' id) ∧ ∀ b, ι id = some b → w'.shape? b = w.shape? b)

theorem VR.mono {w w' : World} {F F' : Nat → Prop} {ι ι' : Nat → Option Nat} {h h' : Nat → Blk} (hF : ∀ b, F b → F' b ∧ w'.heap[b]? = w.heap[b]?)
    (hg : ∀ id, Goes w w' ι ι' h h' id) {v : Value} {x : AV} (hv : VR w F ι h v x) : VR w' F' ι' h' v x := by
  induction hv with
  | u v => exact .u v
  | c v d hr => exact .c v d (hr.mono hF)
  | n sz => exact .n sz
  | rdead v sz id off len h1 hd =>
    rcases hg id with g | g | ⟨_, g, _⟩
    · rw [hd] at g; cases g
    · exact .rdead v sz id off len h1 g
    · rw [hd] at g; cases hx : h' id <;> simp [hx, Same] at g
  | rnil id e sz m hi hh =>
    rcases hg id with g | g | ⟨g1, g, _⟩
    · rw [hh] at g; cases g
    · exact .rdead _ sz id 0 0 rfl g
    · rw [hh] at g
      cases hx : h' id with
      | sl e' sz' m' es' =>
        simp only [hx, Same, List.length_nil] at g
        obtain ⟨rfl, rfl, hl⟩ := g
        have : es' = [] := List.eq_nil_of_length_eq_zero hl
        subst this
        exact .rnil id _ _ m' (g1.trans hi) hx
      | none => simp [hx, Same] at g
      | dead => simp [hx, Same] at g
      | box cs => simp [hx, Same] at g
  | r id off len b ao cap e sz m es hi hh hlen hcap ho htip =>
    rcases hg id with g | g | ⟨g1, g, gs⟩
    · rw [hh] at g; cases g
    · exact .rdead _ sz id off len rfl g
    · rw [hh] at g
      cases hx : h' id with
      | sl e' sz' m' es' =>
        simp only [hx, Same] at g
        obtain ⟨rfl, rfl, hl⟩ := g
        exact .r id off len b ao cap _ _ m' es' (g1.trans hi) hx (by omega) hcap ho (fun h0 => ⟨(htip h0).1, (gs b hi).trans (htip h0).2⟩)
      | none => simp [hx, Same] at g
      | dead => simp [hx, Same] at g
      | box cs => simp [hx, Same] at g
  | pdead v id i j h1 hd =>
    rcases hg id with g | g | ⟨_, g, _⟩
    · rw [hd] at g; cases g
    · exact .pdead v id i j h1 g
    · rw [hd] at g; cases hx : h' id <;> simp [hx, Same] at g
  | p id i j b hi hn hd =>
    rcases hg id with g | g | ⟨g1, g, _⟩
    · exact absurd g hn
    · exact .pdead _ id i j rfl g
    · rw [← g.sz]
      exact .p id i j b (g1.trans hi) g.ne.1 g.ne.2
  | q b o j cs x hb hc hr =>
    refine .q b o j cs x (hF b hb).1 (fun k d hk => ?_) (fun k d hk => (hr k d hk).mono hF)
    rw [World.cell?_of_block (w := w) (w' := w') (a := ⟨b, _, Option.none⟩) (hF b hb).2]
    exact hc k d hk
  | a vs cs hl h1 hv ih => exact .a vs cs hl h1 ih
  | t vs cs hl hv ih => exact .t vs cs hl ih

/-- The block of an own id in the world. -/
inductive BR (w : World) (F : Nat → Prop) (ι : Nat → Option Nat) (h : Nat → Blk) (id : Nat) : Blk → Prop where
  | none : BR w F ι h id .none
  | dead : BR w F ι h id .dead
  | box (b : Nat) (e : TypeId) (vals : Array Value) (cs : List AV) (hi : ι id = some b) (hb : w.heap[b]? = some (.cells vals e (0, 0))) (hl : vals.size = cs.length)
      (h1 : ∀ (k : Nat) (v : Value), vals[k]? = some v → v.oneCell' = true) (hv : ∀ (k : Nat) (v : Value) (x : AV), vals[k]? = some v → cs[k]? = some x → VR w F ι h v x) : BR w F ι h id (.box cs)
  | slnil (e : TypeId) (sz : Nat) (m : Bool) (hz : 0 < sz) (hi : ι id = Option.none) : BR w F ι h id (.sl e sz m [])
  | sl (b : Nat) (e : TypeId) (sz : Nat) (m : Bool) (es : List (List D)) (cur : Array Value) (C : Nat) (hz : 0 < sz) (hi : ι id = some b) (hb : w.heap[b]? = some (.cells cur e (0, 0)))
      (hC : cur.size = C * sz) (hle : es.length ≤ C) (hC2 : C ≤ maxLen) (hsz : ∀ x, x ∈ es → x.length = sz)
      (hv : ∀ i j x d, es[i]? = some x → x[j]? = some d → ∃ v, cur[i * sz + j]? = some v ∧ Rd w F v d) : BR w F ι h id (.sl e sz m es)

theorem BR.mono {w w' : World} {F F' : Nat → Prop} {ι ι' : Nat → Option Nat} {h h' : Nat → Blk} (hF : ∀ b, F b → F' b ∧ w'.heap[b]? = w.heap[b]?)
    (hg : ∀ id, Goes w w' ι ι' h h' id) {id : Nat} {x : Blk} (hi' : ι' id = ι id) (hb' : ∀ b, ι id = some b → w'.heap[b]? = w.heap[b]?) (hv : BR w F ι h id x) : BR w' F' ι' h' id x := by
  cases hv with
  | none => exact .none
  | dead => exact .dead
  | box b e vals cs hi hb hl h1 hv => exact .box b e vals cs (hi'.trans hi) ((hb' b hi).trans hb) hl h1 (fun k v x hk hx => (hv k v x hk hx).mono hF hg)
  | slnil e sz m hz hi => exact .slnil e sz m hz (hi'.trans hi)
  | sl b e sz m es cur C hz hi hb hC hle hC2 hsz hv =>
    exact .sl b e sz m es cur C hz (hi'.trans hi) ((hb' b hi).trans hb) hC hle hC2 hsz (fun i j x d hx hd => let ⟨v, h1, h2⟩ := hv i j x d hx hd; ⟨v, h1, h2.mono hF⟩)

/-- A block that may still be written. -/
def Blk.own : Blk → Bool
  | .box _ => true
  | .sl _ _ m _ => m
  | _ => false

/-- What stays the same while a function runs: the world that it began in, the blocks of it that are read, those that are lent to it, the numbers of these, the frame's size. -/
structure Ctx where
  P : Program
  w0 : World
  F0 : Nat → Prop
  X : Nat → Prop
  L : Nat → Option Nat
  N : Nat
  /-- the blocks of slices that were handed over, their numbers, what they are -/
  G : Nat → Prop
  O : Nat → Option (Option Nat × Blk)
  GX : ∀ b, G b → X b

/-- A block that may be written or handed back: new, or handed over. -/
def Ctx.fr (C : Ctx) (b : Nat) : Prop := C.w0.heap.size ≤ b ∨ C.G b
theorem Ctx.fr.fra {C : Ctx} {b : Nat} (h : C.fr b) : C.w0.heap.size ≤ b ∨ C.X b := h.imp (fun h => h) (C.GX b)

/-- The blocks that nobody writes any more. -/
def Fz (C : Ctx) (w : World) (ι : Nat → Option Nat) (h : Nat → Blk) (b : Nat) : Prop :=
  b < w.heap.size ∧ (C.F0 b ∨ C.fr b) ∧ ∀ id, ι id = some b → (h id).own = false

/-- The world that the function began in is as it was, but for what was lent. -/
structure Fra (C : Ctx) (w : World) : Prop where
  os : w.os = C.w0.os
  tape : w.tape = C.w0.tape
  output : w.output = C.w0.output
  size : C.w0.heap.size ≤ w.heap.size
  block : ∀ k, k < C.w0.heap.size → ¬ C.X k → w.heap[k]? = C.w0.heap[k]?

/-- THE WORLD AND THE FRAME STAND AS THE STATE SAYS. -/
structure Sat (C : Ctx) (U : Nat → Prop) (σ : St) (a : Act) (w : World) (ι : Nat → Option Nat) : Prop where
  fra : Fra C w
  vals : ∀ s, VR w (Fz C w ι σ.h) ι σ.h (a.tmps.getD s undef) (σ.t s)
  size : a.tmps.size = C.N
  defers : a.defers = []
  blk : ∀ id, BR w (Fz C w ι σ.h) ι σ.h id (σ.h id)
  inj : ∀ i j b, ι i = some b → ι j = some b → i = j
  rng : ∀ i b, ι i = some b → (C.fr b ∨ C.X b ∧ ∃ cs, σ.h i = .box cs) ∧ b < w.heap.size
  fresh : ∀ i, U i → σ.h i = .none ∧ ι i = Option.none
  live : ∀ i b, ι i = some b → σ.h i ≠ .none ∧ σ.h i ≠ .dead
  lent : ∀ i b, C.L i = some b → ι i = some b ∧ (∃ cs, σ.h i = .box cs) ∧ w.shape? b = C.w0.shape? b
  hand : ∀ i o B, C.O i = some (o, B) → σ.h i = .dead ∨ ι i = o ∧ Same B (σ.h i) ∧ ∀ b, o = some b → w.shape? b = C.w0.shape? b

def SatU (C : Ctx) (U : Nat → Prop) (σ : St) (a : Act) (w : World) : Prop := ∃ ι, Sat C U σ a w ι
/-- .. and all numbers from 'nx' on are free. -/
def SatE (C : Ctx) (σ : St) (a : Act) (w : World) : Prop := SatU C (fun i => σ.nx ≤ i) σ a w

/-- A state goes on: what is to be shown. -/
theorem Sat.evolve {C : Ctx} {U U' : Nat → Prop} {σ : St} {a : Act} {w w' : World} {ι ι' : Nat → Option Nat} {h' : Nat → Blk} {nx' : Nat} (S : Sat C U σ a w ι) (hfra : Fra C w')
    (hF : ∀ b, Fz C w ι σ.h b → Fz C w' ι' h' b ∧ w'.heap[b]? = w.heap[b]?)
    (hg : ∀ id, Goes w w' ι ι' σ.h h' id)
    (hbx : ∀ i cs, σ.h i = .box cs → h' i ≠ .dead)
    (hblk : ∀ id, (h' id = σ.h id ∧ ι' id = ι id ∧ ∀ b, ι id = some b → w'.heap[b]? = w.heap[b]?) ∨ BR w' (Fz C w' ι' h') ι' h' id (h' id))
    (hinj : ∀ i j b, ι' i = some b → ι' j = some b → i = j)
    (hrng : ∀ i b, ι' i = some b → (C.fr b ∨ C.X b ∧ ∃ cs, h' i = .box cs) ∧ b < w'.heap.size)
    (hfresh : ∀ i, U' i → h' i = .none ∧ ι' i = Option.none)
    (hlive : ∀ i b, ι' i = some b → h' i ≠ .none ∧ h' i ≠ .dead) : Sat C U' ⟨σ.t, h', nx'⟩ a w' ι' where
  fra := hfra
  vals := fun s => (S.vals s).mono hF hg
  size := S.size
  defers := S.defers
  blk := fun id => by
    rcases hblk id with ⟨h1, h2, h3⟩ | hb
    · have := (S.blk id).mono hF hg h2 h3
      show BR _ _ _ _ id (h' id)
      rw [h1]
      exact this
    · exact hb
  inj := hinj
  rng := hrng
  fresh := hfresh
  live := hlive
  lent := fun i b hL => by
    obtain ⟨h1, ⟨cs, h2⟩, h3⟩ := S.lent i b hL
    rcases hg i with g | g | ⟨g1, g2, g3⟩
    · rw [h2] at g; cases g
    · exact absurd g (hbx i cs h2)
    · refine ⟨g1.trans h1, ?_, (g3 b h1).trans h3⟩
      rw [h2] at g2
      cases hx : h' i with
      | box cs' => exact ⟨cs', hx⟩
      | none => simp [hx, Same] at g2
      | dead => simp [hx, Same] at g2
      | sl e sz m es => simp [hx, Same] at g2
  hand := fun i o B hO => by
    rcases S.hand i o B hO with h1 | ⟨h1, h2, h3⟩
    · rcases hg i with g | g | ⟨_, g, _⟩
      · rw [h1] at g; cases g
      · exact .inl g
      · rw [h1] at g; exact g.elim
    · rcases hg i with g | g | ⟨g1, g2, g3⟩
      · exact absurd g h2.ne.1
      · exact .inl g
      · exact .inr ⟨g1.trans h1, h2.trans g2, fun b hb => (g3 b (h1.trans hb)).trans (h3 b hb)⟩

/-- A value is put into a slot. -/
theorem Sat.put {C : Ctx} {U : Nat → Prop} {σ : St} {a : Act} {w : World} {ι : Nat → Option Nat} (S : Sat C U σ a w ι) (d : Nat) (hd : d < C.N) (v : Value) (x : AV)
    (hv : VR w (Fz C w ι σ.h) ι σ.h v x) : Sat C U ⟨upd σ.t d x, σ.h, σ.nx⟩ (a.put (some d) v) w ι where
  fra := S.fra
  vals := fun s => by
    have hsz : d < a.tmps.size := by rw [S.size]; exact hd
    by_cases hs : s = d
    · subst hs
      simp only [Act.put, upd_same]
      rw [show (a.tmps.setIfInBounds s v).getD s undef = v from by simp [Array.getD, hsz]]
      exact hv
    · have e1 : (a.put (some d) v).tmps.getD s undef = a.tmps.getD s undef := by
        simp only [Act.put, Array.getD_eq_getD_getElem?, Array.getElem?_setIfInBounds]
        rw [if_neg (fun h => hs h.symm)]
      rw [e1]
      show VR _ _ _ _ _ (upd σ.t d x s)
      rw [upd_ne _ _ _ _ hs]
      exact S.vals s
  size := by simp [Act.put, S.size]
  defers := S.defers
  blk := S.blk
  inj := S.inj
  rng := S.rng
  fresh := S.fresh
  live := S.live
  lent := S.lent
  hand := S.hand

theorem Fz.lt {C : Ctx} {w : World} {ι : Nat → Option Nat} {h : Nat → Blk} {b : Nat} (hb : Fz C w ι h b) : b < w.heap.size := hb.1

end Go.Proofs.Ytephkbajoofeoaa.Am
