/-
  THE TYPED MACHINE's STATEMENTS: operations, and groups of operations that run only where a test holds. No program in sight.
-/
import Derived.Test.YtephkbajoofeoaaAmW
namespace Go.Proofs.Ytephkbajoofeoaa.Am
set_option linter.unusedSimpArgs false
set_option linter.unusedVariables false
open Go Go.RowKit

/-- An operation; or a group of them behind a test on a slot, with the pick that ends it. -/
inductive TStm where
  | op (d : Option Nat) (o : TOp)
  | grp (s : Nat) (w : Bool) (ss : List TStm) (d : Nat) (x : TOpd)
  /-- a group whose last operation may write boxes -/
  | gw (s : Nat) (w : Bool) (ss : List TStm) (d2 : Nat) (o : TOp) (d : Nat) (x : TOpd)

mutual
def TStm.len : TStm → Nat
  | .op _ _ => 1
  | .grp _ _ ss _ _ => lenL ss + 1
  | .gw _ _ ss _ _ _ _ => lenL ss + 2
def lenL : List TStm → Nat
  | [] => 0
  | x :: xs => x.len + lenL xs
end

def pickOp (w : Bool) (s : Nat) (x : TOpd) : TOp := if w then .pick (.s s) x (.k (.c .bool false)) else .pick (.s s) (.k (.c .bool true)) x

mutual
def TStm.er (g : Option (Nat × Bool)) (i : Nat) : TStm → List AO
  | .op d o => [⟨d, o.er, g, 16 * i⟩]
  | .grp s w ss d x => erL (some (s, w)) i ss ++ [⟨some d, (pickOp w s x).er, g, 16 * (i + lenL ss)⟩]
  | .gw s w ss d2 o d x => erL (some (s, w)) i ss ++ [⟨some d2, o.er, some (s, w), 16 * (i + lenL ss)⟩, ⟨some d, (pickOp w s x).er, g, 16 * (i + (lenL ss + 1))⟩]
def erL (g : Option (Nat × Bool)) (i : Nat) : List TStm → List AO
  | [] => []
  | x :: xs => x.er g i ++ erL g (i + x.len) xs
end

mutual
def TStm.dsts : TStm → List Nat
  | .op (some d) _ => [d]
  | .op none _ => []
  | .grp _ _ ss d _ => dstsL ss ++ [d]
  | .gw _ _ ss d2 _ d _ => dstsL ss ++ [d2] ++ [d]
def dstsL : List TStm → List Nat
  | [] => []
  | x :: xs => x.dsts ++ dstsL xs
end

mutual
/-- In a group that does not run each inner test stands on a slot of the group. -/
def TStm.offK : TStm → List Nat → Bool
  | .op (some _) _, _ => true
  | .op none _, _ => false
  | .grp s _ ss _ _, ds => ds.elem s && !((dstsL ss).elem s) && offOk ss ds
  | .gw _ _ _ _ _ _ _, _ => false
def offOk : List TStm → List Nat → Bool
  | [], _ => true
  | x :: r, ds => x.offK ds && offOk r (x.dsts ++ ds)
end

def andOO : Option Prop → Option Prop → Option Prop
  | none, q => q
  | some p, none => some p
  | some p, some q => some (p ∧ q)

def impO (b : Bool) : Option Prop → Option Prop
  | none => none
  | some p => some (b = true → p)

def wrapG (g : Bool) (t1 : Nat → TV) : List Nat → List (Nat × TV) → List (Nat × TV)
  | [], t => t
  | d :: ds, t => (d, .g g (t1 d)) :: wrapG g t1 ds t

abbrev Log := List (List Nat × List Nat)

mutual
/-- Within a group: nothing is written but slots. -/
def TStm.runS (Γ : List TRow) (h : List (Nat × TBlk)) (nx i : Nat) : TStm → List (Nat × TV) → Option (Option Prop × List (Nat × TV) × Log)
  | .op d o, t => match tdelta Γ (lkT t) (lkB h) (nx + 16 * i) o with
    | some ⟨pre, v, []⟩ => match d with
      | some d => some (pre, (d, v) :: t, [(acc (Opd.ev fun s => (lkT t s).emb) o.er, [])])
      | none => none
    | _ => none
  | .grp s w ss d x, t => match lkT t s with
    | .c .bool b => bif offOk ss [] && !((dstsL ss).elem s) then (match runSL Γ h nx i ss t with
      | some (p, t1, l) => match x.ev (lkT t1) with
        | .c .bool v => some (impO (selB w b (!b)) p, (d, .c .bool (selB w (b && v) (b || v))) :: wrapG (selB w b (!b)) (lkT t1) (dstsL ss) t, l ++ [([], [])])
        | _ => none
      | none => none) else none
    | _ => none
  | .gw _ _ _ _ _ _ _, _ => none
def runSL (Γ : List TRow) (h : List (Nat × TBlk)) (nx i : Nat) : List TStm → List (Nat × TV) → Option (Option Prop × List (Nat × TV) × Log)
  | [], t => some (none, t, [])
  | x :: xs, t => match x.runS Γ h nx i t with
    | some (p, t1, l) => match runSL Γ h nx (i + x.len) xs t1 with
      | some (q, t2, m) => some (andOO p q, t2, l ++ m)
      | none => none
    | none => none
end

def TSt.app (σ : TSt) (d : Option Nat) (v : TV) (bl : List (Nat × TBlk)) : TSt :=
  ⟨match d with | some d => (d, v) :: σ.t | none => σ.t, bl.reverse ++ σ.h, σ.nx⟩

def mergeC (g : Bool) : TV → TV → Option TV
  | .c t x, .c t' y => if e : t'.beq t = true then some (.c t (cond g x (castD e y))) else none
  | _, _ => none
def mergeCs (g : Bool) : List TV → List TV → Option (List TV)
  | [], [] => some []
  | x :: xs, y :: ys => match mergeC g x y with
    | some z => match mergeCs g xs ys with
      | some zs => some (z :: zs)
      | none => none
    | none => none
  | _, _ => none
/-- What is written, where a test holds; else what was there. -/
def mergeB (g : Bool) (h : List (Nat × TBlk)) : List (Nat × TBlk) → Option (List (Nat × TBlk))
  | [] => some []
  | (i, .box cs) :: r => match lkB h i with
    | .box cs0 => match mergeCs g cs cs0 with
      | some zs => match mergeB g h r with
        | some r' => some ((i, .box zs) :: r')
        | none => none
      | none => none
    | _ => none
  | _ :: _ => none

/-- A group whose last operation may write boxes. -/
def runGW (Γ : List TRow) (i s : Nat) (w : Bool) (ss : List TStm) (d2 : Nat) (o : TOp) (d : Nat) (x : TOpd) (σ : TSt) : Option (Option Prop × TSt × Log) :=
  match lkT σ.t s with
  | .c .bool b => bif (offOk ss [] && !((dstsL ss).elem s)) && !(Nat.beq s d2) then (match runSL Γ σ.h σ.nx i ss σ.t with
    | some (p, t1, l) => match tdelta Γ (lkT t1) (lkB σ.h) (σ.nx + 16 * (i + lenL ss)) o with
      | some ⟨pre, v, bl⟩ => match mergeB (selB w b (!b)) σ.h bl with
        | some bl' => match x.ev (lkT ((d2, v) :: t1)) with
          | .c .bool xv => some (impO (selB w b (!b)) (andOO p pre), ⟨(d, .c .bool (selB w (b && xv) (b || xv))) :: wrapG (selB w b (!b)) (lkT ((d2, v) :: t1)) (dstsL ss ++ [d2]) σ.t, bl'.reverse ++ σ.h, σ.nx⟩,
              l ++ [(acc (Opd.ev fun s => (lkT t1 s).emb) o.er, bl.map Prod.fst), ([], [])])
          | _ => none
        | none => none
      | none => none
    | none => none) else none
  | _ => none

/-- A region. -/
def runR (Γ : List TRow) : Nat → List TStm → TSt → Option (Option Prop × TSt × Log)
  | _, [], σ => some (none, σ, [])
  | i, .op d o :: r, σ => match tdelta Γ σ.T σ.H (σ.nx + 16 * i) o with
    | some ⟨pre, v, bl⟩ => match runR Γ (i + 1) r (σ.app d v bl) with
      | some (q, σ', m) => some (andOO pre q, σ', (acc (Opd.ev fun s => (σ.T s).emb) o.er, bl.map Prod.fst) :: m)
      | none => none
    | none => none
  | i, .grp s w ss d x :: r, σ => match (TStm.grp s w ss d x).runS Γ σ.h σ.nx i σ.t with
    | some (p, t1, l) => match runR Γ (i + (lenL ss + 1)) r ⟨t1, σ.h, σ.nx⟩ with
      | some (q, σ', m) => some (andOO p q, σ', l ++ m)
      | none => none
    | none => none
  | i, .gw s w ss d2 o d x :: r, σ => match runGW Γ i s w ss d2 o d x σ with
    | some (p, σ1, l) => match runR Γ (i + (lenL ss + 2)) r σ1 with
      | some (q, σ', m) => some (andOO p q, σ', l ++ m)
      | none => none
    | none => none

theorem holds_andOO {p q : Option Prop} : holds (andOO p q) ↔ holds p ∧ holds q := by
  cases p <;> cases q <;> simp [andOO, holds]

theorem holds_impO {b : Bool} {p : Option Prop} : holds (impO b p) ↔ (b = true → holds p) := by
  cases p <;> simp [impO, holds]

theorem beq_ne {j d : Nat} (h : ¬ j = d) : Nat.beq j d = false := by
  cases hb : Nat.beq j d with
  | true => exact absurd (Nat.eq_of_beq_eq_true hb) h
  | false => rfl

theorem lkT_cons (d : Nat) (v : TV) (t : List (Nat × TV)) : lkT ((d, v) :: t) = upd (lkT t) d v := by
  funext j
  simp only [lkT, upd]
  by_cases h : j = d
  · subst h; simp
  · rw [if_neg h, beq_ne h]; rfl

theorem lkB_cons (d : Nat) (v : TBlk) (t : List (Nat × TBlk)) : lkB ((d, v) :: t) = upd (lkB t) d v := by
  funext j
  simp only [lkB, upd]
  by_cases h : j = d
  · subst h; simp
  · rw [if_neg h, beq_ne h]; rfl

theorem emb_upd (T : Nat → TV) (d : Nat) (v : TV) : (fun s => (upd T d v s).emb) = upd (fun s => (T s).emb) d v.emb := by
  funext s; simp only [upd]; split <;> rfl
theorem embB_upd (T : Nat → TBlk) (d : Nat) (v : TBlk) : (fun s => (upd T d v s).emb) = upd (fun s => (T s).emb) d v.emb := by
  funext s; simp only [upd]; split <;> rfl

theorem updL_emb : ∀ (bl : List (Nat × TBlk)) (h : List (Nat × TBlk)), (fun i => (lkB (bl.reverse ++ h) i).emb) = updL (fun i => (lkB h i).emb) (bl.map embP)
  | [], h => rfl
  | (d, v) :: bl, h => by
    rw [List.reverse_cons, List.append_assoc, List.singleton_append, updL_emb bl ((d, v) :: h), List.map_cons, embP, updL, lkB_cons, embB_upd]

theorem app_emb (σ : TSt) (d : Option Nat) (v : TV) (bl : List (Nat × TBlk)) : (σ.app d v bl).emb = σ.emb.app d ⟨v.emb, bl.map embP⟩ := by
  unfold TSt.app TSt.emb St.app TSt.T TSt.H
  simp only [updL_emb, putO]
  cases d with
  | none => rfl
  | some d => simp only [lkT_cons, emb_upd]

theorem keys_emb (bl : List (Nat × TBlk)) : keys (bl.map embP) = bl.map Prod.fst := by
  simp [keys, embP, List.map_map, Function.comp_def]

theorem drawF_append {Γ : Tab} : ∀ (l m : List AO) (σ : St), drawF Γ (l ++ m) σ = match drawF Γ l σ with
    | some (σ', a) => match drawF Γ m σ' with
      | some (σ'', b) => some (σ'', a ++ b)
      | none => none
    | none => none
  | [], m, σ => by
    simp only [List.nil_append, drawF]
    cases drawF Γ m σ with
    | none => rfl
    | some x => obtain ⟨a, b⟩ := x; rfl
  | o :: l, m, σ => by
    simp only [List.cons_append, drawF]
    cases step1 Γ o σ with
    | none => rfl
    | some x =>
      obtain ⟨σ', a, w⟩ := x
      simp only [drawF_append l m σ']
      cases drawF Γ l σ' with
      | none => rfl
      | some x =>
        obtain ⟨σ2, b⟩ := x
        simp only
        cases drawF Γ m σ2 with
        | none => rfl
        | some y => obtain ⟨σ3, c⟩ := y; rfl

/-- The group does not run. -/
def Off (t : Nat → AV) (s : Nat) (w : Bool) : Prop := t s = .t [] ∨ ∃ c, t s = .c (.v (.bool c)) ∧ c ≠ w

def offT (ds : List Nat) (t : Nat → AV) : Nat → AV := fun j => if j ∈ ds then .t [] else t j

theorem step1_off {Γ : Tab} {d : Option Nat} {op : AOp} {s : Nat} {w : Bool} {off : Nat} {σ : St} (h : Off σ.t s w) :
    step1 Γ ⟨d, op, some (s, w), off⟩ σ = some (⟨putO σ.t d (.t []), σ.h, σ.nx⟩, [], []) := by
  unfold step1
  rcases h with h | ⟨c, h, hc⟩
  · simp only [h]
  · simp only [h, if_neg hc]

theorem offT_append (a b : List Nat) (t : Nat → AV) : offT (a ++ b) t = offT b (offT a t) := by
  funext j
  simp only [offT, List.mem_append]
  by_cases h1 : j ∈ b
  · simp [h1]
  · by_cases h2 : j ∈ a <;> simp [h1, h2]

theorem offT_put (d : Nat) (t : Nat → AV) : upd t d (.t []) = offT [d] t := by
  funext j
  simp only [offT, upd, List.mem_singleton]

theorem Off.offT {t : Nat → AV} {s : Nat} {w : Bool} (h : Off t s w) (ds : List Nat) (hs : s ∉ ds) : Off (offT ds t) s w := by
  have : Am.offT ds t s = t s := by simp [Am.offT, hs]
  unfold Off
  rw [this]
  exact h

theorem run_off {Γ : Tab} {h : Nat → Blk} {nx : Nat} : ∀ (ss : List TStm) (ds : List Nat) (i s : Nat) (w : Bool) (t : Nat → AV), offOk ss ds = true → (∀ d, d ∈ ds → t d = .t []) → Off t s w → s ∉ dstsL ss →
    ∃ l : Log, drawF Γ (erL (some (s, w)) i ss) ⟨t, h, nx⟩ = some (⟨offT (dstsL ss) t, h, nx⟩, l) ∧ l.length = lenL ss ∧ ∀ x, x ∈ l → x = ([], [])
  | [], ds, i, s, w, t, hk, hds, ho, hs => by
    refine ⟨[], ?_, rfl, by simp⟩
    show some (_, _) = _
    have : offT [] t = t := by funext j; simp [offT]
    rw [dstsL, this]
  | .op (some d) o :: r, ds, i, s, w, t, hk, hds, ho, hs => by
    simp only [offOk, TStm.offK, TStm.dsts, List.singleton_append, Bool.true_and] at hk
    simp only [dstsL, TStm.dsts, List.mem_append, not_or, List.mem_singleton] at hs
    have ho' : Off (upd t d (.t [])) s w := by rw [offT_put]; exact ho.offT [d] (by simpa using hs.1)
    obtain ⟨l, h1, h2, h3⟩ := run_off (Γ := Γ) (h := h) (nx := nx) r (d :: ds) (i + 1) s w (upd t d (.t [])) hk (fun d' hd' => by
      simp only [upd]
      split
      · rfl
      · rename_i hne
        rcases List.mem_cons.1 hd' with rfl | hd'
        · exact absurd rfl hne
        · exact hds d' hd') ho' hs.2
    refine ⟨([], []) :: l, ?_, by simp [lenL, TStm.len, h2, Nat.add_comm], by simpa using h3⟩
    simp only [erL, TStm.er, TStm.len, List.singleton_append, drawF, step1_off (σ := ⟨t, h, nx⟩) ho, putO, h1, dstsL, TStm.dsts]
    rw [offT_put, ← offT_append]
    rfl
  | .grp s2 w2 ss d x :: r, ds, i, s, w, t, hk, hds, ho, hs => by
    simp only [offOk, TStm.offK, TStm.dsts, Bool.and_eq_true, Bool.not_eq_true'] at hk
    obtain ⟨⟨⟨k1, k2⟩, k3⟩, k4⟩ := hk
    have k1 : s2 ∈ ds := by simpa using k1
    have k2 : s2 ∉ dstsL ss := by simpa using k2
    simp only [dstsL, TStm.dsts, List.mem_append, not_or, List.mem_singleton] at hs
    obtain ⟨l1, h1, h2, h3⟩ := run_off (Γ := Γ) (h := h) (nx := nx) ss ds i s2 w2 t k3 hds (.inl (hds s2 k1)) k2
    have ho1 : Off (offT (dstsL ss) t) s w := ho.offT _ hs.1.1
    have ho2 : Off (upd (offT (dstsL ss) t) d (.t [])) s w := by rw [offT_put]; exact ho1.offT [d] (by simpa using hs.1.2)
    obtain ⟨l2, h4, h5, h6⟩ := run_off (Γ := Γ) (h := h) (nx := nx) r ((dstsL ss ++ [d]) ++ ds) (i + (lenL ss + 1)) s w (upd (offT (dstsL ss) t) d (.t [])) k4 (fun d' hd' => by
      simp only [upd]
      split
      · rfl
      · rename_i hne
        simp only [offT]
        split
        · rfl
        · rename_i hn
          simp only [List.mem_append, List.mem_singleton] at hd'
          rcases hd' with (hd' | hd') | hd'
          · exact absurd hd' hn
          · exact absurd hd' hne
          · exact hds d' hd') ho2 hs.2
    refine ⟨l1 ++ [([], [])] ++ l2, ?_, by simp [lenL, TStm.len, h2, h5]; omega, fun y hy => ?_⟩
    · simp only [erL, TStm.er, TStm.len, List.append_assoc, drawF_append, h1, List.singleton_append, drawF, step1_off (σ := ⟨offT (dstsL ss) t, h, nx⟩) ho1, putO, h4, dstsL, TStm.dsts]
      rw [offT_put, ← offT_append, ← offT_append]
      rfl
    · rcases List.mem_append.1 hy with hy | hy
      · rcases List.mem_append.1 hy with hy | hy
        · exact h3 y hy
        · simpa using hy
      · exact h6 y hy
  | .op none o :: r, ds, i, s, w, t, hk, hds, ho, hs => by simp [offOk, TStm.offK] at hk
  | .gw _ _ _ _ _ _ _ :: r, ds, i, s, w, t, hk, hds, ho, hs => by simp [offOk, TStm.offK] at hk

theorem wrapG_get (g : Bool) (t1 : Nat → TV) : ∀ (ds : List Nat) (t : List (Nat × TV)) (j : Nat), lkT (wrapG g t1 ds t) j = if j ∈ ds then .g g (t1 j) else lkT t j
  | [], t, j => by simp [wrapG]
  | d :: ds, t, j => by
    simp only [wrapG, lkT_cons, upd]
    by_cases h : j = d
    · subst h; simp
    · rw [if_neg h, wrapG_get g t1 ds t j]
      simp [h]

mutual
theorem runS_out {Γ : List TRow} {h : List (Nat × TBlk)} {nx : Nat} : ∀ (x : TStm) {i : Nat} {t t1 : List (Nat × TV)} {p : Option Prop} {l : Log}, x.runS Γ h nx i t = some (p, t1, l) → ∀ j, j ∉ x.dsts → lkT t1 j = lkT t j
  | .op d o, i, t, t1, p, l, e, j, hj => by
    rw [TStm.runS] at e
    split at e
    · split at e
      · cases e
        simp only [TStm.dsts, List.mem_singleton] at hj
        rw [lkT_cons]
        simp [upd, hj]
      · cases e
    · cases e
  | .grp s w ss d x, i, t, t1, p, l, e, j, hj => by
    rw [TStm.runS] at e
    split at e
    rotate_left
    · cases e
    obtain ⟨_, e⟩ := bif_some e
    split at e
    rotate_left
    · cases e
    split at e
    rotate_left
    · cases e
    cases e
    simp only [TStm.dsts, List.mem_append, List.mem_singleton, not_or] at hj
    rw [lkT_cons]
    simp only [upd, hj.2, if_false]
    rw [wrapG_get, if_neg hj.1]
  | .gw _ _ _ _ _ _ _, i, t, t1, p, l, e, j, hj => by rw [TStm.runS] at e; cases e
theorem runSL_out {Γ : List TRow} {h : List (Nat × TBlk)} {nx : Nat} : ∀ (ss : List TStm) {i : Nat} {t t1 : List (Nat × TV)} {p : Option Prop} {l : Log}, runSL Γ h nx i ss t = some (p, t1, l) → ∀ j, j ∉ dstsL ss → lkT t1 j = lkT t j
  | [], i, t, t1, p, l, e, j, hj => by rw [runSL] at e; cases e; rfl
  | x :: xs, i, t, t1, p, l, e, j, hj => by
    rw [runSL] at e
    split at e
    rotate_left
    · cases e
    rename_i h1
    split at e
    rotate_left
    · cases e
    rename_i h2
    cases e
    simp only [dstsL, List.mem_append, not_or] at hj
    rw [runSL_out xs h2 j hj.2, runS_out x h1 j hj.1]
end

/-- What was looked at and written: all of it, or, where a test did not hold, nothing. -/
def SubLog (l' l : List (List Nat × List Nat)) : Prop := l'.length = l.length ∧ ∀ (k : Nat) (a : List Nat × List Nat), l'[k]? = some a → a = ([], []) ∨ l[k]? = some a

theorem SubLog.refl (l : Log) : SubLog l l := ⟨rfl, fun _ _ h => .inr h⟩
theorem SubLog.off {l' l : Log} (h : l'.length = l.length) (h2 : ∀ x, x ∈ l' → x = ([], [])) : SubLog l' l := ⟨h, fun _ a ha => .inl (h2 a (List.mem_of_getElem? ha))⟩
theorem SubLog.append {a a' b b' : Log} (h : SubLog a' a) (h2 : SubLog b' b) : SubLog (a' ++ b') (a ++ b) := by
  refine ⟨by simp [h.1, h2.1], fun k x hk => ?_⟩
  rw [List.getElem?_append] at hk ⊢
  rw [h.1] at hk
  split at hk
  · rename_i hlt; rw [if_pos hlt]; exact (h.2 k x hk)
  · rename_i hlt; rw [if_neg hlt]; exact (h2.2 _ x hk)

theorem noconf_sub {l' l : Log} {U : List (Nat × Nat)} (h : SubLog l' l) (hn : noconf l U = true) : noconf l' U = true := by
  unfold noconf at hn ⊢
  rw [List.all_eq_true] at hn ⊢
  rintro ⟨i, j⟩ hij
  have := hn (i, j) hij
  simp only at this ⊢
  split
  rotate_left
  · rfl
  rename_i a w a' w' h1 h2
  rcases h.2 i _ h1 with e1 | e1
  · cases e1
    simp [apartL]
  · rcases h.2 j _ h2 with e2 | e2
    · cases e2
      simp [apartL]
    · rw [e1, e2] at this
      exact this

mutual
theorem runS_len {Γ : List TRow} {h : List (Nat × TBlk)} {nx : Nat} : ∀ (x : TStm) {i : Nat} {t t1 : List (Nat × TV)} {p : Option Prop} {l : Log}, x.runS Γ h nx i t = some (p, t1, l) → l.length = x.len
  | .op d o, i, t, t1, p, l, e => by
    rw [TStm.runS] at e
    split at e
    · split at e
      · cases e; rfl
      · cases e
    · cases e
  | .grp s w ss d x, i, t, t1, p, l, e => by
    rw [TStm.runS] at e
    split at e
    rotate_left
    · cases e
    obtain ⟨_, e⟩ := bif_some e
    split at e
    rotate_left
    · cases e
    rename_i hr
    split at e
    rotate_left
    · cases e
    cases e
    simp [TStm.len, runSL_len' ss hr]
  | .gw _ _ _ _ _ _ _, i, t, t1, p, l, e => by rw [TStm.runS] at e; cases e
theorem runSL_len' {Γ : List TRow} {h : List (Nat × TBlk)} {nx : Nat} : ∀ (ss : List TStm) {i : Nat} {t t1 : List (Nat × TV)} {p : Option Prop} {l : Log}, runSL Γ h nx i ss t = some (p, t1, l) → l.length = lenL ss
  | [], i, t, t1, p, l, e => by rw [runSL] at e; cases e; rfl
  | x :: xs, i, t, t1, p, l, e => by
    rw [runSL] at e
    split at e
    rotate_left
    · cases e
    rename_i h1
    split at e
    rotate_left
    · cases e
    rename_i h2
    cases e
    simp [lenL, runS_len x h1, runSL_len' xs h2]
end
theorem runSL_len {Γ : List TRow} {h : List (Nat × TBlk)} {nx : Nat} {ss : List TStm} {i : Nat} {t t1 : List (Nat × TV)} {p : Option Prop} {l : Log} (e : runSL Γ h nx i ss t = some (p, t1, l)) : l.length = lenL ss := runSL_len' ss e

set_option linter.unusedSectionVars false
section
variable {Γ : List TRow} {ΓA : Tab} (hΓ : TabSim Γ ΓA) {h : List (Nat × TBlk)} {nx : Nat}

def OnG (g : Option (Nat × Bool)) (t : List (Nat × TV)) : Prop := match g with
  | none => True
  | some (s, w) => lkT t s = .c .bool w

def outG (g : Option (Nat × Bool)) (ds : List Nat) : Prop := match g with
  | none => True
  | some (s, _) => s ∉ ds

theorem OnG.next {g : Option (Nat × Bool)} {t t1 : List (Nat × TV)} {ds : List Nat} (h : OnG g t) (ho : outG g ds) (hk : ∀ j, j ∉ ds → lkT t1 j = lkT t j) : OnG g t1 := by
  cases g with
  | none => trivial
  | some x => obtain ⟨s, w⟩ := x; exact (hk s ho).trans h

theorem step1_on {op : AOp} {d : Option Nat} {g : Option (Nat × Bool)} {off : Nat} {t : List (Nat × TV)} (hg : OnG g t) :
    step1 ΓA ⟨d, op, g, off⟩ (TSt.emb ⟨t, h, nx⟩) = match delta ΓA (Opd.ev fun s => (lkT t s).emb) (fun i => (lkB h i).emb) (nx + off) op with
      | some e => some ((TSt.emb ⟨t, h, nx⟩).app d e, acc (Opd.ev fun s => (lkT t s).emb) op, keys e.blks)
      | none => none := by
  unfold step1
  cases g with
  | none => rfl
  | some x =>
    obtain ⟨s, w⟩ := x
    have : (TSt.emb ⟨t, h, nx⟩).t s = .c (.v (.bool w)) := by
      show (lkT t s).emb = _
      rw [show lkT t s = .c .bool w from hg]
      rfl
    simp only [this, if_true]
    rfl

include hΓ in
mutual
theorem runS_on : ∀ (x : TStm) {i : Nat} {g : Option (Nat × Bool)} {t t1 : List (Nat × TV)} {p : Option Prop} {l : Log}, x.runS Γ h nx i t = some (p, t1, l) → holds p → OnG g t → outG g x.dsts →
    ∃ l', drawF ΓA (x.er g i) (TSt.emb ⟨t, h, nx⟩) = some (TSt.emb ⟨t1, h, nx⟩, l') ∧ SubLog l' l
  | .op d o, i, g, t, t1, p, l, e, hp, hg, ho => by
    rw [TStm.runS] at e
    split at e
    rotate_left
    · cases e
    rename_i pre v he
    split at e
    rotate_left
    · cases e
    rename_i d
    cases e
    have h1 := tdelta_sim hΓ he hp
    refine ⟨[(acc (Opd.ev fun s => (lkT t s).emb) o.er, [])], ?_, .refl _⟩
    simp only [TStm.er, drawF, step1_on (ΓA := ΓA) hg, h1, TE.emb, List.map_nil, keys]
    congr 2
    have := app_emb ⟨t, h, nx⟩ (some d) v []
    simp only [List.map_nil] at this
    exact this.symm
  | .grp s w ss d x, i, g, t, t1, p, l, e, hp, hg, ho => by
    rw [TStm.runS] at e
    split at e
    rotate_left
    · cases e
    rename_i b hb
    obtain ⟨q, e⟩ := bif_some e
    simp only [Bool.and_eq_true, Bool.not_eq_true'] at q
    have q2 : s ∉ dstsL ss := by simpa using q.2
    split at e
    rotate_left
    · cases e
    rename_i p' t1 l1 hr
    split at e
    rotate_left
    · cases e
    rename_i v hv
    cases e
    have ho1 : outG g (dstsL ss) := by
      cases g with
      | none => trivial
      | some y => obtain ⟨sg, wg⟩ := y; simp only [outG, TStm.dsts, List.mem_append, not_or] at ho ⊢; exact ho.1
    have hout := runSL_out ss hr
    rw [holds_impO] at hp
    by_cases hon : (selB w b (!b)) = true
    · have hbw : b = w := by cases b <;> cases w <;> simp [selB] at hon ⊢
      obtain ⟨l', h1, h2⟩ := runSL_on ss (g := some (s, w)) hr (hp hon) (by show lkT t s = _; rw [hb, hbw]) q2
      have hg1 : OnG g t1 := hg.next ho1 hout
      have hs1 : lkT t1 s = .c .bool b := by rw [hout s q2, hb]
      refine ⟨l' ++ [(acc (Opd.ev fun s => (lkT t1 s).emb) (pickOp w s x).er, [])], ?_, h2.append ⟨rfl, fun k a ha => ?_⟩⟩
      · simp only [TStm.er, drawF_append, h1, drawF, step1_on (ΓA := ΓA) hg1]
        have hd : delta ΓA (Opd.ev fun s => (lkT t1 s).emb) (fun i => (lkB h i).emb) (nx + 16 * (i + lenL ss)) (pickOp w s x).er = some ⟨.c (.v (.bool (selB w (b && v) (b || v)))), []⟩ := by
          subst hbw
          have e1 : (TOpd.s s).ev (lkT t1) = .c .bool b := hs1
          cases b
          · simp only [pickOp, Bool.false_eq_true, if_false, TOp.er, delta, ev_er, e1, hv]
            rfl
          · simp only [pickOp, if_true, TOp.er, delta, ev_er, e1, hv]
            rfl
        simp only [hd, keys, List.map_nil]
        congr 2
        rw [hon]
        unfold St.app TSt.emb TSt.T TSt.H
        simp only [putO, updL]
        congr 1
        funext j
        rw [lkT_cons, upd, upd]
        split
        · rfl
        · rw [wrapG_get]
          split
          · rfl
          · rename_i hj; rw [hout j hj]
      · cases k with
        | zero =>
          left
          simp only [List.getElem?_cons_zero, Option.some.injEq] at ha
          rw [← ha]
          cases w <;> rfl
        | succ k => simp at ha
    · have hon' : (selB w b (!b)) = false := by simpa using hon
      have hbw : b ≠ w := by rintro rfl; cases b <;> simp [selB] at hon
      obtain ⟨l', h1, h2, h3⟩ := run_off (Γ := ΓA) (h := fun i => (lkB h i).emb) (nx := nx) ss [] i s w (fun s => (lkT t s).emb) q.1 (by simp) (.inr ⟨b, by show (lkT t s).emb = _; rw [hb]; rfl, hbw⟩) q2
      have hoff : ∀ s', s' ∉ dstsL ss → offT (dstsL ss) (fun s => (lkT t s).emb) s' = (lkT t s').emb := fun s' hs' => by simp [offT, hs']
      have hstep : ∀ op, step1 ΓA ⟨some d, op, g, 16 * (i + lenL ss)⟩ ⟨offT (dstsL ss) (fun s => (lkT t s).emb), fun i => (lkB h i).emb, nx⟩ = match delta ΓA (Opd.ev (offT (dstsL ss) fun s => (lkT t s).emb)) (fun i => (lkB h i).emb) (nx + 16 * (i + lenL ss)) op with
          | some e => some (St.app ⟨offT (dstsL ss) (fun s => (lkT t s).emb), fun i => (lkB h i).emb, nx⟩ (some d) e, acc (Opd.ev (offT (dstsL ss) fun s => (lkT t s).emb)) op, keys e.blks)
          | none => none := by
        intro op
        unfold step1
        cases g with
        | none => rfl
        | some y =>
          obtain ⟨sg, wg⟩ := y
          have : offT (dstsL ss) (fun s => (lkT t s).emb) sg = .c (.v (.bool wg)) := by
            rw [hoff sg ho1, show lkT t sg = .c .bool wg from hg]; rfl
          simp only [this, if_true]
          rfl
      refine ⟨l' ++ [([], [])], ?_, (SubLog.off (by rw [h2, runSL_len hr]) h3).append (.refl _)⟩
      simp only [TStm.er, drawF_append]
      rw [show TSt.emb ⟨t, h, nx⟩ = ⟨fun s => (lkT t s).emb, fun i => (lkB h i).emb, nx⟩ from rfl, h1]
      simp only [drawF, hstep]
      have hd : delta ΓA (Opd.ev (offT (dstsL ss) fun s => (lkT t s).emb)) (fun i => (lkB h i).emb) (nx + 16 * (i + lenL ss)) (pickOp w s x).er = some ⟨.c (.v (.bool (selB w (b && v) (b || v)))), []⟩ := by
        have hs1 : offT (dstsL ss) (fun s => (lkT t s).emb) s = .c (.v (.bool b)) := by rw [hoff s q2, hb]; rfl
        cases w <;> cases b <;> first
          | exact absurd rfl hbw
          | (simp only [pickOp, Bool.false_eq_true, if_false, if_true, TOp.er, delta, TOpd.er, Opd.ev, hs1]; rfl)
      simp only [hd, keys, List.map_nil]
      have hacc : acc (Opd.ev (offT (dstsL ss) fun s => (lkT t s).emb)) (pickOp w s x).er = [] := by cases w <;> rfl
      rw [hacc, hon']
      congr 2
      unfold St.app TSt.emb TSt.T TSt.H
      simp only [putO, updL]
      congr 1
      funext j
      rw [lkT_cons, upd, upd]
      split
      · rfl
      · rw [wrapG_get]
        simp only [offT]
        split
        · rfl
        · rfl
  | .gw _ _ _ _ _ _ _, i, g, t, t1, p, l, e, hp, hg, ho => by rw [TStm.runS] at e; cases e
theorem runSL_on : ∀ (ss : List TStm) {i : Nat} {g : Option (Nat × Bool)} {t t1 : List (Nat × TV)} {p : Option Prop} {l : Log}, runSL Γ h nx i ss t = some (p, t1, l) → holds p → OnG g t → outG g (dstsL ss) →
    ∃ l', drawF ΓA (erL g i ss) (TSt.emb ⟨t, h, nx⟩) = some (TSt.emb ⟨t1, h, nx⟩, l') ∧ SubLog l' l
  | [], i, g, t, t1, p, l, e, hp, hg, ho => by rw [runSL] at e; cases e; exact ⟨[], rfl, .refl _⟩
  | x :: xs, i, g, t, t1, p, l, e, hp, hg, ho => by
    rw [runSL] at e
    split at e
    rotate_left
    · cases e
    rename_i p1 t2 l1 h1
    split at e
    rotate_left
    · cases e
    rename_i p2 t3 l2 h2
    cases e
    rw [holds_andOO] at hp
    have ho' : outG g x.dsts ∧ outG g (dstsL xs) := by
      cases g with
      | none => exact ⟨trivial, trivial⟩
      | some y => obtain ⟨sg, wg⟩ := y; simp only [outG, dstsL, List.mem_append, not_or] at ho ⊢; exact ho
    obtain ⟨l1', h3, h4⟩ := runS_on x h1 hp.1 hg ho'.1
    obtain ⟨l2', h5, h6⟩ := runSL_on xs h2 hp.2 (hg.next ho'.1 (runS_out x h1)) ho'.2
    exact ⟨l1' ++ l2', by simp only [erL, drawF_append, h3, h5], h4.append h6⟩
end

theorem mergeC_on {x y z : TV} (e : mergeC true x y = some z) : z = x := by
  unfold mergeC at e
  split at e
  · split at e
    · cases e; rfl
    · cases e
  · cases e
theorem mergeCs_on : ∀ {x y z : List TV}, mergeCs true x y = some z → z = x
  | [], [], z, e => by simp only [mergeCs] at e; cases e; rfl
  | x :: xs, y :: ys, z, e => by
    simp only [mergeCs] at e
    split at e
    rotate_left
    · cases e
    rename_i h1
    split at e
    rotate_left
    · cases e
    rename_i h2
    cases e
    rw [mergeC_on h1, mergeCs_on h2]
  | [], _ :: _, z, e => by simp [mergeCs] at e
  | _ :: _, [], z, e => by simp [mergeCs] at e
theorem mergeB_on {h : List (Nat × TBlk)} : ∀ {bl bl' : List (Nat × TBlk)}, mergeB true h bl = some bl' → bl' = bl
  | [], bl', e => by simp only [mergeB] at e; cases e; rfl
  | (i, .box cs) :: r, bl', e => by
    simp only [mergeB] at e
    split at e
    rotate_left
    · cases e
    split at e
    rotate_left
    · cases e
    rename_i h1
    split at e
    rotate_left
    · cases e
    rename_i h2
    cases e
    rw [mergeCs_on h1, mergeB_on h2]
  | (i, .none) :: r, bl', e => by simp [mergeB] at e
  | (i, .dead) :: r, bl', e => by simp [mergeB] at e
  | (i, .sl _ _ _ _) :: r, bl', e => by simp [mergeB] at e
theorem mergeC_off {x y z : TV} (e : mergeC false x y = some z) : z = y := by
  unfold mergeC at e
  split at e
  · split at e
    · rename_i t x t' y h
      cases e
      have := CT.beq_eq _ _ h
      subst this
      rfl
    · cases e
  · cases e
theorem mergeCs_off : ∀ {x y z : List TV}, mergeCs false x y = some z → z = y
  | [], [], z, e => by simp only [mergeCs] at e; cases e; rfl
  | x :: xs, y :: ys, z, e => by
    simp only [mergeCs] at e
    split at e
    rotate_left
    · cases e
    rename_i h1
    split at e
    rotate_left
    · cases e
    rename_i h2
    cases e
    rw [mergeC_off h1, mergeCs_off h2]
  | [], _ :: _, z, e => by simp [mergeCs] at e
  | _ :: _, [], z, e => by simp [mergeCs] at e
theorem mergeB_off {h : List (Nat × TBlk)} : ∀ {bl bl' : List (Nat × TBlk)}, mergeB false h bl = some bl' → updL (fun i => (lkB h i).emb) (bl'.map embP) = fun i => (lkB h i).emb
  | [], bl', e => by simp only [mergeB] at e; cases e; rfl
  | (i, .box cs) :: r, bl', e => by
    simp only [mergeB] at e
    split at e
    rotate_left
    · cases e
    rename_i cs0 h0
    split at e
    rotate_left
    · cases e
    rename_i h1
    split at e
    rotate_left
    · cases e
    rename_i h2
    cases e
    rw [mergeCs_off h1, List.map_cons, embP, updL]
    show updL (upd (fun i => (lkB h i).emb) i (TBlk.emb (.box cs0))) _ = _
    have : upd (fun i => (lkB h i).emb) i (TBlk.emb (.box cs0)) = fun i => (lkB h i).emb := by
      funext j
      simp only [upd]
      split
      · rename_i hj; rw [hj, ← h0]
      · rfl
    rw [this]
    exact mergeB_off h2
  | (i, .none) :: r, bl', e => by simp [mergeB] at e
  | (i, .dead) :: r, bl', e => by simp [mergeB] at e
  | (i, .sl _ _ _ _) :: r, bl', e => by simp [mergeB] at e

include hΓ in
theorem gw_sim {i s : Nat} {w : Bool} {ss : List TStm} {d2 : Nat} {o : TOp} {d : Nat} {x : TOpd} {σ σ' : TSt} {p : Option Prop} {l : Log} (e : runGW Γ i s w ss d2 o d x σ = some (p, σ', l)) (hp : holds p) :
    ∃ l', drawF ΓA ((TStm.gw s w ss d2 o d x).er none i) σ.emb = some (σ'.emb, l') ∧ SubLog l' l := by
  obtain ⟨t, h, nx⟩ := σ
  unfold runGW at e
  split at e
  rotate_left
  · cases e
  rename_i b hb
  obtain ⟨q, e⟩ := bif_some e
  simp only [Bool.and_eq_true, Bool.not_eq_true'] at q
  obtain ⟨⟨q1, q2⟩, q3⟩ := q
  have q2 : s ∉ dstsL ss := by simpa using q2
  have q3 : ¬ s = d2 := fun h => by rw [h] at q3; simp at q3
  split at e
  rotate_left
  · cases e
  rename_i p' t1 l1 hr
  split at e
  rotate_left
  · cases e
  rename_i pre v bl he
  split at e
  rotate_left
  · cases e
  rename_i bl' hm
  split at e
  rotate_left
  · cases e
  rename_i xv hv
  cases e
  simp only at hb hr he hm ⊢
  have hout := runSL_out ss hr
  rw [holds_impO] at hp
  by_cases hon : (selB w b (!b)) = true
  · have hbw : b = w := by cases b <;> cases w <;> simp [selB] at hon ⊢
    have hp := hp hon
    rw [holds_andOO] at hp
    obtain ⟨l', h1, h2⟩ := runSL_on hΓ ss (g := some (s, w)) hr hp.1 (by show lkT t s = _; rw [hb, hbw]) q2
    have hs1 : lkT t1 s = .c .bool b := by rw [hout s q2, hb]
    have hd1 := tdelta_sim hΓ he hp.2
    rw [hon] at hm
    have hbl := mergeB_on hm
    subst hbl
    have hs2 : lkT ((d2, v) :: t1) s = .c .bool b := by rw [lkT_cons]; simp [upd, q3, hs1]
    have hd : delta ΓA (Opd.ev fun s => (lkT ((d2, v) :: t1) s).emb) (fun i => (lkB (bl'.reverse ++ h) i).emb) (nx + 16 * (i + (lenL ss + 1))) (pickOp w s x).er = some ⟨.c (.v (.bool (selB w (b && xv) (b || xv)))), []⟩ := by
      subst hbw
      have e1 : (TOpd.s s).ev (lkT ((d2, v) :: t1)) = .c .bool b := hs2
      cases b
      · simp only [pickOp, Bool.false_eq_true, if_false, TOp.er, delta, ev_er, e1, hv]
        rfl
      · simp only [pickOp, if_true, TOp.er, delta, ev_er, e1, hv]
        rfl
    refine ⟨l' ++ [(acc (Opd.ev fun s => (lkT t1 s).emb) o.er, bl'.map Prod.fst), (acc (Opd.ev fun s => (lkT ((d2, v) :: t1) s).emb) (pickOp w s x).er, [])], ?_, h2.append ⟨rfl, fun k a ha => ?_⟩⟩
    · simp only [TStm.er, drawF_append, h1, drawF, step1_on (ΓA := ΓA) (g := some (s, w)) (t := t1) (by show lkT t1 s = _; rw [hs1, hbw]), hd1, TE.emb, ← app_emb]
      simp only [TSt.app, step1_on (ΓA := ΓA) (g := none) trivial, hd, keys_emb]
      refine congrArg some (Prod.ext ?_ rfl)
      rw [hon]
      unfold St.app TSt.emb TSt.T TSt.H
      simp only [putO, updL]
      congr 1
      funext j
      rw [lkT_cons d, upd, upd]
      split
      · rfl
      · rw [wrapG_get]
        split
        · rfl
        · rename_i hj
          rw [List.mem_append, List.mem_singleton, not_or] at hj
          rw [lkT_cons, upd, if_neg hj.2, hout j hj.1]
    · match k, ha with
      | 0, ha => exact .inr ha
      | 1, ha =>
        left
        simp only [List.getElem?_cons_succ, List.getElem?_cons_zero, Option.some.injEq] at ha
        rw [← ha]
        cases w <;> rfl
      | k + 2, ha => simp at ha
  · have hon' : (selB w b (!b)) = false := by simpa using hon
    have hbw : b ≠ w := by rintro rfl; cases b <;> simp [selB] at hon
    have hof : Off (fun s => (lkT t s).emb) s w := .inr ⟨b, by show (lkT t s).emb = _; rw [hb]; rfl, hbw⟩
    obtain ⟨l', h1, h2, h3⟩ := run_off (Γ := ΓA) (h := fun i => (lkB h i).emb) (nx := nx) ss [] i s w (fun s => (lkT t s).emb) q1 (by simp) hof q2
    have hst := fun op dd off => step1_off (Γ := ΓA) (d := dd) (op := op) (off := off) (σ := ⟨offT (dstsL ss) (fun s => (lkT t s).emb), fun i => (lkB h i).emb, nx⟩) (hof.offT _ q2)
    rw [hon'] at hm
    have hbl := mergeB_off hm
    have hs1 : offT (dstsL ss ++ [d2]) (fun s => (lkT t s).emb) s = .c (.v (.bool b)) := by
      have : s ∉ dstsL ss ++ [d2] := by simp [q2, q3]
      simp only [offT, this, if_false, hb]; rfl
    refine ⟨l' ++ [([], []), ([], [])], ?_, (SubLog.off (by rw [h2, runSL_len hr]) h3).append ⟨rfl, fun k a ha => .inl ?_⟩⟩
    rotate_left
    · match k, ha with
      | 0, ha => simpa using ha.symm
      | 1, ha => simpa using ha.symm
      | k + 2, ha => simp at ha
    simp only [TStm.er, drawF_append]
    rw [show TSt.emb ⟨t, h, nx⟩ = ⟨fun s => (lkT t s).emb, fun i => (lkB h i).emb, nx⟩ from rfl, h1]
    simp only [drawF, hst, putO]
    rw [offT_put, ← offT_append]
    have hd : delta ΓA (Opd.ev (offT (dstsL ss ++ [d2]) fun s => (lkT t s).emb)) (fun i => (lkB h i).emb) (nx + 16 * (i + (lenL ss + 1))) (pickOp w s x).er = some ⟨.c (.v (.bool (selB w (b && xv) (b || xv)))), []⟩ := by
      cases w <;> cases b <;> first
        | exact absurd rfl hbw
        | (simp only [pickOp, Bool.false_eq_true, if_false, if_true, TOp.er, delta, TOpd.er, Opd.ev, hs1]; rfl)
    have hacc : acc (Opd.ev (offT (dstsL ss ++ [d2]) fun s => (lkT t s).emb)) (pickOp w s x).er = [] := by cases w <;> rfl
    simp only [step1, hd, keys, List.map_nil, hacc, hon']
    congr 2
    unfold St.app TSt.emb TSt.T TSt.H
    simp only [putO, updL, updL_emb, hbl]
    congr 1
    funext j
    rw [lkT_cons, upd, upd]
    split
    · rfl
    · rw [wrapG_get]
      simp only [offT]
      split
      · rfl
      · rfl

include hΓ in
theorem runR_sim : ∀ (ss : List TStm) {i : Nat} {σ σ' : TSt} {p : Option Prop} {l : Log}, runR Γ i ss σ = some (p, σ', l) → holds p → ∃ l', drawF ΓA (erL none i ss) σ.emb = some (σ'.emb, l') ∧ SubLog l' l
  | [], i, σ, σ', p, l, e, hp => by rw [runR] at e; cases e; exact ⟨[], rfl, .refl _⟩
  | .op d o :: r, i, σ, σ', p, l, e, hp => by
    rw [runR] at e
    split at e
    rotate_left
    · cases e
    rename_i pre v bl he
    split at e
    rotate_left
    · cases e
    rename_i q σ2 m h2
    cases e
    rw [holds_andOO] at hp
    have h1 := tdelta_sim hΓ he hp.1
    obtain ⟨l', h3, h4⟩ := runR_sim r h2 hp.2
    refine ⟨(acc (Opd.ev fun s => (σ.T s).emb) o.er, bl.map Prod.fst) :: l', ?_, (SubLog.refl [(acc (Opd.ev fun s => (σ.T s).emb) o.er, bl.map Prod.fst)]).append h4⟩
    obtain ⟨t, h, nx⟩ := σ
    simp only [erL, TStm.er, TStm.len, List.singleton_append, drawF, step1_on (ΓA := ΓA) (g := none) (t := t) trivial]
    have h1 : delta ΓA (Opd.ev fun s => (lkT t s).emb) (fun i => (lkB h i).emb) (nx + 16 * i) o.er = some (TE.emb ⟨pre, v, bl⟩) := h1
    rw [h1]
    simp only [TE.emb, keys_emb, ← app_emb, h3]
    rfl
  | .grp s w ss d x :: r, i, σ, σ', p, l, e, hp => by
    rw [runR] at e
    split at e
    rotate_left
    · cases e
    rename_i p1 t1 l1 h1
    split at e
    rotate_left
    · cases e
    rename_i q σ2 m h2
    cases e
    rw [holds_andOO] at hp
    obtain ⟨t, h, nx⟩ := σ
    obtain ⟨l1', h3, h4⟩ := runS_on hΓ _ (g := none) h1 hp.1 trivial trivial
    obtain ⟨l', h5, h6⟩ := runR_sim r h2 hp.2
    refine ⟨l1' ++ l', ?_, h4.append h6⟩
    simp only [erL, drawF_append, h3]
    rw [show (TStm.grp s w ss d x).len = lenL ss + 1 from by rw [TStm.len], h5]
  | .gw s w ss d2 o d x :: r, i, σ, σ', p, l, e, hp => by
    rw [runR] at e
    split at e
    rotate_left
    · cases e
    rename_i p1 σ1 l1 h1
    split at e
    rotate_left
    · cases e
    rename_i q σ2 m h2
    cases e
    rw [holds_andOO] at hp
    obtain ⟨l1', h3, h4⟩ := gw_sim hΓ h1 hp.1
    obtain ⟨l', h5, h6⟩ := runR_sim r h2 hp.2
    refine ⟨l1' ++ l', ?_, h4.append h6⟩
    simp only [erL, drawF_append, h3]
    rw [show (TStm.gw s w ss d2 o d x).len = lenL ss + 2 from by rw [TStm.len], h5]
end

theorem regK_of_drawF {Γ : Tab} {K : St → Prop} : ∀ (l : List AO) {σ σ' : St} {log : Log}, drawF Γ l σ = some (σ', log) → K σ' → regK Γ l K σ
  | [], σ, σ', log, e, hk => by simp only [drawF, Option.some.injEq, Prod.mk.injEq] at e; rw [e.1]; exact hk
  | o :: l, σ, σ', log, e, hk => by
    simp only [drawF] at e
    split at e
    rotate_left
    · cases e
    rename_i σ1 a w h1
    split at e
    rotate_left
    · cases e
    rename_i σ2 m h2
    cases e
    have ih := regK_of_drawF l h2 hk
    unfold step1 at h1
    rw [regK]
    clear h2
    split at h1
    · rename_i hg
      split at h1
      rotate_left
      · cases h1
      rename_i e he
      cases h1
      exact ih
    · rename_i s wt hg
      split at h1
      · rename_i c hc
        split at h1
        · rename_i hcw
          split at h1
          rotate_left
          · cases h1
          rename_i e he
          cases h1

          exact ⟨fun _ => ih, fun hn => absurd hcw hn⟩
        · rename_i hcw
          cases h1
          exact ⟨fun h => absurd h hcw, fun _ => ih⟩
      · rename_i hc
        cases h1
        exact ih
      · cases h1
end Go.Proofs.Ytephkbajoofeoaa.Am
