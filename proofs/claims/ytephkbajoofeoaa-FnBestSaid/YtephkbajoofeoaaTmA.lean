/-
  CONTRACTS OUT OF THE TYPED MACHINE: where a function begins, what it hands back, tables.
-/
import Derived.Test.YtephkbajoofeoaaAmZ
namespace Go.Proofs.Ytephkbajoofeoaa.Am
set_option linter.unusedSimpArgs false
set_option linter.unusedVariables false
open Go Go.RowKit

/-! An encoding tells what was encoded. -/
mutual
theorem enc_inj : ∀ (t : CT) (x y : t.den), enc t x = enc t y → x = y
  | .int k, x, y, h => by injection h with h; injection h
  | .bool, x, y, h => by injection h with h; injection h
  | .str, x, y, h => by injection h with h; injection h
  | .nilp, x, y, h => rfl
  | .sl ts, x, y, h => by
    rw [enc, enc] at h
    injection h with _ h
    exact map_inj (fun a b => encs_inj ts a b) x y h
theorem encs_inj : ∀ (ts : List CT) (x y : Tup ts), encs ts x = encs ts y → x = y
  | [], x, y, _ => rfl
  | t :: ts, x, y, h => by
    rw [encs, encs] at h
    injection h with h1 h2
    have h1 := enc_inj t _ _ h1
    have h2 := encs_inj ts _ _ h2
    cases ts with
    | nil => exact h1
    | cons u us => exact Prod.ext h1 h2
theorem map_inj {α β : Type} {f : α → β} (hf : ∀ a b, f a = f b → a = b) : ∀ (x y : List α), x.map f = y.map f → x = y
  | [], [], _ => rfl
  | a :: x, b :: y, h => by
    rw [List.map_cons, List.map_cons] at h
    injection h with h1 h2
    rw [hf a b h1, map_inj hf x y h2]
  | [], b :: y, h => by simp at h
  | a :: x, [], h => by simp at h
end

theorem ctL_inj : ∀ {ts : List CT} {xs ys : List TV}, ctL xs = some ts → ctL ys = some ts → xs.map TV.emb1 = ys.map TV.emb1 → xs = ys
  | ts, [], ys, h1, h2, h => by
    cases ys with
    | nil => rfl
    | cons y ys => simp at h
  | ts, x :: xs, ys, h1, h2, h => by
    cases ys with
    | nil => simp at h
    | cons y ys =>
      cases x with
      | c t x =>
        cases y with
        | c t' y =>
          simp only [ctL] at h1 h2
          split at h1
          rotate_left
          · cases h1
          rename_i t1 e1
          split at h2
          rotate_left
          · cases h2
          rename_i t2 e2
          cases h1
          cases h2
          rw [List.map_cons, List.map_cons] at h
          injection h with h3 h4
          rw [ctL_inj e1 e2 h4]
          simp only [TV.emb1] at h3
          injection h3 with h3
          rw [enc_inj t x y h3]
        | _ => simp [ctL] at h2
      | _ => simp [ctL] at h1

theorem fits_o {e : TypeId} {ts : List CT} {x : TV} (hx : (Sh.o e ts).fits x = true) : ∃ es, x = .ow e ts es := by
  cases x with
  | ow e' ts' es =>
    simp only [Sh.fits, Bool.and_eq_true] at hx
    obtain rfl := Nat.eq_of_beq_eq_true hx.1
    obtain rfl := CT.beqL_eq _ _ hx.2
    exact ⟨es, rfl⟩
  | _ => simp [Sh.fits] at hx

theorem fits_inj {s : Sh} {x y : TV} (hx : s.fits x = true) (hy : s.fits y = true) (h : x.emb = y.emb) : x = y := by
  cases s with
  | c t =>
    cases x with
    | c t1 x =>
      cases y with
      | c t2 y =>
        simp only [Sh.fits] at hx hy
        have h1 := CT.beq_eq _ _ hx
        have h2 := CT.beq_eq _ _ hy
        subst h1
        subst h2
        simp only [TV.emb, TV.emb2, TV.emb1] at h
        injection h with h
        rw [enc_inj _ x y h]
      | _ => simp [Sh.fits] at hy
    | _ => simp [Sh.fits] at hx
  | o e ts =>
    obtain ⟨xs, rfl⟩ := fits_o hx
    obtain ⟨ys, rfl⟩ := fits_o hy
    simp only [TV.emb, TV.emb2, TV.emb1] at h
    injection h with _ _ h
    rw [map_inj (fun a b => encs_inj ts a b) _ _ h]
  | a ts =>
    cases x with
    | a xs =>
      cases y with
      | a ys =>
        simp only [Sh.fits] at hx hy
        split at hx
        rotate_left
        · cases hx
        rename_i t1 e1
        split at hy
        rotate_left
        · cases hy
        rename_i t2 e2
        have h1 := CT.beqL_eq _ _ hx
        have h2 := CT.beqL_eq _ _ hy
        subst h1
        subst h2
        simp only [TV.emb, TV.emb2] at h
        injection h with h
        rw [ctL_inj e1 e2 h]
      | _ => simp [Sh.fits] at hy
    | _ => simp [Sh.fits] at hx
  | b ts =>
    cases x with
    | bx xs =>
      cases y with
      | bx ys =>
        simp only [Sh.fits] at hx hy
        split at hx
        rotate_left
        · cases hx
        rename_i t1 e1
        split at hy
        rotate_left
        · cases hy
        rename_i t2 e2
        have h1 := CT.beqL_eq _ _ hx
        have h2 := CT.beqL_eq _ _ hy
        subst h1
        subst h2
        simp only [TV.emb] at h
        injection h with h
        rw [ctL_inj e1 e2 h]
      | _ => simp [Sh.fits] at hy
    | _ => simp [Sh.fits] at hx

theorem fitsL_inj : ∀ {ss : List Sh} {xs ys : List TV}, fitsL ss xs = true → fitsL ss ys = true → xs.map TV.emb = ys.map TV.emb → xs = ys
  | [], [], [], _, _, _ => rfl
  | [], _ :: _, _, h, _, _ => by simp [fitsL] at h
  | [], [], _ :: _, _, h, _ => by simp [fitsL] at h
  | _ :: _, [], _, h, _, _ => by simp [fitsL] at h
  | _ :: _, _ :: _, [], _, h, _ => by simp [fitsL] at h
  | s :: ss, x :: xs, y :: ys, h1, h2, h => by
    simp only [fitsL, Bool.and_eq_true] at h1 h2
    rw [List.map_cons, List.map_cons] at h
    injection h with h3 h4
    rw [fits_inj h1.1 h2.1 h3, fitsL_inj h1.2 h2.2 h4]

/-! Tables. -/

/-- A contract, typed. -/
def TCon (P : Program) (f : FuncId) (xs : List TV) (r : TRes) : Prop := Con P f (xs.map TV.emb) r.emb

def TRowOk (P : Program) (row : TRow) : Prop := ∀ vs pre r, fitsL row.sg vs = true → row.fn vs = some (pre, r) → holds pre → TCon P row.f vs r
def TOk (P : Program) (Γ : List TRow) : Prop := ∀ row, row ∈ Γ → TRowOk P row

theorem TOk.nil {P : Program} : TOk P [] := fun _ h => by cases h
theorem TOk.cons {P : Program} {row : TRow} {Γ : List TRow} (h : TRowOk P row) (hs : TOk P Γ) : TOk P (row :: Γ) := fun r hr => by
  rcases List.mem_cons.1 hr with rfl | hr
  · exact h
  · exact hs r hr

theorem tlook_mem : ∀ {Γ : List TRow} {f : FuncId} {row : TRow}, tlook Γ f = some row → row ∈ Γ ∧ row.f = f
  | [], f, row, h => by simp [tlook] at h
  | r :: rs, f, row, h => by
    simp only [tlook] at h
    cases hb : Nat.beq r.f f with
    | true =>
      rw [hb] at h
      simp only [cond_true, Option.some.injEq] at h
      subst h
      exact ⟨List.mem_cons_self, Nat.eq_of_beq_eq_true hb⟩
    | false =>
      rw [hb] at h
      have := tlook_mem (Γ := rs) h
      exact ⟨List.mem_cons_of_mem _ this.1, this.2⟩

open Classical in
noncomputable def tabOf (Γ : List TRow) : Tab := ⟨fun f => match tlook Γ f with | some row => mdOf row.sg | none => [], fun f args =>
  if h : ∃ r : TRes, ∃ row vs pre, tlook Γ f = some row ∧ fitsL row.sg vs = true ∧ row.fn vs = some (pre, r) ∧ holds pre ∧ vs.map TV.emb = args then some h.choose.emb else none⟩

theorem tab_sim (Γ : List TRow) : TabSim Γ (tabOf Γ) := by
  refine ⟨fun f row h => by simp only [tabOf, h], ?_⟩
  intro f row vs pre r h1 h2 h3 h4
  have hex : ∃ r : TRes, ∃ row vs' pre, tlook Γ f = some row ∧ fitsL row.sg vs' = true ∧ row.fn vs' = some (pre, r) ∧ holds pre ∧ vs'.map TV.emb = vs.map TV.emb := ⟨r, row, vs, pre, h1, h2, h3, h4, rfl⟩
  simp only [tabOf]
  rw [dif_pos hex]
  obtain ⟨row', vs', pre', g1, g2, g3, g4, g5⟩ := hex.choose_spec
  rw [h1] at g1
  cases g1
  have := fitsL_inj g2 h2 g5
  subst this
  rw [h3] at g3
  injection g3 with g3
  injection g3 with _ g3
  rw [← g3]

theorem tab_ok {P : Program} {Γ : List TRow} (h : TOk P Γ) : TabOk P (tabOf Γ) := by
  intro f args r hr
  simp only [tabOf] at hr
  split at hr
  rotate_left
  · cases hr
  rename_i hex
  cases hr
  obtain ⟨row, vs, pre, g1, g2, g3, g4, g5⟩ := hex.choose_spec
  obtain ⟨m1, m2⟩ := tlook_mem g1
  have := h row m1 vs pre _ g2 g3 g4
  unfold TCon at this
  rw [m2, g5] at this
  exact this

/-! Where a function begins. -/

def tlayS : List TV → Nat → Nat → Nat → List (Nat × TV)
  | [], _, _, _ => []
  | .bx _ :: r, s, k, m => (s, .p k 0 0) :: tlayS r (s + 1) (k + 1) m
  | .ow _ ts es :: r, s, k, m => (s, .r ts m 0 es.length) :: tlayS r (s + 1) k (m + 1)
  | x :: r, s, k, m => (s, x) :: tlayS r (s + 1) k m

def tlayB : List TV → Nat → List (Nat × TBlk)
  | [], _ => []
  | .bx cs :: r, k => (k, .box cs) :: tlayB r (k + 1)
  | _ :: r, k => tlayB r k

def tlayG : List TV → Nat → List (Nat × TBlk)
  | [], _ => []
  | .ow e ts es :: r, k => (k, .sl e ts true es) :: tlayG r (k + 1)
  | _ :: r, k => tlayG r k

def tbxs : List TV → Nat
  | [] => 0
  | .bx _ :: r => tbxs r + 1
  | _ :: r => tbxs r

def tows : List TV → Nat
  | [] => 0
  | .ow _ _ _ :: r => tows r + 1
  | _ :: r => tows r

def tstart (xs : List TV) : TSt := ⟨tlayS xs 0 0 (tbxs xs), tlayB xs 0 ++ tlayG xs (tbxs xs), tbxs xs + tows xs⟩

def TV.ng : TV → Bool
  | .g _ _ => false
  | _ => true

theorem layS_T : ∀ (xs : List TV) (s k m j : Nat), xs.all TV.ng = true → (lkT (tlayS xs s k m) j).emb = if s ≤ j then ((layS (xs.map TV.emb) k m)[j - s]?).getD .u else .u
  | [], s, k, m, j, _ => by simp [tlayS, lkT, layS, TV.emb, TV.emb2, TV.emb1]
  | x :: xs, s, k, m, j, hok => by
    rw [List.all_cons, Bool.and_eq_true] at hok
    have key : ∀ (y : TV) (k' m' : Nat) (z : AV), y.emb = z → (lkT ((s, y) :: tlayS xs (s + 1) k' m') j).emb = if s ≤ j then ((z :: layS (xs.map TV.emb) k' m')[j - s]?).getD .u else .u := by
      intro y k' m' z hz
      rw [lkT_cons, upd]
      by_cases h : j = s
      · subst h; simp [hz]
      · rw [if_neg h, layS_T xs (s + 1) k' m' j hok.2]
        by_cases h2 : s ≤ j
        · rw [if_pos h2, if_pos (by omega), show j - s = (j - (s + 1)) + 1 by omega]
          simp
        · rw [if_neg h2, if_neg (by omega)]
    cases x with
    | bx cs => exact key (.p k 0 0) (k + 1) m (.p k 0 0) rfl
    | ow e ts es =>
      have := key (.r ts m 0 es.length) k (m + 1) (.r ts.length m 0 (es.map (encs ts)).length) (by simp [TV.emb, TV.emb2, TV.emb1])
      exact this
    | g b v => exact absurd hok.1 (by simp [TV.ng])
    | _ => exact key _ k m _ rfl

theorem layB_T : ∀ (xs : List TV) (B : List (Nat × TBlk)) (k j : Nat), xs.all TV.ng = true → (lkB (tlayB xs k ++ B) j).emb = if k ≤ j then (match (layB (xs.map TV.emb))[j - k]? with | some cs => .box cs | none => (lkB B j).emb) else (lkB B j).emb
  | [], B, k, j, _ => by simp [tlayB, layB]
  | x :: xs, B, k, j, hok => by
    rw [List.all_cons, Bool.and_eq_true] at hok
    cases x with
    | bx cs =>
      simp only [tlayB, List.cons_append, lkB_cons, upd, List.map_cons, layB, TV.emb]
      by_cases h : j = k
      · subst h; simp [TBlk.emb]
      · rw [if_neg h, layB_T xs B (k + 1) j hok.2]
        by_cases h2 : k ≤ j
        · rw [if_pos h2, if_pos (by omega), show j - k = (j - (k + 1)) + 1 by omega]
          simp
        · rw [if_neg h2, if_neg (by omega)]
    | g b v => exact absurd hok.1 (by simp [TV.ng])
    | _ => exact layB_T xs B k j hok.2

theorem layG_T : ∀ (xs : List TV) (k j : Nat), xs.all TV.ng = true → (lkB (tlayG xs k) j).emb = if k ≤ j then ((layG (xs.map TV.emb))[j - k]?).getD .none else .none
  | [], k, j, _ => by simp [tlayG, lkB, layG, TBlk.emb]
  | x :: xs, k, j, hok => by
    rw [List.all_cons, Bool.and_eq_true] at hok
    cases x with
    | ow e ts es =>
      simp only [tlayG, lkB_cons, upd, List.map_cons, layG, TV.emb, TV.emb2, TV.emb1]
      by_cases h : j = k
      · subst h; simp [TBlk.emb]
      · rw [if_neg h, layG_T xs (k + 1) j hok.2]
        by_cases h2 : k ≤ j
        · rw [if_pos h2, if_pos (by omega), show j - k = (j - (k + 1)) + 1 by omega]
          simp
        · rw [if_neg h2, if_neg (by omega)]
    | g b v => exact absurd hok.1 (by simp [TV.ng])
    | _ => exact layG_T xs k j hok.2

theorem tows_eq : ∀ (xs : List TV), xs.all TV.ng = true → tows xs = (layG (xs.map TV.emb)).length
  | [], _ => rfl
  | x :: xs, hok => by
    rw [List.all_cons, Bool.and_eq_true] at hok
    cases x with
    | ow e ts es => simp only [tows, List.map_cons, TV.emb, TV.emb2, TV.emb1, layG, List.length_cons, tows_eq xs hok.2]
    | g b v => exact absurd hok.1 (by simp [TV.ng])
    | _ => exact tows_eq xs hok.2

theorem tbxs_eq : ∀ (xs : List TV), xs.all TV.ng = true → tbxs xs = (layB (xs.map TV.emb)).length
  | [], _ => rfl
  | x :: xs, hok => by
    rw [List.all_cons, Bool.and_eq_true] at hok
    cases x with
    | bx cs => simp only [tbxs, List.map_cons, TV.emb, layB, List.length_cons, tbxs_eq xs hok.2]
    | g b v => exact absurd hok.1 (by simp [TV.ng])
    | _ => exact tbxs_eq xs hok.2

theorem tstart_emb (xs : List TV) (hok : xs.all TV.ng = true) : (tstart xs).emb = start (xs.map TV.emb) := by
  have hB := tbxs_eq xs hok
  have hG := tows_eq xs hok
  unfold tstart TSt.emb start TSt.T TSt.H
  congr 1
  · funext s
    rw [layS_T xs 0 0 _ s hok, hB]
    simp
  · funext i
    show (lkB (tlayB xs 0 ++ tlayG xs (tbxs xs)) i).emb = _
    rw [layB_T xs _ 0 i hok, layG_T xs _ i hok, hB]
    simp only [Nat.zero_le, if_true, Nat.sub_zero]
    cases hx : (layB (xs.map TV.emb))[i]? with
    | some cs => rfl
    | none =>
      have : (layB (xs.map TV.emb)).length ≤ i := by rw [List.getElem?_eq_none_iff] at hx; exact hx
      rw [if_pos this]
  · rw [hB, hG]

/-! What is handed back. -/

def ARv.slot : ARv → Nat
  | .t s => s
  | .l s _ _ => s

def tget (σ : TSt) : ARv → Option TV
  | .t s => some (σ.T s)
  | .l s n agg => match tdelta [] σ.T σ.H 0 (.load (.s s) n agg) with
    | some ⟨none, v, _⟩ => some v
    | _ => none

def tgets (σ : TSt) : List ARv → Option (List TV)
  | [] => some []
  | x :: xs => match tget σ x, tgets σ xs with
    | some y, some ys => some (y :: ys)
    | _, _ => none

def tpackR : List TV → TV
  | [x] => x
  | xs => .tp xs

def TV.rn1 (ids : List Nat) : TV → TV
  | .r ts id off len => bif ids.elem id then .r ts (ids.idxOf id) off len else .u
  | .p id i j => bif ids.elem id then .p (ids.idxOf id) i j else .u
  | .c t x => .c t x
  | .n ts => .n ts
  | .q ts x j => .q ts x j
  | _ => .u

def TV.rn2 (ids : List Nat) : TV → TV
  | .a cs => .a (cs.map (TV.rn1 ids))
  | x => x.rn1 ids

def TV.rn (ids : List Nat) : TV → TV
  | .tp vs => .tp (vs.map (TV.rn2 ids))
  | x => x.rn2 ids

def TBlk.rn (ids : List Nat) : TBlk → TBlk
  | .box cs => .box (cs.map (TV.rn1 ids))
  | x => x

def isCT : TV → Bool
  | .c _ _ => true
  | _ => false

def tbxGet (h : Nat → TBlk) : Nat → Nat → Option (List (List TV))
  | 0, _ => some []
  | n + 1, k => match h k, tbxGet h n (k + 1) with
    | .box cs, some css => bif cs.all isCT then some (cs :: css) else none
    | _, _ => none

def CT.flat : CT → Bool
  | .sl _ => false
  | _ => true

def TV.flat1 : TV → Bool
  | .c t _ => t.flat
  | _ => false

def TV.flat2 : TV → Bool
  | .a cs => cs.all TV.flat1
  | x => x.flat1

def TV.flat : TV → Bool
  | .tp vs => vs.all TV.flat2
  | x => x.flat2

def dedup : List Nat → List Nat → List Nat
  | [], acc => acc
  | x :: xs, acc => bif acc.elem x then dedup xs acc else dedup xs (acc ++ [x])

/-- What the slices are that were handed over, from the k-th number on. -/
def tgvGet (h : Nat → TBlk) : Nat → Nat → Option (List TBlk)
  | 0, _ => some []
  | n + 1, k => match h k, tgvGet h n (k + 1) with
    | .sl e ts m es, some css => some (.sl e ts m es :: css)
    | .dead, some css => some (.dead :: css)
    | _, _ => none

def tends (nb no : Nat) (rs : List (ARv × Md)) (σ0 : TSt) : Option TRes :=
  let σ := gc (nb + no) (rs.map fun x => (x.1.slot, x.2)) σ0
  match tgets σ (rs.map Prod.fst) with
  | some vs => bif vs.all TV.st then (match tbxGet σ.H nb 0, tgvGet σ.H no nb with
    | some css, some gs =>
      let ids := dedup (vs.flatMap fun v => v.refs ++ v.lent) []
      let v := (tpackR vs).rn ids
      bif nodupB ids && ids.all (Nat.ble (nb + no) ·) then some ⟨v, ids.map fun id => (σ.H id).rn ids, css, !(v.flat && css.isEmpty && ids.isEmpty && gs.isEmpty), gs⟩ else none
    | _, _ => none) else none
  | none => none

/-- How a function ends. -/
def TQ (nb no : Nat) (rs : List (ARv × Md)) (K : TRes → Prop) : TPost := fun e σ => match e with
  | .exit _ => False
  | _ => match tends nb no rs σ with
    | some r => K r
    | none => False

theorem tget_sim {σ : TSt} {y : ARv} {v : TV} (h : tget σ y = some v) : y.get σ.emb = some v.emb := by
  cases y with
  | t s => simp only [tget, Option.some.injEq] at h; subst h; rfl
  | l s n agg =>
    simp only [tget] at h
    split at h
    rotate_left
    · cases h
    rename_i v' bl he
    cases h
    have := load_sim (ΓA := noTab) he trivial
    have this : delta noTab (Opd.ev fun s => (σ.T s).emb) (fun i => (σ.H i).emb) 0 (.load (.s s) n agg) = some (TE.emb ⟨none, v, bl⟩) := this
    show (match delta noTab (Opd.ev fun s => (σ.T s).emb) (fun i => (σ.H i).emb) 0 (.load (.s s) n agg) with | some e => some e.val | none => none) = _
    rw [this]
    rfl

theorem tgets_sim {σ : TSt} : ∀ {ys : List ARv} {vs : List TV}, tgets σ ys = some vs → rvGet σ.emb ys = some (vs.map TV.emb)
  | [], vs, h => by simp only [tgets, Option.some.injEq] at h; subst h; rfl
  | y :: ys, vs, h => by
    simp only [tgets] at h
    split at h
    rotate_left
    · cases h
    rename_i a b ha hb
    cases h
    simp only [rvGet, tget_sim ha, tgets_sim hb, List.map_cons]

theorem packR_emb {vs : List TV} (h : vs.all TV.st = true) : packR (vs.map TV.emb) = (tpackR vs).emb := by
  match vs, h with
  | [], _ => rfl
  | [x], _ => rfl
  | x :: y :: vs, h =>
    show AV.t ((x :: y :: vs).map TV.emb) = AV.t ((x :: y :: vs).map TV.emb2)
    congr 1
    exact List.map_congr_left fun a ha => (emb_st2 (List.all_eq_true.1 h a ha)).symm

theorem rn1_emb (ids : List Nat) (x : TV) : (x.rn1 ids).emb1 = x.emb1.rn1 ids := by
  cases x with
  | r ts id off len =>
    simp only [TV.rn1, TV.emb1, AV.rn1]
    by_cases h : id ∈ ids
    · rw [if_pos h, show ids.elem id = true by simpa using h]; rfl
    · rw [if_neg h, show ids.elem id = false by simpa using h]; rfl
  | p id i j =>
    simp only [TV.rn1, TV.emb1, AV.rn1]
    by_cases h : id ∈ ids
    · rw [if_pos h, show ids.elem id = true by simpa using h]; rfl
    · rw [if_neg h, show ids.elem id = false by simpa using h]; rfl
  | _ => rfl

theorem rn1_one (ids : List Nat) (x : TV) : (x.rn1 ids).emb = (x.rn1 ids).emb1 := by
  cases x with
  | r ts id off len => simp only [TV.rn1]; cases ids.elem id <;> rfl
  | p id i j => simp only [TV.rn1]; cases ids.elem id <;> rfl
  | _ => rfl

theorem rn2_emb (ids : List Nat) (x : TV) : (x.rn2 ids).emb2 = x.emb2.rn2 ids := by
  cases x with
  | a cs => simp only [TV.rn2, TV.emb2, AV.rn2, List.map_map]; congr 2; funext y; exact rn1_emb ids y
  | r ts id off len =>
    have := rn1_emb ids (.r ts id off len)
    simp only [TV.rn2]
    cases hx : (TV.r ts id off len).rn1 ids <;> (simp only [TV.rn1] at hx; cases hb : ids.elem id <;> rw [hb] at hx <;> first | cases hx | skip) <;> (rw [show TV.rn1 ids (.r ts id off len) = _ from by simp only [TV.rn1, hb]; rfl] at this; first | exact this | skip)
  | p id i j =>
    have := rn1_emb ids (.p id i j)
    simp only [TV.rn2]
    cases hx : (TV.p id i j).rn1 ids <;> (simp only [TV.rn1] at hx; cases hb : ids.elem id <;> rw [hb] at hx <;> first | cases hx | skip) <;> (rw [show TV.rn1 ids (.p id i j) = _ from by simp only [TV.rn1, hb]; rfl] at this; first | exact this | skip)
  | _ => rfl

theorem rn_emb (ids : List Nat) : ∀ (x : TV), x.st = true ∨ (∃ vs, x = .tp vs) → (x.rn ids).emb = x.emb.rn ids
  | .tp vs, _ => by simp only [TV.rn, TV.emb, AV.rn, List.map_map]; congr 2; funext y; exact rn2_emb ids y
  | .a cs, _ => by simp only [TV.rn, TV.rn2, TV.emb, TV.emb2, AV.rn, AV.rn2, List.map_map]; congr 2; funext y; exact rn1_emb ids y
  | .c t x, _ => rfl
  | .n ts, _ => rfl
  | .r ts id off len, _ => (rn1_one ids (.r ts id off len)).trans (rn1_emb ids (.r ts id off len))
  | .p id i j, _ => (rn1_one ids (.p id i j)).trans (rn1_emb ids (.p id i j))
  | .q ts x j, _ => rfl
  | .u, h => by rcases h with h | ⟨vs, h⟩ <;> cases h
  | .bx cs, h => by rcases h with h | ⟨vs, h⟩ <;> cases h
  | .g b v, h => by rcases h with h | ⟨vs, h⟩ <;> cases h

theorem tblk_rn_emb (ids : List Nat) (x : TBlk) : (x.rn ids).emb = x.emb.rn ids := by
  cases x with
  | box cs => simp only [TBlk.rn, TBlk.emb, Blk.rn, List.map_map]; congr 2; funext y; exact rn1_emb ids y
  | _ => rfl

theorem isCT_all {cs : List TV} (h : cs.all isCT = true) : (cs.map TV.emb1).all isC = true := by
  rw [List.all_eq_true] at h ⊢
  intro x hx
  obtain ⟨y, hy, rfl⟩ := List.mem_map.1 hx
  have := h y hy
  cases y <;> first | rfl | simp [isCT] at this

theorem tbxGet_sim {h : Nat → TBlk} : ∀ {n k : Nat} {css : List (List TV)}, tbxGet h n k = some css → bxGet (fun i => (h i).emb) n k = some (css.map (·.map TV.emb1))
  | 0, k, css, e => by simp only [tbxGet, Option.some.injEq] at e; subst e; rfl
  | n + 1, k, css, e => by
    simp only [tbxGet] at e
    split at e
    rotate_left
    · cases e
    rename_i cs css' h1 h2
    obtain ⟨q, e⟩ := bif_some e
    cases e
    have ih := tbxGet_sim h2
    have hk : (fun i => (h i).emb) k = .box (cs.map TV.emb1) := by simp only [h1]; rfl
    generalize (fun i => (h i).emb) = hA at ih hk
    simp only [bxGet, hk, ih, isCT_all q, if_true, List.map_cons]

def AV.flat1 : AV → Bool
  | .c (.v _) => true
  | _ => false
def AV.flat2 : AV → Bool
  | .a cs => cs.all AV.flat1
  | x => x.flat1
def AV.flat : AV → Bool
  | .t vs => vs.all AV.flat2
  | x => x.flat2

theorem flat1_emb {x : TV} (h : x.flat1 = true) : x.emb1.flat1 = true := by
  cases x with
  | c t x => cases t <;> first | rfl | simp [TV.flat1, CT.flat] at h
  | _ => simp [TV.flat1] at h
theorem flat2_emb {x : TV} (h : x.flat2 = true) : x.emb2.flat2 = true := by
  cases x with
  | a cs =>
    simp only [TV.flat2, List.all_eq_true] at h
    simp only [TV.emb2, AV.flat2, List.all_eq_true]
    intro y hy
    obtain ⟨z, hz, rfl⟩ := List.mem_map.1 hy
    exact flat1_emb (h z hz)
  | c t x => exact (by cases t <;> first | rfl | simp [TV.flat2, TV.flat1, CT.flat] at h)
  | _ => simp [TV.flat2, TV.flat1] at h
theorem flat_emb {x : TV} (h : x.flat = true) : x.emb.flat = true := by
  cases x with
  | tp vs =>
    simp only [TV.flat, List.all_eq_true] at h
    simp only [TV.emb, AV.flat, List.all_eq_true]
    intro y hy
    obtain ⟨z, hz, rfl⟩ := List.mem_map.1 hy
    exact flat2_emb (h z hz)
  | a cs => exact flat2_emb (x := .a cs) h
  | c t x => exact (by cases t <;> first | rfl | simp [TV.flat, TV.flat2, TV.flat1, CT.flat] at h)
  | _ => simp [TV.flat, TV.flat2, TV.flat1] at h

theorem vr_flat1 {w : World} {F F' : Nat → Prop} {ι ι' : Nat → Option Nat} {h h' : Nat → Blk} {v : Value} {x : AV} (hx : x.flat1 = true) (hv : VR w F ι h v x) : VR w F' ι' h' v x := by
  cases x with
  | c d => cases d with
    | v y => cases hv with
      | c v d hr => cases hr with
        | v x h1 => exact .c _ _ (.v _ h1)
    | sl sz es => simp [AV.flat1] at hx
  | _ => simp [AV.flat1] at hx
theorem vr_flat2 {w : World} {F F' : Nat → Prop} {ι ι' : Nat → Option Nat} {h h' : Nat → Blk} {v : Value} {x : AV} (hx : x.flat2 = true) (hv : VR w F ι h v x) : VR w F' ι' h' v x := by
  cases x with
  | a cs =>
    simp only [AV.flat2, List.all_eq_true] at hx
    cases hv with
    | a vs _ hl h1 hv => exact .a vs cs hl h1 (fun k v x hk hxk => vr_flat1 (hx x (List.mem_of_getElem? hxk)) (hv k v x hk hxk))
  | _ => exact vr_flat1 hx hv
theorem vr_flat {w : World} {F F' : Nat → Prop} {ι ι' : Nat → Option Nat} {h h' : Nat → Blk} {v : Value} {x : AV} (hx : x.flat = true) (hv : VR w F ι h v x) : VR w F' ι' h' v x := by
  cases x with
  | t cs =>
    simp only [AV.flat, List.all_eq_true] at hx
    cases hv with
    | t vs _ hl hv => exact .t vs cs hl (fun k v x hk hxk => vr_flat2 (hx x (List.mem_of_getElem? hxk)) (hv k v x hk hxk))
  | _ => exact vr_flat2 hx hv

/-- Nothing but plain values come back. -/
theorem Post.flat {w : World} {F0 : Nat → Prop} {lb : List Nat} {gb : List (Option Nat × Blk)} {v : AV} {al al' : Bool} {v' : Value} {w' : World} {ι : Nat → Option Nat} (hx : v.flat = true) (Q : Post w F0 lb gb ⟨v, [], [], al, []⟩ v' w' ι) : Post w F0 lb gb ⟨v, [], [], al', []⟩ v' w' ι := by
  have hgb : gb = [] := List.eq_nil_of_length_eq_zero Q.gvl.symm
  subst hgb
  have hlb : lb = [] := List.eq_nil_of_length_eq_zero Q.bxl.symm
  subst hlb
  exact ⟨Q.os, Q.tape, Q.output, Q.size, Q.block, vr_flat hx Q.val, fun i => by simp only [Res.h, List.getElem?_nil, Option.getD_none]; exact .none, Q.inj, fun i b hi => by
    have := Q.rng i b hi; simp at this, Q.live, rfl, by simp, rfl, by simp⟩

theorem dedup_nodup : ∀ (l acc : List Nat), acc.Nodup → (dedup l acc).Nodup
  | [], acc, h => h
  | x :: l, acc, h => by
    simp only [dedup]
    cases hx : acc.elem x with
    | true => exact dedup_nodup l acc h
    | false =>
      refine dedup_nodup l _ ?_
      rw [List.nodup_append]
      refine ⟨h, by simp, fun a ha b hb => ?_⟩
      simp only [List.mem_singleton] at hb
      rintro rfl
      subst hb
      have : a ∉ acc := by simpa using hx
      exact this ha

theorem fits_ng : ∀ {ss : List Sh} {xs : List TV}, fitsL ss xs = true → xs.all TV.ng = true
  | [], [], _ => rfl
  | [], _ :: _, h => by simp [fitsL] at h
  | _ :: _, [], h => by simp [fitsL] at h
  | s :: ss, x :: xs, h => by
    simp only [fitsL, Bool.and_eq_true] at h
    rw [List.all_cons, fits_ng h.2, Bool.and_true]
    cases x with
    | g b v => cases s <;> simp [Sh.fits] at h
    | _ => rfl

theorem tgvGet_sim {h : Nat → TBlk} : ∀ {n k : Nat} {css : List TBlk}, tgvGet h n k = some css → gvGet (fun i => (h i).emb) n k = some (css.map TBlk.emb)
  | 0, k, css, hx => by simp only [tgvGet, Option.some.injEq] at hx; subst hx; rfl
  | n + 1, k, css, hx => by
    simp only [tgvGet] at hx
    split at hx
    · rename_i e ts m es css' h1 h2
      cases hx
      have h3 := tgvGet_sim h2
      simp only [gvGet, h1, TBlk.emb_sl, h3, List.map_cons]
    · rename_i css' h1 h2
      cases hx
      have h3 := tgvGet_sim h2
      simp only [gvGet, h1, TBlk.emb_dead, h3, List.map_cons]
    · cases hx

/-- A CONTRACT, OUT OF WHAT THE TYPED MACHINE SAYS. -/
theorem tcon_fn {P : Program} {Γ : List TRow} {f : FuncId} {tc : TCode} {rs : List (ARv × Md)} {n : Nat} {xs : List TV} {r : TRes} {sg : List Sh} (hm : P.follows .mixedOrders = true) (hΓ : TOk P Γ) (hs : compF P f = some (tc.er, rs.map Prod.fst, n))
    (hfit : fitsL sg xs = true) (hN : xs.length ≤ n) (h : tawp Γ (tbxs xs + tows xs) tc (TQ (tbxs xs) (tows xs) rs (fun r' => r' = r)) (tstart xs)) : TCon P f xs r := by
  have hok := fits_ng hfit
  unfold compF at hs
  split at hs
  rotate_left
  · cases hs
  rename_i fn hf
  split at hs
  rotate_left
  · cases hs
  rename_i c hb
  split at hs
  rotate_left
  · cases hs
  rename_i ac' rs' hc hrs
  simp only [Option.some.injEq, Prod.mk.injEq] at hs
  obtain ⟨rfl, rfl, rfl⟩ := hs
  intro w F0 vs lb gb hA hF
  have LA := args_lay hA
  have hlb := LA.len
  have hnl : tbxs xs = lb.length := (tbxs_eq xs hok).trans hlb.symm
  have hgl : tows xs = gb.length := (tows_eq xs hok).trans LA.gl.symm
  have hL : Kept (ctxOf P w F0 lb gb fn.ntmps) (tbxs xs + tows xs) := by
    refine ⟨fun i b hi => ?_, fun i o hi => ?_, fun i o cs hi => ?_⟩
    · have := (List.getElem?_eq_some_iff.1 (show lb[i]? = some b from hi)).1
      omega
    · simp only [ctxOf] at hi
      split at hi
      · cases hi
      · have := (List.getElem?_eq_some_iff.1 hi).1
        omega
    · simp only [ctxOf] at hi
      split at hi
      · cases hi
      · obtain ⟨_, ⟨e, sz, es, q⟩, _⟩ := LA.gget _ _ _ hi
        cases q
  refine calls_of_wp hf hb ?_
  refine tcode_sound (C := ctxOf P w F0 lb gb fn.ntmps) (nl := tbxs xs + tows xs) hm (tab_sim Γ) (tab_ok hΓ) hL tc c _ _ (tstart xs) _ _ hc h ?_ ?_
  · rw [tstart_emb xs hok]
    exact start_sat hA hF (by simpa using hN)
  · intro e σ0 a w' hK S
    have hK : (match tends (tbxs xs) (tows xs) rs σ0 with | some r' => r' = r | none => False) ∧ ∀ id, e ≠ .exit id := by
      cases e with
      | exit id => exact hK.elim
      | normal => exact ⟨hK, by simp⟩
      | ret => exact ⟨hK, by simp⟩
    obtain ⟨hK, he⟩ := hK
    split at hK
    rotate_left
    · exact hK.elim
    rename_i r' hr
    subst hK
    unfold tends at hr
    simp only at hr
    split at hr
    rotate_left
    · cases hr
    rename_i vals hvals
    obtain ⟨q1, hr⟩ := bif_some hr
    split at hr
    rotate_left
    · cases hr
    rename_i css gs hcss hgs
    obtain ⟨q2, hr⟩ := bif_some hr
    simp only [Bool.and_eq_true] at q2
    cases hr
    have S' := gcE (L := rs.map fun x => (x.1.slot, x.2)) hL S
    generalize hσ : gc (tbxs xs + tows xs) (rs.map fun x => (x.1.slot, x.2)) σ0 = σ at *
    obtain ⟨ι, S'⟩ := S'
    have h1 := tgets_sim hvals
    obtain ⟨u, h5, h6⟩ := results_sound S' hrs h1
    rw [packR_emb q1] at h6
    have hids := dedup_nodup (vals.flatMap fun v => v.refs ++ v.lent) [] List.nodup_nil
    generalize dedup (vals.flatMap fun v => v.refs ++ v.lent) [] = ids at *
    have hge : ∀ id, id ∈ ids → tbxs xs + tows xs ≤ id := fun id hid => Nat.le_of_ble_eq_true (List.all_eq_true.1 q2.2 id hid)
    have hexp : expRes (tbxs xs) (tows xs) ids σ.emb (tpackR vals).emb = some ⟨((tpackR vals).rn ids).emb, (ids.map fun id => (σ.H id).rn ids).map TBlk.emb, css.map (·.map TV.emb1), true, gs.map TBlk.emb⟩ := by
      unfold expRes
      have h2 := tbxGet_sim hcss
      have h2 : bxGet σ.emb.h (tbxs xs) 0 = some (css.map (·.map TV.emb1)) := h2
      have h3 := tgvGet_sim hgs
      have h3 : gvGet σ.emb.h (tows xs) (tbxs xs) = some (gs.map TBlk.emb) := h3
      rw [h2, h3]
      simp only
      congr 2
      · rw [rn_emb]
        match vals, q1 with
        | [], _ => exact .inr ⟨[], rfl⟩
        | [x], q1 => left; rw [List.all_cons, List.all_nil, Bool.and_true] at q1; exact q1
        | x :: y :: l, _ => exact .inr ⟨_, rfl⟩
      · rw [List.map_map]
        congr 1
        funext id
        exact (tblk_rn_emb ids _).symm
    have post := post_of_sat hnl hgl S' hids hge hexp h6
    have post2 : Post w F0 lb gb (TRes.emb ⟨(tpackR vals).rn ids, ids.map fun id => (σ.H id).rn ids, css, !(((tpackR vals).rn ids).flat && css.isEmpty && ids.isEmpty && gs.isEmpty), gs⟩) u w' (fun i => (ids[i]?).bind ι) := by
      unfold TRes.emb
      simp only
      cases hal : ((tpackR vals).rn ids).flat && css.isEmpty && ids.isEmpty && gs.isEmpty with
      | false => exact post
      | true =>
        simp only [Bool.and_eq_true, List.isEmpty_iff] at hal
        obtain ⟨⟨⟨e1, e2⟩, e3⟩, e4⟩ := hal
        subst e2
        subst e3
        subst e4
        exact Post.flat (flat_emb e1) post
    have key : a.defers = [] ∧ ∃ v, (results fn a.tmps).run P w' = .ok v w' ∧ ∃ v1 ι, Ending.returned v = .returned v1 ∧ Post w F0 lb gb (TRes.emb ⟨(tpackR vals).rn ids, ids.map fun id => (σ.H id).rn ids, css, !(((tpackR vals).rn ids).flat && css.isEmpty && ids.isEmpty && gs.isEmpty), gs⟩) v1 w' ι :=
      ⟨S'.defers, u, h5, u, _, rfl, post2⟩
    cases e with
    | normal => exact key
    | ret => exact key
    | exit id => exact absurd rfl (he id)

/-! No slice in memory is longer than the model lets it be. -/
mutual
def CT.bd : (t : CT) → t.den → Prop
  | .int _, _ => True
  | .bool, _ => True
  | .str, _ => True
  | .nilp, _ => True
  | .sl ts, l => List.length l ≤ maxLen ∧ ∀ x : Tup ts, x ∈ (l : List (Tup ts)) → Tup.bd ts x
def Tup.bd : (ts : List CT) → Tup ts → Prop
  | [], _ => True
  | t :: ts, x => t.bd (hd ts x) ∧ Tup.bd ts (tl ts x)
end

def TV.bd1 : TV → Prop
  | .c t x => t.bd x
  | _ => True
def TV.bdL : List TV → Prop
  | [] => True
  | x :: xs => x.bd1 ∧ TV.bdL xs
def TV.bd : TV → Prop
  | .a cs => TV.bdL cs
  | .bx cs => TV.bdL cs
  | .ow _ ts es => List.length es ≤ maxLen ∧ ∀ x : Tup ts, x ∈ es → Tup.bd ts x
  | x => x.bd1
def bdAll : List TV → Prop
  | [] => True
  | x :: xs => x.bd ∧ bdAll xs

mutual
theorem rd_bd {w : World} {F : Nat → Prop} : ∀ (t : CT) (x : t.den) (v : Value), Rd w F v (enc t x) → t.bd x
  | .int _, _, _, _ => by rw [CT.bd]; trivial
  | .bool, _, _, _ => by rw [CT.bd]; trivial
  | .str, _, _, _ => by rw [CT.bd]; trivial
  | .nilp, _, _, _ => by rw [CT.bd]; trivial
  | .sl ts, l, v, h => by
    rw [enc] at h
    rw [CT.bd]
    generalize hes : List.map (encs ts) l = es at h
    have hl : List.length l = es.length := by rw [← hes, List.length_map]
    generalize hsz : ts.length = sz at h
    cases h with
    | nil =>
      have : l = [] := by simpa using hes
      subst this
      exact ⟨Nat.zero_le _, fun x hx => by cases hx⟩
    | emp =>
      have : l = [] := by simpa using hes
      subst this
      exact ⟨Nat.zero_le _, fun x hx => by cases hx⟩
    | sl b o len cap _ _ xv hlen hcap hml hszs hb hc hr =>
      refine ⟨by rw [hl, hlen]; exact hml, fun x hx => ?_⟩
      obtain ⟨i, hi⟩ := List.getElem?_of_mem hx
      have he : es[i]? = some (encs ts x) := by rw [← hes, List.getElem?_map, hi]; rfl
      exact rds_bd ts x (fun j d hj => ⟨_, hr i j _ d he hj⟩)
theorem rds_bd {w : World} {F : Nat → Prop} : ∀ (ts : List CT) (x : Tup ts), (∀ (j : Nat) (d : D), (encs ts x)[j]? = some d → ∃ v, Rd w F v d) → Tup.bd ts x
  | [], _, _ => by rw [Tup.bd]; trivial
  | t :: ts, x, h => by
    rw [encs] at h
    rw [Tup.bd]
    obtain ⟨v, hv⟩ := h 0 _ rfl
    exact ⟨rd_bd t _ v hv, rds_bd ts _ (fun j d hj => h (j + 1) d (by simpa using hj))⟩
end

theorem vr_bd1 {w : World} {F : Nat → Prop} {ι : Nat → Option Nat} {h : Nat → Blk} {v : Value} : ∀ {x : TV}, VR w F ι h v x.emb1 → x.bd1
  | .c t x, hv => by cases hv with | c v d hr => exact rd_bd t x v hr
  | .u, _ => trivial
  | .n _, _ => trivial
  | .r .., _ => trivial
  | .p .., _ => trivial
  | .q .., _ => trivial
  | .a _, _ => trivial
  | .tp _, _ => trivial
  | .bx _, _ => trivial
  | .g .., _ => trivial

theorem bdL_of : ∀ {cs : List TV}, (∀ (k : Nat) (x : TV), cs[k]? = some x → x.bd1) → TV.bdL cs
  | [], _ => trivial
  | x :: xs, h => ⟨h 0 x rfl, bdL_of fun k y hy => h (k + 1) y (by simpa using hy)⟩

theorem args_bd {w : World} {F : Nat → Prop} : ∀ {xs : List TV} {vs : List Value} {lb : List Nat} {gb : List (Option Nat × Blk)}, Args w F vs (xs.map TV.emb) lb gb → xs.all TV.ng = true → bdAll xs
  | [], vs, lb, gb, _, _ => trivial
  | x :: xs, vs, lb, gb, hA, hok => by
    rw [List.all_cons, Bool.and_eq_true] at hok
    rw [List.map_cons] at hA
    generalize hy : x.emb = y at hA
    generalize hys : xs.map TV.emb = ys at hA
    cases hA with
    | dat v _ vs _ lb gb hv hr hx =>
      subst hys
      refine ⟨?_, args_bd hr hok.2⟩
      cases x with
      | a cs =>
        subst hy
        cases hv with
        | a va _ hl h1 hv =>
          refine bdL_of fun k z hz => ?_
          have hlt : k < va.size := by rw [hl, List.length_map]; exact (List.getElem?_eq_some_iff.1 hz).1
          exact vr_bd1 (hv k va[k] z.emb1 (by simp [hlt]) (by rw [List.getElem?_map, hz]; rfl))
      | bx cs => subst hy; simp [TV.emb, AV.dat] at hx
      | ow e ts es => subst hy; simp [TV.emb, TV.emb2, TV.emb1, AV.dat] at hx
      | g b v => exact absurd hok.1 (by simp [TV.ng])
      | c t z => subst hy; exact vr_bd1 (x := .c t z) hv
      | _ => trivial
    | own v o e sz es vs _ lb gb hv hn hr =>
      subst hys
      refine ⟨?_, args_bd hr hok.2⟩
      cases x with
      | ow e' ts es' =>
        simp only [TV.emb, TV.emb2, TV.emb1] at hy
        injection hy with q1 q2 q3
        subst q1; subst q2
        have hbr := hv.br
        cases hbr with
        | slnil =>
          have : es' = [] := by simpa using q3
          subst this
          exact ⟨Nat.zero_le _, fun x hx => by cases hx⟩
        | sl bk _ _ _ _ cur Cc hz hi hb hC hle hC2 hsz hvv =>
          refine ⟨by rw [← q3, List.length_map] at hle; omega, fun x hx => ?_⟩
          obtain ⟨i, hi'⟩ := List.getElem?_of_mem hx
          have he : es[i]? = some (encs ts x) := by rw [← q3, List.getElem?_map, hi']; rfl
          exact rds_bd ts x (fun j d hj => let ⟨v, _, h2⟩ := hvv i j _ d he hj; ⟨v, h2⟩)
      | g b v => exact absurd hok.1 (by simp [TV.ng])
      | a cs => simp only [TV.emb, TV.emb2] at hy; cases hy
      | bx cs => simp only [TV.emb] at hy; cases hy
      | _ => trivial
    | box b e vals cs vs _ lb gb hb hd hc hn hg hr =>
      subst hys
      refine ⟨?_, args_bd hr hok.2⟩
      cases x with
      | bx ds =>
        simp only [TV.emb] at hy
        injection hy with hy
        subst hy
        refine bdL_of fun k z hz => ?_
        have hlt : k < vals.size := by rw [hd.size, List.length_map]; exact (List.getElem?_eq_some_iff.1 hz).1
        exact vr_bd1 (hd.vr k vals[k] z.emb1 (by simp [hlt]) (by rw [List.getElem?_map, hz]; rfl))
      | g b v => exact absurd hok.1 (by simp [TV.ng])
      | a cs => simp only [TV.emb, TV.emb2] at hy; cases hy
      | ow e ts es => simp only [TV.emb, TV.emb2, TV.emb1] at hy; cases hy
      | _ => trivial

/-- A contract need only be shown of arguments that memory can hold. -/
theorem tcon_bd {P : Program} {f : FuncId} {xs : List TV} {r : TRes} (hok : xs.all TV.ng = true) (h : bdAll xs → TCon P f xs r) : TCon P f xs r :=
  fun w F0 vs lb gb hA hF => h (args_bd hA hok) w F0 vs lb gb hA hF
end Go.Proofs.Ytephkbajoofeoaa.Am
