/-
  SMALL WORDS FOR THE TEXTS THAT ARE PRINTED BY PROGRAM.
-/
import Derived.Test.YtpnblnkggeopkaaTmA
import Derived.Test.YtpnblnkggeopkaaProg
namespace Go.Proofs.Ytpnblnkggeopkaa.Am
set_option linter.unusedSimpArgs false
set_option linter.unusedVariables false
open Go Go.RowKit Go.Proofs.Ytpnblnkggeopkaa

abbrev TI : CT := .int .i64
abbrev w64 (x : Int) : Int := IntKind.i64.wrap x

def Loop (Γ : List TRow) (nl : Nat) (L : List (Nat × Md)) (x : TCode) (Q : TPost) (s : TSt) : Prop :=
  Lfp (fun R s => tawp Γ nl x (Qseq (fun s' => R (gc nl L s')) Q) s) s

theorem loop_unroll' {Γ : List TRow} {nl : Nat} {L : List (Nat × Md)} {x : TCode} {Q : TPost} {s : TSt}
    (h : tawp Γ nl x (Qseq (fun s' => Loop Γ nl L x Q (gc nl L s')) Q) s) : Loop Γ nl L x Q s := loop_unroll h

/-- What is shown (a lid: so that nobody looks in). -/
structure Hold (p : Prop) : Prop where
  h : p

theorem Hold.of {p F : Prop} (e : F = p) (h : F) : Hold p := ⟨e ▸ h⟩

theorem Loop.of {Γ : List TRow} {nl : Nat} {L : List (Nat × Md)} {x : TCode} {Q : TPost} {s : TSt} {F : Prop}
    (e : F = tawp Γ nl x (Qseq (fun s' => Loop Γ nl L x Q (gc nl L s')) Q) s) (h : F) : Loop Γ nl L x Q s := loop_unroll' (e ▸ h)

def gtd {α : Type} (d : α) (l : List α) (i : Nat) : α := l.getD i d

@[reducible] def Sh.den : Sh → Type
  | .c t => t.den
  | .a ts => Tup ts
  | .b ts => Tup ts
@[reducible] def DenL : List Sh → Type
  | [] => Unit
  | s :: ss => s.den × DenL ss
def Sh.val : (s : Sh) → s.den → TV
  | .c t, x => .c t x
  | .a ts, x => .a (Tup.cells ts x)
  | .b ts, x => .bx (Tup.cells ts x)
def valL : (ss : List Sh) → DenL ss → List TV
  | [], _ => []
  | s :: ss, x => s.val x.1 :: valL ss x.2


/-! Arguments, read by their shapes. -/
def decD (t : CT) : TV → Option t.den
  | .c t' x => if e : t'.beq t = true then some (castD e x) else none
  | _ => none
def decT : (ts : List CT) → List TV → Option (Tup ts)
  | [], xs => match xs with
    | [] => some ()
    | _ => none
  | t :: ts, xs => match xs with
    | x :: xs => match decD t x, decT ts xs with
      | some a, some b => some (mkT ts a b)
      | _, _ => none
    | [] => none
def Sh.dec : (s : Sh) → TV → Option s.den
  | .c t, x => decD t x
  | .a ts, x => match x with
    | .a cs => decT ts cs
    | _ => none
  | .b ts, x => match x with
    | .bx cs => decT ts cs
    | _ => none
def decL : (ss : List Sh) → List TV → Option (DenL ss)
  | [], xs => match xs with
    | [] => some ()
    | _ => none
  | s :: ss, xs => match xs with
    | x :: xs => match s.dec x, decL ss xs with
      | some a, some b => some (a, b)
      | _, _ => none
    | [] => none

theorem decD_val {t : CT} {v : TV} {x : t.den} (h : decD t v = some x) : v = .c t x := by
  cases v with
  | c t' y =>
    simp only [decD] at h
    split at h
    · rename_i e
      have e' := CT.beq_eq _ _ e
      subst e'
      cases h
      rfl
    · cases h
  | _ => simp [decD] at h
theorem decT_val : ∀ {ts : List CT} {vs : List TV} {x : Tup ts}, decT ts vs = some x → vs = Tup.cells ts x
  | [], vs, x, h => by
    cases vs with
    | nil => rfl
    | cons v vs => simp [decT] at h
  | t :: ts, vs, x, h => by
    cases vs with
    | nil => simp [decT] at h
    | cons v vs =>
      simp only [decT] at h
      split at h
      rotate_left
      · cases h
      rename_i a b h1 h2
      cases h
      rw [Tup.cells, decD_val h1, decT_val h2, hd_mkT, tl_mkT]
theorem dec_val {s : Sh} {v : TV} {x : s.den} (h : s.dec v = some x) : v = s.val x := by
  cases s with
  | c t => exact decD_val h
  | a ts =>
    cases v with
    | a cs => exact congrArg TV.a (decT_val h)
    | _ => simp [Sh.dec] at h
  | b ts =>
    cases v with
    | bx cs => exact congrArg TV.bx (decT_val h)
    | _ => simp [Sh.dec] at h
theorem decL_val : ∀ {ss : List Sh} {vs : List TV} {x : DenL ss}, decL ss vs = some x → vs = valL ss x
  | [], vs, x, h => by
    cases vs with
    | nil => rfl
    | cons v vs => simp [decL] at h
  | s :: ss, vs, x, h => by
    cases vs with
    | nil => simp [decL] at h
    | cons v vs =>
      simp only [decL] at h
      split at h
      rotate_left
      · cases h
      rename_i a b h1 h2
      cases h
      rw [valL, dec_val h1, decL_val h2]

/-- A row of a table, by the shapes of its arguments. -/
def mkRow (f : FuncId) (sg : List Sh) (g : DenL sg → Option Prop × TRes) : TRow := ⟨f, sg, fun vs => match decL sg vs with
  | some x => some (g x)
  | none => none⟩
theorem rowOk {P : Program} {f : FuncId} {sg : List Sh} {g : DenL sg → Option Prop × TRes} (h : ∀ x : DenL sg, holds (g x).1 → TCon P f (valL sg x) (g x).2) : TRowOk P (mkRow f sg g) := by
  intro vs pre r hf hr hp
  simp only [mkRow] at hr
  split at hr
  · rename_i x hx
    rw [decL_val hx]
    cases hg : g x with
    | mk p r' =>
      rw [hg] at hr
      cases hr
      have := h x
      rw [hg] at this
      exact this hp
  · cases hr

theorem tcon_gen {P : Program} {Γ : List TRow} {f : FuncId} {tc : TCode} {rs : List (ARv × Md)} {n nl : Nat} {xs : List TV} {r : TRes} {sg : List Sh} (hm : P.follows .mixedOrders = true) (hΓ : TOk P Γ) (hs : compF P f = some (tc.er, rs.map Prod.fst, n))
    (hfit : fitsL sg xs = true) (hN : Nat.ble xs.length n = true) (hnl : tbxs xs = nl) (h : Hold (tawp Γ nl tc (TQ nl rs (fun r' => r' = r)) (tstart xs))) : TCon P f xs r := by
  subst hnl
  exact tcon_fn hm hΓ hs hfit (Nat.le_of_ble_eq_true hN) h.h

theorem mixed : Try.prog.follows .mixedOrders = true := by kernel_rfl
end Go.Proofs.Ytpnblnkggeopkaa.Am
