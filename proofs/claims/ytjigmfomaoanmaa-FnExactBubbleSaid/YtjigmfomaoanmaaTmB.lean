/-
  SMALL WORDS FOR THE TEXTS THAT ARE PRINTED BY PROGRAM.
-/
import Derived.Test.YtjigmfomaoanmaaTmA
import Derived.Test.YtjigmfomaoanmaaProg
namespace Go.Proofs.Ytjigmfomaoanmaa.Am
set_option linter.unusedSimpArgs false
set_option linter.unusedVariables false
open Go Go.RowKit Go.Proofs.Ytjigmfomaoanmaa

abbrev TI : CT := .int .i64
abbrev w64 (x : Int) : Int := IntKind.i64.wrap x

def Loop (Γ : List TRow) (nl : Nat) (L : List (Nat × Md)) (x : TCode) (Q : TPost) (s : TSt) : Prop :=
  Lfp (fun R s => tawp Γ nl x (Qseq (fun s' => R (gc nl L s')) Q) s) s

theorem loop_unroll' {Γ : List TRow} {nl : Nat} {L : List (Nat × Md)} {x : TCode} {Q : TPost} {s : TSt}
    (h : tawp Γ nl x (Qseq (fun s' => Loop Γ nl L x Q (gc nl L s')) Q) s) : Loop Γ nl L x Q s := loop_unroll h

/-- What is shown (a lid: so that nobody looks in). -/
structure Hold (p : Prop) : Prop where
  h : p

theorem Hold.of {p F : Prop} (e : F = p) (h : F) : Hold p := ⟨e ▸ h⟩

theorem Loop.of {Γ : List TRow} {nl : Nat} {L : List (Nat × Md)} {x : TCode} {Q : TPost} {s : TSt} {F : Prop}
    (e : F = tawp Γ nl x (Qseq (fun s' => Loop Γ nl L x Q (gc nl L s')) Q) s) (h : F) : Loop Γ nl L x Q s := loop_unroll' (e ▸ h)

def gtd {α : Type} (d : α) (l : List α) (i : Nat) : α := l.getD i d

theorem tcon_gen {P : Program} {Γ : List TRow} {f : FuncId} {tc : TCode} {rs : List (ARv × Md)} {n nl : Nat} {xs : List TV} {r : TRes} {sg : List Sh} (hm : P.follows .mixedOrders = true) (hΓ : TOk P Γ) (hs : compF P f = some (tc.er, rs.map Prod.fst, n))
    (hfit : fitsL sg xs = true) (hN : Nat.ble xs.length n = true) (hnl : tbxs xs = nl) (h : Hold (tawp Γ nl tc (TQ nl rs (fun r' => r' = r)) (tstart xs))) : TCon P f xs r := by
  subst hnl
  exact tcon_fn hm hΓ hs hfit (Nat.le_of_ble_eq_true hN) h.h

theorem mixed : Try.prog.follows .mixedOrders = true := by kernel_rfl
end Go.Proofs.Ytjigmfomaoanmaa.Am
