/-
  A PROGRAM WHOSE CALLS GO DOWN A LADDER HAS NO RECURSION: the row's fact 'recurses', without the closure of every callee.
-/
import Derived.Test.YtephkbajoofeoaaTmR
namespace Go.Proofs.Ytephkbajoofeoaa.Am
set_option linter.unusedSimpArgs false
set_option linter.unusedVariables false
open Go

theorem and_mk {a b : Bool} (ha : a = true) (hb : b = true) : (a && b) = true := by rw [ha, hb]; rfl

def ladder (P : Program) (rk : List Nat) : Bool := (List.range P.funcs.size).all fun g => ((P.funcs[g]?).elim [] P.leadsTo).all fun h => Nat.blt (rk.getD h 0) (rk.getD g 0)

theorem ladder_lt {P : Program} {rk : List Nat} (h : ladder P rk = true) (g x : Nat) (hx : x ∈ (P.funcs[g]?).elim [] P.leadsTo) : rk.getD x 0 < rk.getD g 0 := by
  by_cases hg : g < P.funcs.size
  · have := List.all_eq_true.1 h g (List.mem_range.2 hg)
    exact Nat.le_of_ble_eq_true (List.all_eq_true.1 this x hx)
  · rw [Array.getElem?_eq_none (by omega)] at hx
    simp at hx

theorem via_rank {P : Program} {rk : List Nat} (h : ladder P rk = true) (r : Nat) : ∀ (fuel : Nat) (todo seen : List FuncId), (∀ x, x ∈ todo → rk.getD x 0 < r) → (∀ x, x ∈ seen → rk.getD x 0 < r) → ∀ x, x ∈ P.closureVia fuel todo seen → rk.getD x 0 < r
  | 0, todo, seen, _, h2, x, hx => by
    simp only [Program.closureVia, List.mem_reverse] at hx
    exact h2 x hx
  | n + 1, [], seen, _, h2, x, hx => by
    simp only [Program.closureVia, List.mem_reverse] at hx
    exact h2 x hx
  | n + 1, f :: todo, seen, h1, h2, x, hx => by
    simp only [Program.closureVia] at hx
    split at hx
    · exact via_rank h r n todo seen (fun y hy => h1 y (List.mem_cons_of_mem _ hy)) h2 x hx
    · refine via_rank h r n _ _ (fun y hy => ?_) (fun y hy => ?_) x hx
      · rcases List.mem_append.1 hy with hy | hy
        · exact Nat.lt_trans (ladder_lt h f y hy) (h1 f List.mem_cons_self)
        · exact h1 y (List.mem_cons_of_mem _ hy)
      · rcases List.mem_cons.1 hy with rfl | hy
        · exact h1 _ List.mem_cons_self
        · exact h2 y hy

theorem no_rec {P : Program} {rk : List Nat} (h : ladder P rk = true) {f : FuncId} (hu : P.unfollowed f = false) : P.recurses f = false := by
  unfold Program.recurses
  rw [hu, Bool.false_or]
  rw [Bool.eq_false_iff]
  intro hc
  obtain ⟨g, hg, hc⟩ := List.any_eq_true.1 hc
  obtain ⟨x, hx, hc⟩ := List.any_eq_true.1 hc
  have hmem : g ∈ P.closure x := by simpa using hc
  have hlt := ladder_lt h g x hx
  unfold Program.closure at hmem
  have := via_rank h (rk.getD g 0) _ [x] [] (fun y hy => by simp at hy; subst hy; exact hlt) (fun y hy => by simp at hy) g hmem
  omega

/-! What the program's head says, of whatever program. -/
def cutWord : List Char := ([99, 117, 116] : List Nat).map Char.ofNat
theorem make_cut {P : Program} {rest : List (List Char)} (h : behindMainWord (wordsSigns P.initOrder.toList) = cutWord :: rest) : P.make = some .cut := by
  unfold Program.make
  rw [h]
  rfl
theorem strip_cut (rest : List (List Char)) : stripLifts liftWords (cutWord :: rest) = ([], cutWord :: rest) := by
  rfl
theorem lifts_cut {P : Program} {rest : List (List Char)} (h : behindMainWord (wordsSigns P.initOrder.toList) = cutWord :: rest) : P.headLifts = [] := by
  unfold Program.headLifts
  rw [h, strip_cut]
  rfl
theorem final_cut {P : Program} {rest : List (List Char)} (h : behindMainWord (wordsSigns P.initOrder.toList) = cutWord :: rest) : P.liftsFinal = false := by
  unfold Program.liftsFinal
  rw [lifts_cut h, h]
  rfl
theorem enter_cut {P : Program} {rest : List (List Char)} (h : behindMainWord (wordsSigns P.initOrder.toList) = cutWord :: rest) (h1 : P.laysLater = false) (h2 : P.bearsReflect = false) (h3 : P.doorFits [] = true) : P.mayEnter = true := by
  unfold Program.mayEnter
  rw [h]
  simp only [strip_cut, h1, h2, h3]
  rfl
end Go.Proofs.Ytephkbajoofeoaa.Am
