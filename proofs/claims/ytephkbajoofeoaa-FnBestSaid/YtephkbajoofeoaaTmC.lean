/-
  WORDS FOR SHOWING WHAT A CODE ASKS: loops over lists, numbers that do not run over, sizes.
-/
import Derived.Test.YtephkbajoofeoaaTmB
namespace Go.Proofs.Ytephkbajoofeoaa.Am
set_option linter.unusedSimpArgs false
set_option linter.unusedVariables false
open Go Go.RowKit Go.Proofs.Ytephkbajoofeoaa

theorem w64_ok {x : Int} (h1 : -9223372036854775808 ≤ x) (h2 : x < 9223372036854775808) : w64 x = x := IntWalk.i64_in x (by omega)

theorem gtd_drop {α : Type} {l r : List α} {x : α} {k : Nat} (h : l.drop k = x :: r) (d : α) : gtd d l k = x := by
  unfold gtd
  have : l[k]? = some x := by
    have := congrArg List.head? h
    simpa [List.head?_drop] using this
  rw [List.getD_eq_getElem?_getD, this]; rfl

theorem lt_of_drop {α : Type} {l r : List α} {x : α} {k : Nat} (h : l.drop k = x :: r) : k < l.length := by
  apply Classical.byContradiction
  intro hn
  rw [List.drop_eq_nil_of_le (by omega)] at h
  cases h

theorem drop_succ {α : Type} {l r : List α} {x : α} {k : Nat} (h : l.drop k = x :: r) : l.drop (k + 1) = r := by
  have := congrArg List.tail h
  simpa [List.tail_drop] using this

/-- A loop over a list: by what is left of it. -/
theorem listLoop {α : Type} (l : List α) (P : List α → Nat → Prop) (h0 : P [] l.length) (hs : ∀ (k : Nat) (x : α) (r : List α), l.drop k = x :: r → k < l.length → (∀ d, gtd d l k = x) → P r (k + 1) → P (x :: r) k) : P l 0 := by
  suffices ∀ (r : List α) (k : Nat), l.drop k = r → k ≤ l.length → P r k from this l 0 rfl (Nat.zero_le _)
  intro r
  induction r with
  | nil =>
    intro k hk hle
    have : l.length ≤ k := by simpa using hk
    rw [show k = l.length by omega]
    exact h0
  | cons x r ih =>
    intro k hk hle
    have hlt := lt_of_drop hk
    exact hs k x r hk hlt (gtd_drop hk) (ih (k + 1) (drop_succ hk) hlt)

/-- A loop up to a number. -/
theorem upLoop (n : Nat) (P : Nat → Prop) (h0 : P n) (hs : ∀ k, k < n → P (k + 1) → P k) : P 0 := by
  suffices ∀ j k, k + j = n → P k from this n 0 (by omega)
  intro j
  induction j with
  | zero => intro k hk; rw [show k = n by omega]; exact h0
  | succ j ih => intro k hk; exact hs k (by omega) (ih (k + 1) (by omega))

/-- How many elements there are in all. -/
class Sz (α : Type) where
  sz : α → Nat
instance : Sz Int := ⟨fun _ => 0⟩
instance : Sz Bool := ⟨fun _ => 0⟩
instance : Sz ByteArray := ⟨fun _ => 0⟩
instance {α β : Type} [Sz α] [Sz β] : Sz (α × β) := ⟨fun x => Sz.sz x.1 + Sz.sz x.2⟩
def szL {α : Type} [Sz α] : List α → Nat
  | [] => 0
  | x :: r => 1 + Sz.sz x + szL r
instance {α : Type} [Sz α] : Sz (List α) := ⟨szL⟩
open Sz
@[simp] theorem sz_int (x : Int) : sz x = 0 := rfl
@[simp] theorem sz_bool (x : Bool) : sz x = 0 := rfl
@[simp] theorem sz_pair {α β : Type} [Sz α] [Sz β] (x : α) (y : β) : sz (x, y) = sz x + sz y := rfl
theorem sz_prod {α β : Type} [Sz α] [Sz β] (x : α × β) : sz x = sz x.1 + sz x.2 := rfl
@[simp] theorem sz_nil {α : Type} [Sz α] : sz ([] : List α) = 0 := rfl
@[simp] theorem sz_cons {α : Type} [Sz α] (x : α) (r : List α) : sz (x :: r) = 1 + sz x + sz r := rfl
@[simp] theorem sz_append {α : Type} [Sz α] (l r : List α) : sz (l ++ r) = sz l + sz r := by
  induction l with
  | nil => simp
  | cons x l ih => simp [ih]; omega
theorem len_sz {α : Type} [Sz α] (l : List α) : l.length ≤ sz l := by
  induction l with
  | nil => simp
  | cons x l ih => simp; omega
theorem sz_ints (l : List Int) : sz l = l.length := by
  induction l with
  | nil => rfl
  | cons x l ih => simp [ih]; omega
theorem sz_bools (l : List Bool) : sz l = l.length := by
  induction l with
  | nil => rfl
  | cons x l ih => simp [ih]; omega
theorem sz_mem {α : Type} [Sz α] {l : List α} {x : α} (h : x ∈ l) : sz x < sz l := by
  induction l with
  | nil => cases h
  | cons y l ih =>
    rcases List.mem_cons.1 h with rfl | h
    · simp; omega
    · have := ih h; simp; omega
theorem sz_drop_cons {α : Type} [Sz α] {l r : List α} {x : α} {k : Nat} (h : l.drop k = x :: r) : sz x < sz l := sz_mem (List.mem_of_mem_drop (by rw [h]; exact List.mem_cons_self))
theorem sz_take {α : Type} [Sz α] (l : List α) (k : Nat) : sz (l.take k) + sz (l.drop k) = sz l := by
  rw [← sz_append, List.take_append_drop]
theorem sz_take_le {α : Type} [Sz α] (l : List α) (k : Nat) : sz (l.take k) ≤ sz l := by have := sz_take l k; omega
theorem sz_drop_le {α : Type} [Sz α] (l : List α) (k : Nat) : sz (l.drop k) ≤ sz l := by have := sz_take l k; omega

/-- No more than so many elements. -/
def Lim (n : Nat) {α : Type} [Sz α] (x : α) : Prop := sz x ≤ n

theorem big_eq : (big : Nat) = 4294967296 := rfl
theorem bigI : ((big : Nat) : Int) = 4294967296 := rfl
theorem R_eq {α : Type} {R : α → TRes} {x y : α} (h : x = y) : R x = R y := by rw [h]
end Go.Proofs.Ytephkbajoofeoaa.Am
