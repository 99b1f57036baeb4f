/-
  MODELS: what the functions of the program come to, in plain Lean. Numbers, vectors, queues.
-/
import Derived.Test.YtephkbajoofeoaaTmC
namespace Go.Proofs.Ytephkbajoofeoaa.Am
open Sz
abbrev TIns := Int × Int
abbrev TItem := Int × List Int
abbrev TOp' := Int × Int × Int × List Int
abbrev TSaved := Int × List (List Int)
abbrev TPair := List Int × List Int
abbrev TQueue := Int × List TItem
abbrev TGrads := List (List Int) × Int × Bool
abbrev TSim := Int × List Int × List Int × Bool
def mTrue {α : Type} (_ : α) : Bool := true
def mTrue2 {α β : Type} (_ : α) (_ : β) : Bool := true
def mTrue3 {α β γ : Type} (_ : α) (_ : β) (_ : γ) : Bool := true
def mTrue4 {α β γ δ : Type} (_ : α) (_ : β) (_ : γ) (_ : δ) : Bool := true
def mTrue5 {α β γ δ ε : Type} (_ : α) (_ : β) (_ : γ) (_ : δ) (_ : ε) : Bool := true

/-- What the laws' size functions tell. -/
def m_szN (n : Nat) (left : Int) : Int := if (n : Int) ≤ left then left - n else -1
def m_sz {α : Type} [Sz α] (x : α) (left : Int) : Int := m_szN (sz x) left
def pl (left : Int) : Prop := -1 ≤ left ∧ left ≤ 1048576
def p_sz {α : Type} [Sz α] (_ : α) (left : Int) : Prop := pl left
def m_eq {α : Type} [DecidableEq α] (x y : α) : Bool := decide (x = y)
def p_to {α : Type} [Sz α] (x : α) : Prop := sz x ≤ 1048576

def m_in (x a b : Int) : Bool := decide (a ≤ x) && decide (x ≤ b)
def m_fixOk (x : Int) : Bool := decide (-2147483647 ≤ x) && decide (x ≤ 2147483647)
def m_allFix (v : List Int) : Bool := v.all m_fixOk
def m_vecOk (v : List Int) : Bool := m_in v.length 1 6 && m_allFix v
def m_itemOk (x : TItem) : Bool := m_vecOk x.2 && decide (0 ≤ x.1) && decide (x.1 < 5)
def m_queueOk (q : TQueue) : Bool := decide (1 ≤ q.1) && decide (q.1 ≤ 5) && decide ((q.2.length : Int) ≤ q.1) && q.2.all m_itemOk
def flGo : List TIns → Int → Int → Int
  | [], _, most => most
  | i :: r, now, most =>
    let n := if i.1 = 2 then now + 1 else if i.1 = 6 then now - 1 else now
    flGo r n (if most < n then n else most)
def bubGo : List Int → Int → Int
  | [], n => n
  | u :: r, n => bubGo r (w64 (n - u))
def m_bubble (s : TSim) : Int := bubGo s.2.1 (w64 (s.1 * s.2.1.length))
def m_inFlight (l : List TIns) : Int := flGo l 0 0
end Go.Proofs.Ytephkbajoofeoaa.Am
