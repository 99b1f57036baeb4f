/-
  Written by program: the code of functions, what it asks, and that it comes to what the models say.
-/
import Derived.Test.YtephkbajoofeoaaM5
namespace Go.Proofs.Ytephkbajoofeoaa.Am
open Go Go.RowKit Go.Proofs.Ytephkbajoofeoaa
set_option linter.unusedVariables false
set_option linter.unusedSimpArgs false
noncomputable section

def i_copyInts_R (t : (List Int)) : TRes := ⟨(.r [TI] 0 0 t.length), [(.sl 3 [TI] true t)], [], true, []⟩
def i_copyInts_row : TRow := mkRow 121 [(.c (.sl [TI]))] fun x => (some (p_lim (α := List Int) x.1), i_copyInts_R (id (α := List Int) x.1))
def i_copyInts_C : Prop := ∀ (x0 : List Int), (p_lim (α := List Int) x0) → TCon Try.prog 121 [(.c (.sl [TI]) x0)] (i_copyInts_R (id (α := List Int) x0))

/-! impl.copyInts -/
def i_copyInts_G : List TRow := []
def i_copyInts_c : TCode :=
  (.seq (.reg [.op (some 2) (.mov (.k (.n [TI])))])
 (.seq (.reg [.op (some 3) (.bsl 3 [TI] []),
     .op (some 4) (.mov (.s 0)),
     .op (some 5) (.app (.s 3) (.s 4) 3 [TI]),
     .op (some 2) (.mov (.s 5))])
  .ret))
def i_copyInts_rs : List (ARv × Md) := [(.t 2, .one (.o 3))]
theorem i_copyInts_st : compF Try.prog 121 = some (i_copyInts_c.er, i_copyInts_rs.map Prod.fst, 6) := by kernel_rfl
def i_copyInts_Q (K : TRes → Prop) : TPost := TQ 0 0 i_copyInts_rs K
theorem i_copyInts_v0 (K : TRes → Prop) (l : List Int) (h :
  (((0 = 0 ∨ 0 + l.length ≤ 0) ∧ 0 + l.length ≤ big) ∧ K (i_copyInts_R (List.take (0 + l.length) (l : List Int))))) : Hold (tawp i_copyInts_G (0 + 0) i_copyInts_c (TQ 0 0 i_copyInts_rs K) (tstart [(.c (.sl [TI]) l)])) :=
  Hold.of (by kernel_rfl) h
theorem i_copyInts_t (l : List Int) (r : TRes) (h : Hold (tawp i_copyInts_G (0 + 0) i_copyInts_c (TQ 0 0 i_copyInts_rs fun r' => r' = r) (tstart [(.c (.sl [TI]) l)]))) : TCon Try.prog 121 [(.c (.sl [TI]) l)] r :=
  tcon_gen (sg := [(.c (.sl [TI]))]) mixed TOk.nil i_copyInts_st (by kernel_rfl) (by kernel_rfl) (by kernel_rfl) (by kernel_rfl) h
theorem i_copyInts_h : i_copyInts_C := by
  intro l hp
  refine tcon_bd rfl fun hb => i_copyInts_t l _ (i_copyInts_v0 _ l ?_)
  have hl_l : l.length ≤ 9223372036854775807 := hb.1.1
  have hl := sz_ints l
  unfold p_lim at hp
  exact ⟨⟨.inl rfl, by rw [big_eq]; omega⟩, R_eq (by simp)⟩

theorem i_copyInts_ok : TRowOk Try.prog i_copyInts_row := rowOk fun x h => i_copyInts_h x.1 h

end
end Go.Proofs.Ytephkbajoofeoaa.Am
