/-
  Written by program: the code of functions, what it asks, and that it comes to what the models say.
-/
import Derived.Test.YtpnblnkggeopkaaH4
import Derived.Test.YtpnblnkggeopkaaP3
namespace Go.Proofs.Ytpnblnkggeopkaa.Am
open Go Go.RowKit Go.Proofs.Ytpnblnkggeopkaa
set_option linter.unusedVariables false
set_option linter.unusedSimpArgs false
noncomputable section

def l_FnExactFindSaved_R (t : Bool) : TRes := ⟨(.c .bool t), [], [], false⟩
def l_FnExactFindSaved_row : TRow := mkRow 3 [(.c (.sl ctSaved)), (.c TI)] fun x => (none, l_FnExactFindSaved_R (mTrue2 x.1 x.2.1))
def l_FnExactFindSaved_C : Prop := ∀ (x0 : List TSaved) (x1 : Int), TCon Try.prog 3 [(.c (.sl ctSaved) x0), (.c TI x1)] (l_FnExactFindSaved_R (mTrue2 x0 x1))

/-! laws.FnExactFindSaved -/
def l_FnExactFindSaved_G : List TRow := [l_szSavedS_row, l_toSavedS_row, s_FindSaved_row, i_FindSaved_row, l_eqSavedS_row]
def l_FnExactFindSaved_c : TCode :=
  (.seq (.reg [.op (some 4) (.mov (.k (.c .bool false)))])
 (.seq (.reg [.op (some 5) (.mov (.k (.c TI (1048576 : Int))))])
  (.seq (.reg [.op (some 9) (.mov (.s 0)),
      .op (some 10) (.mov (.s 5)),
      .op (some 11) (.call 30 [(.s 9), (.s 10)]),
      .op (some 5) (.mov (.s 11))])
   (.seq (.seq (.reg [.op (some 12) (.mov (.s 5)),
        .op (some 13) (.bin .lss (.s 12) (.k (.c TI (0 : Int))))])
     (.cond (.s 13) (.seq (.reg [.op (some 4) (.mov (.k (.c .bool true)))])
       .ret) .skip))
    (.seq (.reg [.op (some 14) (.mov (.s 0)),
        .op (some 15) (.call 32 [(.s 14)]),
        .op (some 16) (.mov (.s 1)),
        .op (some 17) (.call 31 [(.s 15), (.s 16)]),
        .op (some 6) (.mov (.s 17))])
     (.seq (.reg [.op (some 18) (.mov (.s 0)),
         .op (some 19) (.call 32 [(.s 18)]),
         .op (some 7) (.mov (.s 19))])
      (.seq (.reg [.op (some 20) (.mov (.s 7)),
          .op (some 21) (.mov (.s 1)),
          .op (some 22) (.call 33 [(.s 20), (.s 21)]),
          .op (some 8) (.mov (.s 22))])
       (.seq (.seq (.reg [.op (some 23) (.mov (.s 8)),
            .op (some 24) (.mov (.s 6)),
            .op (some 25) (.bin .neq (.s 23) (.s 24))])
         (.cond (.s 25) (.seq (.reg [.op (some 4) (.mov (.k (.c .bool false)))])
           .ret) .skip))
        (.seq (.seq (.reg [.op (some 26) (.mov (.s 7)),
             .op (some 27) (.mov (.s 0)),
             .op (some 28) (.call 32 [(.s 27)]),
             .op (some 29) (.call 34 [(.s 26), (.s 28)]),
             .op (some 30) (.not (.s 29))])
          (.cond (.s 30) (.seq (.reg [.op (some 4) (.mov (.k (.c .bool false)))])
            .ret) .skip))
         (.seq (.reg [.op (some 4) (.mov (.k (.c .bool true)))])
          .ret))))))))))
def l_FnExactFindSaved_rs : List (ARv × Md) := [(.t 4, .one .d)]
theorem l_FnExactFindSaved_st : compF Try.prog 3 = some (l_FnExactFindSaved_c.er, l_FnExactFindSaved_rs.map Prod.fst, 31) := by kernel_rfl
def l_FnExactFindSaved_Q (K : TRes → Prop) : TPost := TQ 0 l_FnExactFindSaved_rs K
theorem l_FnExactFindSaved_v0 (K : TRes → Prop) (aL : List TSaved) (aM : Int) (h :
  ((p_sz (α := List TSaved) aL (1048576 : Int)) ∧ (((decide ((m_sz (α := List TSaved) aL (1048576 : Int)) < (0 : Int))) = true → K (l_FnExactFindSaved_R true)) ∧ ((decide ((m_sz (α := List TSaved) aL (1048576 : Int)) < (0 : Int))) = false → ((p_to (α := List TSaved) aL) ∧ ((p_to (α := List TSaved) aL) ∧ ((((m_findSaved (id (α := List TSaved) aL) aM) != (m_findSaved (id (α := List TSaved) aL) aM)) = true → K (l_FnExactFindSaved_R false)) ∧ (((m_findSaved (id (α := List TSaved) aL) aM) != (m_findSaved (id (α := List TSaved) aL) aM)) = false → ((p_to (α := List TSaved) aL) ∧ (((!(m_eq (α := List TSaved) (id (α := List TSaved) aL) (id (α := List TSaved) aL))) = true → K (l_FnExactFindSaved_R false)) ∧ ((!(m_eq (α := List TSaved) (id (α := List TSaved) aL) (id (α := List TSaved) aL))) = false → K (l_FnExactFindSaved_R true)))))))))))) : Hold (tawp l_FnExactFindSaved_G 0 l_FnExactFindSaved_c (TQ 0 l_FnExactFindSaved_rs K) (tstart [(.c (.sl ctSaved) aL), (.c TI aM)])) :=
  Hold.of (by kernel_rfl) h
theorem l_FnExactFindSaved_t (aL : List TSaved) (aM : Int) (r : TRes) (h : Hold (tawp l_FnExactFindSaved_G 0 l_FnExactFindSaved_c (TQ 0 l_FnExactFindSaved_rs fun r' => r' = r) (tstart [(.c (.sl ctSaved) aL), (.c TI aM)]))) : TCon Try.prog 3 [(.c (.sl ctSaved) aL), (.c TI aM)] r :=
  tcon_gen (sg := [(.c (.sl ctSaved)), (.c TI)]) mixed (TOk.cons l_szSavedS_ok (TOk.cons l_toSavedS_ok (TOk.cons s_FindSaved_ok (TOk.cons i_FindSaved_ok (TOk.cons l_eqSavedS_ok TOk.nil))))) l_FnExactFindSaved_st (by kernel_rfl) (by kernel_rfl) (by kernel_rfl) h
theorem l_FnExactFindSaved_h : l_FnExactFindSaved_C := by
  intro aL aM
  refine tcon_bd rfl fun hb => l_FnExactFindSaved_t aL aM _ (l_FnExactFindSaved_v0 _ aL aM ?_)
  refine ⟨pl_0, fun _ => rfl, fun g_aL => ?_⟩
  have q_aL := law_p (of_decide_eq_false g_aL) (Int.le_refl _)
  simp [m_eq, mTrue, mTrue2, mTrue3, mTrue4, mTrue5, q_aL]

theorem l_FnExactFindSaved_ok : TRowOk Try.prog l_FnExactFindSaved_row := rowOk fun x _ => l_FnExactFindSaved_h x.1 x.2.1

end
end Go.Proofs.Ytpnblnkggeopkaa.Am
