/-
  Written by program: the code of functions, what it asks, and that it comes to what the models say.
-/
import Derived.Test.YtpnblnkggeopkaaH6
import Derived.Test.YtpnblnkggeopkaaPA
import Derived.Test.YtpnblnkggeopkaaH4
namespace Go.Proofs.Ytpnblnkggeopkaa.Am
open Go Go.RowKit Go.Proofs.Ytpnblnkggeopkaa
set_option linter.unusedVariables false
set_option linter.unusedSimpArgs false
noncomputable section

def l_FnExactNext_R (t : Bool) : TRes := ⟨(.c .bool t), [], [], false⟩
def l_FnExactNext_row : TRow := mkRow 23 [(.a ctPipe), (.c TI)] fun x => (none, l_FnExactNext_R (mTrue2 x.1 x.2.1))
def l_FnExactNext_C : Prop := ∀ (x0 : TPipe) (x1 : Int), TCon Try.prog 23 [(.a (Tup.cells ctPipe x0)), (.c TI x1)] (l_FnExactNext_R (mTrue2 x0 x1))

/-! laws.FnExactNext -/
def l_FnExactNext_G : List TRow := [l_szPipe_row, l_toPipe_row, s_Next_row, i_Next_row, l_eqIns_row, l_eqPipe_row]
def l_FnExactNext_c : TCode :=
  (.seq (.reg [.op (some 2) (.box 117 (.s 0) 4),
    .op (some 4) (.mov (.k (.c .bool false)))])
 (.seq (.reg [.op (some 5) (.mov (.k (.c TI (1048576 : Int))))])
  (.seq (.reg [.op (some 9) (.load (.s 2) 4 true),
      .op (some 10) (.mov (.s 5)),
      .op (some 11) (.call 92 [(.s 9), (.s 10)]),
      .op (some 5) (.mov (.s 11))])
   (.seq (.seq (.reg [.op (some 12) (.mov (.s 5)),
        .op (some 13) (.bin .lss (.s 12) (.k (.c TI (0 : Int))))])
     (.cond (.s 13) (.seq (.reg [.op (some 4) (.mov (.k (.c .bool true)))])
       .ret) .skip))
    (.seq (.reg [.op (some 14) (.load (.s 2) 4 true),
        .op (some 15) (.call 94 [(.s 14)]),
        .op (some 16) (.mov (.s 1)),
        .op (some 17) (.call 99 [(.s 15), (.s 16)]),
        .op (some 6) (.new 129 [(.c TI (0 : Int)), (.c TI (0 : Int))]),
        .op none (.store (.s 6) (.s 17) 2)])
     (.seq (.reg [.op (some 18) (.load (.s 2) 4 true),
         .op (some 19) (.call 94 [(.s 18)]),
         .op (some 7) (.new 123 [(.n ctPair), (.n ctStage), (.n ctQueue), (.n ctQueue)]),
         .op none (.store (.s 7) (.s 19) 4)])
      (.seq (.reg [.op (some 20) (.load (.s 7) 4 true),
          .op (some 21) (.mov (.s 1)),
          .op (some 22) (.call 100 [(.s 20), (.s 21)]),
          .op (some 8) (.new 129 [(.c TI (0 : Int)), (.c TI (0 : Int))]),
          .op none (.store (.s 8) (.s 22) 2)])
       (.seq (.seq (.reg [.op (some 23) (.load (.s 8) 2 true),
            .op (some 24) (.load (.s 6) 2 true),
            .op (some 25) (.call 101 [(.s 23), (.s 24)]),
            .op (some 26) (.not (.s 25))])
         (.cond (.s 26) (.seq (.reg [.op (some 4) (.mov (.k (.c .bool false)))])
           .ret) .skip))
        (.seq (.seq (.draw [.op (some 27) (.load (.s 7) 4 true),
             .op (some 28) (.load (.s 2) 4 true),
             .op (some 29) (.call 94 [(.s 28)]),
             .op (some 30) (.call 96 [(.s 27), (.s 29)]),
             .op (some 31) (.not (.s 30))] [(0, 2)])
          (.cond (.s 31) (.seq (.reg [.op (some 4) (.mov (.k (.c .bool false)))])
            .ret) .skip))
         (.seq (.reg [.op (some 4) (.mov (.k (.c .bool true)))])
          .ret))))))))))
def l_FnExactNext_rs : List (ARv × Md) := [(.t 4, .one .d)]
theorem l_FnExactNext_st : compF Try.prog 23 = some (l_FnExactNext_c.er, l_FnExactNext_rs.map Prod.fst, 32) := by kernel_rfl
def l_FnExactNext_Q (K : TRes → Prop) : TPost := TQ 0 l_FnExactNext_rs K
theorem l_FnExactNext_v0 (K : TRes → Prop) (aP : TPipe) (aS : Int) (h :
  ((p_sz (α := TPipe) aP (1048576 : Int)) ∧ (((decide ((m_sz (α := TPipe) aP (1048576 : Int)) < (0 : Int))) = true → K (l_FnExactNext_R true)) ∧ ((decide ((m_sz (α := TPipe) aP (1048576 : Int)) < (0 : Int))) = false → ((p_to (α := TPipe) aP) ∧ ((p_to (α := TPipe) aP) ∧ (((!(m_eq (α := TIns) (m_next (id (α := TPipe) aP) aS) (m_next (id (α := TPipe) aP) aS))) = true → K (l_FnExactNext_R false)) ∧ ((!(m_eq (α := TIns) (m_next (id (α := TPipe) aP) aS) (m_next (id (α := TPipe) aP) aS))) = false → ((p_to (α := TPipe) aP) ∧ (((!(m_eq (α := TPipe) (id (α := TPipe) aP) (id (α := TPipe) aP))) = true → K (l_FnExactNext_R false)) ∧ ((!(m_eq (α := TPipe) (id (α := TPipe) aP) (id (α := TPipe) aP))) = false → K (l_FnExactNext_R true)))))))))))) : Hold (tawp l_FnExactNext_G 0 l_FnExactNext_c (TQ 0 l_FnExactNext_rs K) (tstart [(.a (Tup.cells ctPipe aP)), (.c TI aS)])) :=
  Hold.of (by kernel_rfl) h
theorem l_FnExactNext_t (aP : TPipe) (aS : Int) (r : TRes) (h : Hold (tawp l_FnExactNext_G 0 l_FnExactNext_c (TQ 0 l_FnExactNext_rs fun r' => r' = r) (tstart [(.a (Tup.cells ctPipe aP)), (.c TI aS)]))) : TCon Try.prog 23 [(.a (Tup.cells ctPipe aP)), (.c TI aS)] r :=
  tcon_gen (sg := [(.a ctPipe), (.c TI)]) mixed (TOk.cons l_szPipe_ok (TOk.cons l_toPipe_ok (TOk.cons s_Next_ok (TOk.cons i_Next_ok (TOk.cons l_eqIns_ok (TOk.cons l_eqPipe_ok TOk.nil)))))) l_FnExactNext_st (by kernel_rfl) (by kernel_rfl) (by kernel_rfl) h
theorem l_FnExactNext_h : l_FnExactNext_C := by
  intro aP aS
  refine tcon_bd rfl fun hb => l_FnExactNext_t aP aS _ (l_FnExactNext_v0 _ aP aS ?_)
  refine ⟨pl_0, fun _ => rfl, fun g_aP => ?_⟩
  have q_aP := law_p (of_decide_eq_false g_aP) (Int.le_refl _)
  simp [m_eq, mTrue, mTrue2, mTrue3, mTrue4, mTrue5, q_aP]

theorem l_FnExactNext_ok : TRowOk Try.prog l_FnExactNext_row := rowOk fun x _ => l_FnExactNext_h x.1 x.2.1

end
end Go.Proofs.Ytpnblnkggeopkaa.Am
