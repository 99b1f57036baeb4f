/-
  Written by program: the code of functions, what it asks, and that it comes to what the models say.
-/
import Derived.Test.YtpnblnkggeopkaaH6
import Derived.Test.YtpnblnkggeopkaaPA
namespace Go.Proofs.Ytpnblnkggeopkaa.Am
open Go Go.RowKit Go.Proofs.Ytpnblnkggeopkaa
set_option linter.unusedVariables false
set_option linter.unusedSimpArgs false
noncomputable section

def l_FnExactEnabled_R (t : Bool) : TRes := ⟨(.c .bool t), [], [], false⟩
def l_FnExactEnabled_row : TRow := mkRow 28 [(.a ctPipe), (.c TI)] fun x => (none, l_FnExactEnabled_R (mTrue2 x.1 x.2.1))
def l_FnExactEnabled_C : Prop := ∀ (x0 : TPipe) (x1 : Int), TCon Try.prog 28 [(.a (Tup.cells ctPipe x0)), (.c TI x1)] (l_FnExactEnabled_R (mTrue2 x0 x1))

/-! laws.FnExactEnabled -/
def l_FnExactEnabled_G : List TRow := [l_szPipe_row, l_toPipe_row, s_Enabled_row, i_Enabled_row, l_eqPipe_row]
def l_FnExactEnabled_c : TCode :=
  (.seq (.reg [.op (some 2) (.box 117 (.s 0) 4),
    .op (some 4) (.mov (.k (.c .bool false)))])
 (.seq (.reg [.op (some 5) (.mov (.k (.c TI (1048576 : Int))))])
  (.seq (.reg [.op (some 9) (.load (.s 2) 4 true),
      .op (some 10) (.mov (.s 5)),
      .op (some 11) (.call 92 [(.s 9), (.s 10)]),
      .op (some 5) (.mov (.s 11))])
   (.seq (.seq (.reg [.op (some 12) (.mov (.s 5)),
        .op (some 13) (.bin .lss (.s 12) (.k (.c TI (0 : Int))))])
     (.cond (.s 13) (.seq (.reg [.op (some 4) (.mov (.k (.c .bool true)))])
       .ret) .skip))
    (.seq (.reg [.op (some 14) (.load (.s 2) 4 true),
        .op (some 15) (.call 94 [(.s 14)]),
        .op (some 16) (.mov (.s 1)),
        .op (some 17) (.call 110 [(.s 15), (.s 16)]),
        .op (some 6) (.mov (.s 17))])
     (.seq (.reg [.op (some 18) (.load (.s 2) 4 true),
         .op (some 19) (.call 94 [(.s 18)]),
         .op (some 7) (.new 123 [(.n ctPair), (.n ctStage), (.n ctQueue), (.n ctQueue)]),
         .op none (.store (.s 7) (.s 19) 4)])
      (.seq (.reg [.op (some 20) (.load (.s 7) 4 true),
          .op (some 21) (.mov (.s 1)),
          .op (some 22) (.call 111 [(.s 20), (.s 21)]),
          .op (some 8) (.mov (.s 22))])
       (.seq (.seq (.reg [.op (some 23) (.mov (.s 8)),
            .op (some 24) (.mov (.s 6)),
            .op (some 25) (.eqb true (.s 23) (.s 24))])
         (.cond (.s 25) (.seq (.reg [.op (some 4) (.mov (.k (.c .bool false)))])
           .ret) .skip))
        (.seq (.seq (.draw [.op (some 26) (.load (.s 7) 4 true),
             .op (some 27) (.load (.s 2) 4 true),
             .op (some 28) (.call 94 [(.s 27)]),
             .op (some 29) (.call 96 [(.s 26), (.s 28)]),
             .op (some 30) (.not (.s 29))] [(0, 2)])
          (.cond (.s 30) (.seq (.reg [.op (some 4) (.mov (.k (.c .bool false)))])
            .ret) .skip))
         (.seq (.reg [.op (some 4) (.mov (.k (.c .bool true)))])
          .ret))))))))))
def l_FnExactEnabled_rs : List (ARv × Md) := [(.t 4, .one .d)]
theorem l_FnExactEnabled_st : compF Try.prog 28 = some (l_FnExactEnabled_c.er, l_FnExactEnabled_rs.map Prod.fst, 31) := by kernel_rfl
def l_FnExactEnabled_Q (K : TRes → Prop) : TPost := TQ 0 l_FnExactEnabled_rs K
theorem l_FnExactEnabled_v0 (K : TRes → Prop) (aP : TPipe) (aS : Int) (h :
  ((p_sz (α := TPipe) aP (1048576 : Int)) ∧ (((decide ((m_sz (α := TPipe) aP (1048576 : Int)) < (0 : Int))) = true → K (l_FnExactEnabled_R true)) ∧ ((decide ((m_sz (α := TPipe) aP (1048576 : Int)) < (0 : Int))) = false → ((p_to (α := TPipe) aP) ∧ ((p_to (α := TPipe) aP) ∧ (((!((m_enabled (id (α := TPipe) aP) aS) == (m_enabled (id (α := TPipe) aP) aS))) = true → K (l_FnExactEnabled_R false)) ∧ ((!((m_enabled (id (α := TPipe) aP) aS) == (m_enabled (id (α := TPipe) aP) aS))) = false → ((p_to (α := TPipe) aP) ∧ (((!(m_eq (α := TPipe) (id (α := TPipe) aP) (id (α := TPipe) aP))) = true → K (l_FnExactEnabled_R false)) ∧ ((!(m_eq (α := TPipe) (id (α := TPipe) aP) (id (α := TPipe) aP))) = false → K (l_FnExactEnabled_R true)))))))))))) : Hold (tawp l_FnExactEnabled_G 0 l_FnExactEnabled_c (TQ 0 l_FnExactEnabled_rs K) (tstart [(.a (Tup.cells ctPipe aP)), (.c TI aS)])) :=
  Hold.of (by kernel_rfl) h
theorem l_FnExactEnabled_t (aP : TPipe) (aS : Int) (r : TRes) (h : Hold (tawp l_FnExactEnabled_G 0 l_FnExactEnabled_c (TQ 0 l_FnExactEnabled_rs fun r' => r' = r) (tstart [(.a (Tup.cells ctPipe aP)), (.c TI aS)]))) : TCon Try.prog 28 [(.a (Tup.cells ctPipe aP)), (.c TI aS)] r :=
  tcon_gen (sg := [(.a ctPipe), (.c TI)]) mixed (TOk.cons l_szPipe_ok (TOk.cons l_toPipe_ok (TOk.cons s_Enabled_ok (TOk.cons i_Enabled_ok (TOk.cons l_eqPipe_ok TOk.nil))))) l_FnExactEnabled_st (by kernel_rfl) (by kernel_rfl) (by kernel_rfl) h
theorem l_FnExactEnabled_h : l_FnExactEnabled_C := by
  intro aP aS
  refine tcon_bd rfl fun hb => l_FnExactEnabled_t aP aS _ (l_FnExactEnabled_v0 _ aP aS ?_)
  refine ⟨pl_0, fun _ => rfl, fun g_aP => ?_⟩
  have q_aP := law_p (of_decide_eq_false g_aP) (Int.le_refl _)
  simp [m_eq, mTrue, mTrue2, mTrue3, mTrue4, mTrue5, q_aP]

theorem l_FnExactEnabled_ok : TRowOk Try.prog l_FnExactEnabled_row := rowOk fun x _ => l_FnExactEnabled_h x.1 x.2.1

end
end Go.Proofs.Ytpnblnkggeopkaa.Am
