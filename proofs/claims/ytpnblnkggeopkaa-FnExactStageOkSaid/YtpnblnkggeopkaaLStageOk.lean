/-
  Written by program: the code of functions, what it asks, and that it comes to what the models say.
-/
import Derived.Test.YtpnblnkggeopkaaH5
import Derived.Test.YtpnblnkggeopkaaP8
namespace Go.Proofs.Ytpnblnkggeopkaa.Am
open Go Go.RowKit Go.Proofs.Ytpnblnkggeopkaa
set_option linter.unusedVariables false
set_option linter.unusedSimpArgs false
noncomputable section

def l_FnExactStageOk_R (t : Bool) : TRes := ⟨(.c .bool t), [], [], false⟩
def l_FnExactStageOk_row : TRow := mkRow 19 [(.a ctStage)] fun x => (none, l_FnExactStageOk_R (mTrue x.1))
def l_FnExactStageOk_C : Prop := ∀ (x0 : TStage), TCon Try.prog 19 [(.a (Tup.cells ctStage x0))] (l_FnExactStageOk_R (mTrue x0))

/-! laws.FnExactStageOk -/
def l_FnExactStageOk_G : List TRow := [l_szStage_row, l_toStage_row, s_StageOk_row, i_StageOk_row, l_eqStage_row]
def l_FnExactStageOk_c : TCode :=
  (.seq (.reg [.op (some 1) (.box 93 (.s 0) 14),
    .op (some 2) (.mov (.k (.c .bool false)))])
 (.seq (.reg [.op (some 3) (.mov (.k (.c TI (1048576 : Int))))])
  (.seq (.reg [.op (some 7) (.load (.s 1) 14 true),
      .op (some 8) (.mov (.s 3)),
      .op (some 9) (.call 76 [(.s 7), (.s 8)]),
      .op (some 3) (.mov (.s 9))])
   (.seq (.seq (.reg [.op (some 10) (.mov (.s 3)),
        .op (some 11) (.bin .lss (.s 10) (.k (.c TI (0 : Int))))])
     (.cond (.s 11) (.seq (.reg [.op (some 2) (.mov (.k (.c .bool true)))])
       .ret) .skip))
    (.seq (.reg [.op (some 12) (.load (.s 1) 14 true),
        .op (some 13) (.call 78 [(.s 12)]),
        .op (some 14) (.call 85 [(.s 13)]),
        .op (some 4) (.mov (.s 14))])
     (.seq (.reg [.op (some 15) (.load (.s 1) 14 true),
         .op (some 16) (.call 78 [(.s 15)]),
         .op (some 5) (.new 100 [(.c TI (0 : Int)), (.n ctIns), (.n ctOp), (.c .bool false), (.c .bool false), (.n ctSaved), (.n [(.sl [TI])]), (.n [TI]), (.n [TI]), (.n [TI]), (.n [TI]), (.n [(.sl [TI])]), (.c TI (0 : Int)), (.c .bool false)]),
         .op none (.store (.s 5) (.s 16) 14)])
      (.seq (.reg [.op (some 17) (.load (.s 5) 14 true),
          .op (some 18) (.call 86 [(.s 17)]),
          .op (some 6) (.mov (.s 18))])
       (.seq (.seq (.reg [.op (some 19) (.mov (.s 6)),
            .op (some 20) (.mov (.s 4)),
            .op (some 21) (.eqb true (.s 19) (.s 20))])
         (.cond (.s 21) (.seq (.reg [.op (some 2) (.mov (.k (.c .bool false)))])
           .ret) .skip))
        (.seq (.seq (.draw [.op (some 22) (.load (.s 5) 14 true),
             .op (some 23) (.load (.s 1) 14 true),
             .op (some 24) (.call 78 [(.s 23)]),
             .op (some 25) (.call 80 [(.s 22), (.s 24)]),
             .op (some 26) (.not (.s 25))] [(0, 2)])
          (.cond (.s 26) (.seq (.reg [.op (some 2) (.mov (.k (.c .bool false)))])
            .ret) .skip))
         (.seq (.reg [.op (some 2) (.mov (.k (.c .bool true)))])
          .ret))))))))))
def l_FnExactStageOk_rs : List (ARv × Md) := [(.t 2, .one .d)]
theorem l_FnExactStageOk_st : compF Try.prog 19 = some (l_FnExactStageOk_c.er, l_FnExactStageOk_rs.map Prod.fst, 27) := by kernel_rfl
def l_FnExactStageOk_Q (K : TRes → Prop) : TPost := TQ 0 l_FnExactStageOk_rs K
theorem l_FnExactStageOk_v0 (K : TRes → Prop) (aS : TStage) (h :
  ((p_sz (α := TStage) aS (1048576 : Int)) ∧ (((decide ((m_sz (α := TStage) aS (1048576 : Int)) < (0 : Int))) = true → K (l_FnExactStageOk_R true)) ∧ ((decide ((m_sz (α := TStage) aS (1048576 : Int)) < (0 : Int))) = false → ((p_to (α := TStage) aS) ∧ ((p_to (α := TStage) aS) ∧ (((!((m_stageOk (id (α := TStage) aS)) == (m_stageOk (id (α := TStage) aS)))) = true → K (l_FnExactStageOk_R false)) ∧ ((!((m_stageOk (id (α := TStage) aS)) == (m_stageOk (id (α := TStage) aS)))) = false → ((p_to (α := TStage) aS) ∧ (((!(m_eq (α := TStage) (id (α := TStage) aS) (id (α := TStage) aS))) = true → K (l_FnExactStageOk_R false)) ∧ ((!(m_eq (α := TStage) (id (α := TStage) aS) (id (α := TStage) aS))) = false → K (l_FnExactStageOk_R true)))))))))))) : Hold (tawp l_FnExactStageOk_G 0 l_FnExactStageOk_c (TQ 0 l_FnExactStageOk_rs K) (tstart [(.a (Tup.cells ctStage aS))])) :=
  Hold.of (by kernel_rfl) h
theorem l_FnExactStageOk_t (aS : TStage) (r : TRes) (h : Hold (tawp l_FnExactStageOk_G 0 l_FnExactStageOk_c (TQ 0 l_FnExactStageOk_rs fun r' => r' = r) (tstart [(.a (Tup.cells ctStage aS))]))) : TCon Try.prog 19 [(.a (Tup.cells ctStage aS))] r :=
  tcon_gen (sg := [(.a ctStage)]) mixed (TOk.cons l_szStage_ok (TOk.cons l_toStage_ok (TOk.cons s_StageOk_ok (TOk.cons i_StageOk_ok (TOk.cons l_eqStage_ok TOk.nil))))) l_FnExactStageOk_st (by kernel_rfl) (by kernel_rfl) (by kernel_rfl) h
theorem l_FnExactStageOk_h : l_FnExactStageOk_C := by
  intro aS
  refine tcon_bd rfl fun hb => l_FnExactStageOk_t aS _ (l_FnExactStageOk_v0 _ aS ?_)
  refine ⟨pl_0, fun _ => rfl, fun g_aS => ?_⟩
  have q_aS := law_p (of_decide_eq_false g_aS) (Int.le_refl _)
  simp [m_eq, mTrue, mTrue2, mTrue3, mTrue4, mTrue5, q_aS]

theorem l_FnExactStageOk_ok : TRowOk Try.prog l_FnExactStageOk_row := rowOk fun x _ => l_FnExactStageOk_h x.1

end
end Go.Proofs.Ytpnblnkggeopkaa.Am
