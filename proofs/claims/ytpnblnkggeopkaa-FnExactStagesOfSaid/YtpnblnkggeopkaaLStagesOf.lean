/-
  Written by program: the code of functions, what it asks, and that it comes to what the models say.
-/
import Derived.Test.YtpnblnkggeopkaaH7
import Derived.Test.YtpnblnkggeopkaaP5
namespace Go.Proofs.Ytpnblnkggeopkaa.Am
open Go Go.RowKit Go.Proofs.Ytpnblnkggeopkaa
set_option linter.unusedVariables false
set_option linter.unusedSimpArgs false
noncomputable section

def l_FnExactStagesOf_R (t : Bool) : TRes := ⟨(.c .bool t), [], [], false⟩
def l_FnExactStagesOf_row : TRow := mkRow 13 [(.a ctConfig)] fun x => (none, l_FnExactStagesOf_R (mTrue x.1))
def l_FnExactStagesOf_C : Prop := ∀ (x0 : TConfig), TCon Try.prog 13 [(.a (Tup.cells ctConfig x0))] (l_FnExactStagesOf_R (mTrue x0))

/-! laws.FnExactStagesOf -/
def l_FnExactStagesOf_G : List TRow := [l_szConfig_row, l_toConfig_row, s_StagesOf_row, i_StagesOf_row, l_eqConfig_row]
def l_FnExactStagesOf_c : TCode :=
  (.seq (.reg [.op (some 1) (.box 79 (.s 0) 6),
    .op (some 2) (.mov (.k (.c .bool false)))])
 (.seq (.reg [.op (some 3) (.mov (.k (.c TI (1048576 : Int))))])
  (.seq (.reg [.op (some 7) (.load (.s 1) 6 true),
      .op (some 8) (.mov (.s 3)),
      .op (some 9) (.call 67 [(.s 7), (.s 8)]),
      .op (some 3) (.mov (.s 9))])
   (.seq (.seq (.reg [.op (some 10) (.mov (.s 3)),
        .op (some 11) (.bin .lss (.s 10) (.k (.c TI (0 : Int))))])
     (.cond (.s 11) (.seq (.reg [.op (some 2) (.mov (.k (.c .bool true)))])
       .ret) .skip))
    (.seq (.reg [.op (some 12) (.load (.s 1) 6 true),
        .op (some 13) (.call 69 [(.s 12)]),
        .op (some 14) (.call 68 [(.s 13)]),
        .op (some 4) (.mov (.s 14))])
     (.seq (.reg [.op (some 15) (.load (.s 1) 6 true),
         .op (some 16) (.call 69 [(.s 15)]),
         .op (some 5) (.new 83 [(.n ctOp), (.n [TI]), (.c TI (0 : Int)), (.n [.bool]), (.n [TI]), (.n [TI])]),
         .op none (.store (.s 5) (.s 16) 6)])
      (.seq (.reg [.op (some 17) (.load (.s 5) 6 true),
          .op (some 18) (.call 70 [(.s 17)]),
          .op (some 6) (.mov (.s 18))])
       (.seq (.seq (.reg [.op (some 19) (.mov (.s 6)),
            .op (some 20) (.mov (.s 4)),
            .op (some 21) (.bin .neq (.s 19) (.s 20))])
         (.cond (.s 21) (.seq (.reg [.op (some 2) (.mov (.k (.c .bool false)))])
           .ret) .skip))
        (.seq (.seq (.draw [.op (some 22) (.load (.s 5) 6 true),
             .op (some 23) (.load (.s 1) 6 true),
             .op (some 24) (.call 69 [(.s 23)]),
             .op (some 25) (.call 71 [(.s 22), (.s 24)]),
             .op (some 26) (.not (.s 25))] [(0, 2)])
          (.cond (.s 26) (.seq (.reg [.op (some 2) (.mov (.k (.c .bool false)))])
            .ret) .skip))
         (.seq (.reg [.op (some 2) (.mov (.k (.c .bool true)))])
          .ret))))))))))
def l_FnExactStagesOf_rs : List (ARv × Md) := [(.t 2, .one .d)]
theorem l_FnExactStagesOf_st : compF Try.prog 13 = some (l_FnExactStagesOf_c.er, l_FnExactStagesOf_rs.map Prod.fst, 27) := by kernel_rfl
def l_FnExactStagesOf_Q (K : TRes → Prop) : TPost := TQ 0 l_FnExactStagesOf_rs K
theorem l_FnExactStagesOf_v0 (K : TRes → Prop) (aC : TConfig) (h :
  ((p_sz (α := TConfig) aC (1048576 : Int)) ∧ (((decide ((m_sz (α := TConfig) aC (1048576 : Int)) < (0 : Int))) = true → K (l_FnExactStagesOf_R true)) ∧ ((decide ((m_sz (α := TConfig) aC (1048576 : Int)) < (0 : Int))) = false → ((p_to (α := TConfig) aC) ∧ ((p_to (α := TConfig) aC) ∧ ((((m_stagesOf (id (α := TConfig) aC)) != (m_stagesOf (id (α := TConfig) aC))) = true → K (l_FnExactStagesOf_R false)) ∧ (((m_stagesOf (id (α := TConfig) aC)) != (m_stagesOf (id (α := TConfig) aC))) = false → ((p_to (α := TConfig) aC) ∧ (((!(m_eq (α := TConfig) (id (α := TConfig) aC) (id (α := TConfig) aC))) = true → K (l_FnExactStagesOf_R false)) ∧ ((!(m_eq (α := TConfig) (id (α := TConfig) aC) (id (α := TConfig) aC))) = false → K (l_FnExactStagesOf_R true)))))))))))) : Hold (tawp l_FnExactStagesOf_G 0 l_FnExactStagesOf_c (TQ 0 l_FnExactStagesOf_rs K) (tstart [(.a (Tup.cells ctConfig aC))])) :=
  Hold.of (by kernel_rfl) h
theorem l_FnExactStagesOf_t (aC : TConfig) (r : TRes) (h : Hold (tawp l_FnExactStagesOf_G 0 l_FnExactStagesOf_c (TQ 0 l_FnExactStagesOf_rs fun r' => r' = r) (tstart [(.a (Tup.cells ctConfig aC))]))) : TCon Try.prog 13 [(.a (Tup.cells ctConfig aC))] r :=
  tcon_gen (sg := [(.a ctConfig)]) mixed (TOk.cons l_szConfig_ok (TOk.cons l_toConfig_ok (TOk.cons s_StagesOf_ok (TOk.cons i_StagesOf_ok (TOk.cons l_eqConfig_ok TOk.nil))))) l_FnExactStagesOf_st (by kernel_rfl) (by kernel_rfl) (by kernel_rfl) h
theorem l_FnExactStagesOf_h : l_FnExactStagesOf_C := by
  intro aC
  refine tcon_bd rfl fun hb => l_FnExactStagesOf_t aC _ (l_FnExactStagesOf_v0 _ aC ?_)
  refine ⟨pl_0, fun _ => rfl, fun g_aC => ?_⟩
  have q_aC := law_p (of_decide_eq_false g_aC) (Int.le_refl _)
  simp [m_eq, mTrue, mTrue2, mTrue3, mTrue4, mTrue5, q_aC]

theorem l_FnExactStagesOf_ok : TRowOk Try.prog l_FnExactStagesOf_row := rowOk fun x _ => l_FnExactStagesOf_h x.1

end
end Go.Proofs.Ytpnblnkggeopkaa.Am
