/-
  Written by program: the code of functions, what it asks, and that it comes to what the models say.
-/
import Derived.Test.YtephkbajoofeoaaPL
import Derived.Test.YtephkbajoofeoaaH4
import Derived.Test.YtephkbajoofeoaaK1x
namespace Go.Proofs.Ytephkbajoofeoaa.Am
open Go Go.RowKit Go.Proofs.Ytephkbajoofeoaa
set_option linter.unusedVariables false
set_option linter.unusedSimpArgs false
noncomputable section

def l_FnExactPlan_R (t : Bool) : TRes := ⟨(.c .bool t), [], [], false, []⟩
def l_FnExactPlan_row : TRow := mkRow 3 [(.c TI), (.c TI), (.c TI), (.c TI), (.c .bool)] fun x => (none, l_FnExactPlan_R (mTrue5 x.1 x.2.1 x.2.2.1 x.2.2.2.1 x.2.2.2.2.1))
def l_FnExactPlan_C : Prop := ∀ (x0 : Int) (x1 : Int) (x2 : Int) (x3 : Int) (x4 : Bool), TCon Try.prog 3 [(.c TI x0), (.c TI x1), (.c TI x2), (.c TI x3), (.c .bool x4)] (l_FnExactPlan_R (mTrue5 x0 x1 x2 x3 x4))

/-! laws.FnExactPlan -/
def l_FnExactPlan_G : List TRow := [s_Plan_row, i_Plan_row, l_eqInsS_row, l_markInsS_row, l_heldInsS_row]
def l_FnExactPlan_c : TCode :=
  (.seq (.reg [.op (some 10) (.mov (.k (.c .bool false)))])
 (.seq (.reg [.op (some 16) (.mov (.s 0)),
     .op (some 17) (.mov (.s 1)),
     .op (some 18) (.mov (.s 2)),
     .op (some 19) (.mov (.s 3)),
     .op (some 20) (.mov (.s 4)),
     .op (some 21) (.call 17 [(.s 16), (.s 17), (.s 18), (.s 19), (.s 20)]),
     .op (some 11) (.mov (.s 21))])
  (.seq (.reg [.op (some 22) (.mov (.s 0)),
      .op (some 23) (.mov (.s 1)),
      .op (some 24) (.mov (.s 2)),
      .op (some 25) (.mov (.s 3)),
      .op (some 26) (.mov (.s 4)),
      .op (some 27) (.call 18 [(.s 22), (.s 23), (.s 24), (.s 25), (.s 26)]),
      .op (some 12) (.mov (.s 27))])
   (.seq (.seq (.reg [.op (some 28) (.mov (.s 12)),
        .op (some 29) (.mov (.s 11)),
        .op (some 30) (.call 19 [(.s 28), (.s 29)]),
        .op (some 31) (.not (.s 30))])
     (.cond (.s 31) (.seq (.reg [.op (some 10) (.mov (.k (.c .bool false)))])
       .ret) .skip))
    (.seq (.reg [.op (some 13) (.mov (.k (.c TI (1 : Int))))])
     (.seq (.reg [.op (some 32) (.mov (.s 12)),
         .op (some 33) (.mov (.s 13)),
         .op (some 34) (.call 20 [(.s 32), (.s 33)]),
         .op (some 13) (.mov (.s 34))])
      (.seq (.reg [.op (some 14) (.mov (.k (.c TI (1 : Int))))])
       (.seq (.reg [.op (some 35) (.mov (.s 12)),
           .op (some 36) (.mov (.s 14)),
           .op (some 37) (.call 21 [(.s 35), (.s 36)]),
           .op (some 14) (.mov (.s 37))])
        (.seq (.seq (.reg [.op (some 38) (.mov (.s 14)),
             .op (some 39) (.bin .lss (.s 38) (.k (.c TI (0 : Int))))])
          (.cond (.s 39) (.seq (.reg [.op (some 10) (.mov (.k (.c .bool false)))])
            .ret) .skip))
         (.seq (.seq (.reg [.op (some 40) (.mov (.s 14)),
              .op (some 41) (.mov (.s 13)),
              .op (some 42) (.bin .neq (.s 40) (.s 41))])
           (.cond (.s 42) (.seq (.reg [.op (some 10) (.mov (.k (.c .bool false)))])
             .ret) .skip))
          (.seq (.reg [.op (some 43) (.mov (.s 0)),
              .op (some 44) (.mov (.s 1)),
              .op (some 45) (.mov (.s 2)),
              .op (some 46) (.mov (.s 3)),
              .op (some 47) (.mov (.s 4)),
              .op (some 48) (.call 18 [(.s 43), (.s 44), (.s 45), (.s 46), (.s 47)]),
              .op (some 15) (.mov (.s 48))])
           (.seq (.seq (.reg [.op (some 49) (.mov (.s 15)),
                .op (some 50) (.mov (.s 11)),
                .op (some 51) (.call 19 [(.s 49), (.s 50)]),
                .op (some 52) (.not (.s 51))])
             (.cond (.s 52) (.seq (.reg [.op (some 10) (.mov (.k (.c .bool false)))])
               .ret) .skip))
            (.seq (.reg [.op (some 14) (.mov (.k (.c TI (1 : Int))))])
             (.seq (.reg [.op (some 53) (.mov (.s 12)),
                 .op (some 54) (.mov (.s 14)),
                 .op (some 55) (.call 21 [(.s 53), (.s 54)]),
                 .op (some 14) (.mov (.s 55))])
              (.seq (.seq (.reg [.op (some 56) (.mov (.s 14)),
                   .op (some 57) (.bin .lss (.s 56) (.k (.c TI (0 : Int))))])
                (.cond (.s 57) (.seq (.reg [.op (some 10) (.mov (.k (.c .bool false)))])
                  .ret) .skip))
               (.seq (.seq (.reg [.op (some 58) (.mov (.s 14)),
                    .op (some 59) (.mov (.s 13)),
                    .op (some 60) (.bin .neq (.s 58) (.s 59))])
                 (.cond (.s 60) (.seq (.reg [.op (some 10) (.mov (.k (.c .bool false)))])
                   .ret) .skip))
                (.seq (.reg [.op (some 10) (.mov (.k (.c .bool true)))])
                 .ret)))))))))))))))))
def l_FnExactPlan_rs : List (ARv × Md) := [(.t 10, .one .d)]
theorem l_FnExactPlan_st : compF Try.prog 3 = some (l_FnExactPlan_c.er, l_FnExactPlan_rs.map Prod.fst, 61) := by kernel_rfl
def l_FnExactPlan_Q (K : TRes → Prop) : TPost := TQ 0 0 l_FnExactPlan_rs K
theorem l_FnExactPlan_v0 (K : TRes → Prop) (aDs : Int) (aStages : Int) (aS : Int) (aMicro : Int) (aRedo : Bool) (h :
  (((!(m_eq (α := List TIns) (List.take ((m_plan aDs aStages aS aMicro aRedo).length) (List.drop 0 (m_plan aDs aStages aS aMicro aRedo))) (List.take ((m_plan aDs aStages aS aMicro aRedo).length) (List.drop 0 (m_plan aDs aStages aS aMicro aRedo))))) = true → K (l_FnExactPlan_R false)) ∧ ((!(m_eq (α := List TIns) (List.take ((m_plan aDs aStages aS aMicro aRedo).length) (List.drop 0 (m_plan aDs aStages aS aMicro aRedo))) (List.take ((m_plan aDs aStages aS aMicro aRedo).length) (List.drop 0 (m_plan aDs aStages aS aMicro aRedo))))) = false → ((((m_plan aDs aStages aS aMicro aRedo).length = (m_plan aDs aStages aS aMicro aRedo).length) ∧ (p_markIns (m_plan aDs aStages aS aMicro aRedo) (1 : Int))) ∧ ((p_markIns (List.take ((m_plan aDs aStages aS aMicro aRedo).length) (List.drop 0 ((m_markIns (m_plan aDs aStages aS aMicro aRedo) (1 : Int)).2))) (1 : Int)) ∧ (((decide ((m_heldIns (List.take ((m_plan aDs aStages aS aMicro aRedo).length) (List.drop 0 ((m_markIns (m_plan aDs aStages aS aMicro aRedo) (1 : Int)).2))) (1 : Int)) < (0 : Int))) = true → K (l_FnExactPlan_R false)) ∧ ((decide ((m_heldIns (List.take ((m_plan aDs aStages aS aMicro aRedo).length) (List.drop 0 ((m_markIns (m_plan aDs aStages aS aMicro aRedo) (1 : Int)).2))) (1 : Int)) < (0 : Int))) = false → ((((m_heldIns (List.take ((m_plan aDs aStages aS aMicro aRedo).length) (List.drop 0 ((m_markIns (m_plan aDs aStages aS aMicro aRedo) (1 : Int)).2))) (1 : Int)) != ((m_markIns (m_plan aDs aStages aS aMicro aRedo) (1 : Int)).1)) = true → K (l_FnExactPlan_R false)) ∧ (((m_heldIns (List.take ((m_plan aDs aStages aS aMicro aRedo).length) (List.drop 0 ((m_markIns (m_plan aDs aStages aS aMicro aRedo) (1 : Int)).2))) (1 : Int)) != ((m_markIns (m_plan aDs aStages aS aMicro aRedo) (1 : Int)).1)) = false → (((!(m_eq (α := List TIns) (List.take ((m_plan aDs aStages aS aMicro aRedo).length) (List.drop 0 (m_plan aDs aStages aS aMicro aRedo))) (List.take ((m_plan aDs aStages aS aMicro aRedo).length) (List.drop 0 (m_plan aDs aStages aS aMicro aRedo))))) = true → K (l_FnExactPlan_R false)) ∧ ((!(m_eq (α := List TIns) (List.take ((m_plan aDs aStages aS aMicro aRedo).length) (List.drop 0 (m_plan aDs aStages aS aMicro aRedo))) (List.take ((m_plan aDs aStages aS aMicro aRedo).length) (List.drop 0 (m_plan aDs aStages aS aMicro aRedo))))) = false → ((p_markIns (List.take ((m_plan aDs aStages aS aMicro aRedo).length) (List.drop 0 ((m_markIns (m_plan aDs aStages aS aMicro aRedo) (1 : Int)).2))) (1 : Int)) ∧ (((decide ((m_heldIns (List.take ((m_plan aDs aStages aS aMicro aRedo).length) (List.drop 0 ((m_markIns (m_plan aDs aStages aS aMicro aRedo) (1 : Int)).2))) (1 : Int)) < (0 : Int))) = true → K (l_FnExactPlan_R false)) ∧ ((decide ((m_heldIns (List.take ((m_plan aDs aStages aS aMicro aRedo).length) (List.drop 0 ((m_markIns (m_plan aDs aStages aS aMicro aRedo) (1 : Int)).2))) (1 : Int)) < (0 : Int))) = false → ((((m_heldIns (List.take ((m_plan aDs aStages aS aMicro aRedo).length) (List.drop 0 ((m_markIns (m_plan aDs aStages aS aMicro aRedo) (1 : Int)).2))) (1 : Int)) != ((m_markIns (m_plan aDs aStages aS aMicro aRedo) (1 : Int)).1)) = true → K (l_FnExactPlan_R false)) ∧ (((m_heldIns (List.take ((m_plan aDs aStages aS aMicro aRedo).length) (List.drop 0 ((m_markIns (m_plan aDs aStages aS aMicro aRedo) (1 : Int)).2))) (1 : Int)) != ((m_markIns (m_plan aDs aStages aS aMicro aRedo) (1 : Int)).1)) = false → K (l_FnExactPlan_R true))))))))))))))))) : Hold (tawp l_FnExactPlan_G (0 + 0) l_FnExactPlan_c (TQ 0 0 l_FnExactPlan_rs K) (tstart [(.c TI aDs), (.c TI aStages), (.c TI aS), (.c TI aMicro), (.c .bool aRedo)])) :=
  Hold.of (by kernel_rfl) h
theorem l_FnExactPlan_t (aDs : Int) (aStages : Int) (aS : Int) (aMicro : Int) (aRedo : Bool) (r : TRes) (h : Hold (tawp l_FnExactPlan_G (0 + 0) l_FnExactPlan_c (TQ 0 0 l_FnExactPlan_rs fun r' => r' = r) (tstart [(.c TI aDs), (.c TI aStages), (.c TI aS), (.c TI aMicro), (.c .bool aRedo)]))) : TCon Try.prog 3 [(.c TI aDs), (.c TI aStages), (.c TI aS), (.c TI aMicro), (.c .bool aRedo)] r :=
  tcon_gen (sg := [(.c TI), (.c TI), (.c TI), (.c TI), (.c .bool)]) mixed (TOk.cons s_Plan_ok (TOk.cons i_Plan_ok (TOk.cons l_eqInsS_ok (TOk.cons l_markInsS_ok (TOk.cons l_heldInsS_ok TOk.nil))))) l_FnExactPlan_st (by kernel_rfl) (by kernel_rfl) (by kernel_rfl) (by kernel_rfl) h
theorem l_FnExactPlan_h : l_FnExactPlan_C := by
  intro aDs aStages aS aMicro aRedo
  refine tcon_bd rfl fun hb => l_FnExactPlan_t aDs aStages aS aMicro aRedo _ (l_FnExactPlan_v0 _ aDs aStages aS aMicro aRedo ?_)
  have hl := plan_le aDs aStages aS aMicro aRedo
  generalize m_plan aDs aStages aS aMicro aRedo = l at hl ⊢
  have e1 : List.take l.length (List.drop 0 l) = l := by simp
  have e2 : List.take l.length (List.drop 0 (m_markIns l 1).2) = markGo l 1 := by simp [m_markIns, List.take_of_length_le, markGo_len]
  have e3 : m_heldIns (markGo l 1) 1 = 1 + 2 * l.length := held_mark l 1
  have e4 : (m_markIns l 1).1 = 1 + 2 * l.length := rfl
  have e5 : p_markIns l 1 := ⟨by omega, by omega, by omega⟩
  have e6 : p_markIns (markGo l 1) 1 := ⟨by omega, by omega, by rw [markGo_len]; omega⟩
  have e7 : ¬ (1 + 2 * (l.length : Int) < 0) := by omega
  rw [e1, e2, e3, e4]
  simp [m_eq, e5, e6, e7, mTrue5]

theorem l_FnExactPlan_ok : TRowOk Try.prog l_FnExactPlan_row := rowOk fun x _ => l_FnExactPlan_h x.1 x.2.1 x.2.2.1 x.2.2.2.1 x.2.2.2.2.1

end
end Go.Proofs.Ytephkbajoofeoaa.Am
