/-
  Written by program: the code of functions, what it asks, and that it comes to what the models say.
-/
import Derived.Test.YtephkbajoofeoaaH4
import Derived.Test.YtephkbajoofeoaaPM
namespace Go.Proofs.Ytephkbajoofeoaa.Am
open Go Go.RowKit Go.Proofs.Ytephkbajoofeoaa
set_option linter.unusedVariables false
set_option linter.unusedSimpArgs false
noncomputable section

def l_FnExactPlanOk_R (t : Bool) : TRes := ⟨(.c .bool t), [], [], false, []⟩
def l_FnExactPlanOk_row : TRow := mkRow 4 [(.c (.sl ctIns)), (.c TI), (.c TI), (.c TI), (.c .bool)] fun x => (none, l_FnExactPlanOk_R (mTrue5 x.1 x.2.1 x.2.2.1 x.2.2.2.1 x.2.2.2.2.1))
def l_FnExactPlanOk_C : Prop := ∀ (x0 : List TIns) (x1 : Int) (x2 : Int) (x3 : Int) (x4 : Bool), TCon Try.prog 4 [(.c (.sl ctIns) x0), (.c TI x1), (.c TI x2), (.c TI x3), (.c .bool x4)] (l_FnExactPlanOk_R (mTrue5 x0 x1 x2 x3 x4))

/-! laws.FnExactPlanOk -/
def l_FnExactPlanOk_G : List TRow := [l_szInsS_row, l_toInsS_row, s_PlanOk_row, i_PlanOk_row, l_eqInsS_row]
def l_FnExactPlanOk_c : TCode :=
  (.seq (.reg [.op (some 10) (.mov (.k (.c .bool false)))])
 (.seq (.reg [.op (some 11) (.mov (.k (.c TI (1048576 : Int))))])
  (.seq (.reg [.op (some 15) (.mov (.s 0)),
      .op (some 16) (.mov (.s 11)),
      .op (some 17) (.call 22 [(.s 15), (.s 16)]),
      .op (some 11) (.mov (.s 17))])
   (.seq (.seq (.reg [.op (some 18) (.mov (.s 11)),
        .op (some 19) (.bin .lss (.s 18) (.k (.c TI (0 : Int))))])
     (.cond (.s 19) (.seq (.reg [.op (some 10) (.mov (.k (.c .bool true)))])
       .ret) .skip))
    (.seq (.reg [.op (some 20) (.mov (.s 0)),
        .op (some 21) (.call 24 [(.s 20)]),
        .op (some 22) (.mov (.s 1)),
        .op (some 23) (.mov (.s 2)),
        .op (some 24) (.mov (.s 3)),
        .op (some 25) (.mov (.s 4)),
        .op (some 26) (.call 23 [(.s 21), (.s 22), (.s 23), (.s 24), (.s 25)]),
        .op (some 12) (.mov (.s 26))])
     (.seq (.reg [.op (some 27) (.mov (.s 0)),
         .op (some 28) (.call 24 [(.s 27)]),
         .op (some 13) (.mov (.s 28))])
      (.seq (.reg [.op (some 29) (.mov (.s 13)),
          .op (some 30) (.mov (.s 1)),
          .op (some 31) (.mov (.s 2)),
          .op (some 32) (.mov (.s 3)),
          .op (some 33) (.mov (.s 4)),
          .op (some 34) (.call 25 [(.s 29), (.s 30), (.s 31), (.s 32), (.s 33)]),
          .op (some 14) (.mov (.s 34))])
       (.seq (.seq (.reg [.op (some 35) (.mov (.s 14)),
            .op (some 36) (.mov (.s 12)),
            .op (some 37) (.eqb true (.s 35) (.s 36))])
         (.cond (.s 37) (.seq (.reg [.op (some 10) (.mov (.k (.c .bool false)))])
           .ret) .skip))
        (.seq (.seq (.reg [.op (some 38) (.mov (.s 13)),
             .op (some 39) (.mov (.s 0)),
             .op (some 40) (.call 24 [(.s 39)]),
             .op (some 41) (.call 19 [(.s 38), (.s 40)]),
             .op (some 42) (.not (.s 41))])
          (.cond (.s 42) (.seq (.reg [.op (some 10) (.mov (.k (.c .bool false)))])
            .ret) .skip))
         (.seq (.reg [.op (some 10) (.mov (.k (.c .bool true)))])
          .ret))))))))))
def l_FnExactPlanOk_rs : List (ARv × Md) := [(.t 10, .one .d)]
theorem l_FnExactPlanOk_st : compF Try.prog 4 = some (l_FnExactPlanOk_c.er, l_FnExactPlanOk_rs.map Prod.fst, 43) := by kernel_rfl
def l_FnExactPlanOk_Q (K : TRes → Prop) : TPost := TQ 0 0 l_FnExactPlanOk_rs K
theorem l_FnExactPlanOk_v0 (K : TRes → Prop) (aL : List TIns) (aStages : Int) (aS : Int) (aMicro : Int) (aRedo : Bool) (h :
  ((p_sz (α := List TIns) aL (1048576 : Int)) ∧ (((decide ((m_sz (α := List TIns) aL (1048576 : Int)) < (0 : Int))) = true → K (l_FnExactPlanOk_R true)) ∧ ((decide ((m_sz (α := List TIns) aL (1048576 : Int)) < (0 : Int))) = false → ((p_to (α := List TIns) aL) ∧ ((p_to (α := List TIns) aL) ∧ (((!((m_planOk (id (α := List TIns) aL) aStages aS aMicro aRedo) == (m_planOk (id (α := List TIns) aL) aStages aS aMicro aRedo))) = true → K (l_FnExactPlanOk_R false)) ∧ ((!((m_planOk (id (α := List TIns) aL) aStages aS aMicro aRedo) == (m_planOk (id (α := List TIns) aL) aStages aS aMicro aRedo))) = false → ((p_to (α := List TIns) aL) ∧ (((!(m_eq (α := List TIns) (id (α := List TIns) aL) (id (α := List TIns) aL))) = true → K (l_FnExactPlanOk_R false)) ∧ ((!(m_eq (α := List TIns) (id (α := List TIns) aL) (id (α := List TIns) aL))) = false → K (l_FnExactPlanOk_R true)))))))))))) : Hold (tawp l_FnExactPlanOk_G (0 + 0) l_FnExactPlanOk_c (TQ 0 0 l_FnExactPlanOk_rs K) (tstart [(.c (.sl ctIns) aL), (.c TI aStages), (.c TI aS), (.c TI aMicro), (.c .bool aRedo)])) :=
  Hold.of (by kernel_rfl) h
theorem l_FnExactPlanOk_t (aL : List TIns) (aStages : Int) (aS : Int) (aMicro : Int) (aRedo : Bool) (r : TRes) (h : Hold (tawp l_FnExactPlanOk_G (0 + 0) l_FnExactPlanOk_c (TQ 0 0 l_FnExactPlanOk_rs fun r' => r' = r) (tstart [(.c (.sl ctIns) aL), (.c TI aStages), (.c TI aS), (.c TI aMicro), (.c .bool aRedo)]))) : TCon Try.prog 4 [(.c (.sl ctIns) aL), (.c TI aStages), (.c TI aS), (.c TI aMicro), (.c .bool aRedo)] r :=
  tcon_gen (sg := [(.c (.sl ctIns)), (.c TI), (.c TI), (.c TI), (.c .bool)]) mixed (TOk.cons l_szInsS_ok (TOk.cons l_toInsS_ok (TOk.cons s_PlanOk_ok (TOk.cons i_PlanOk_ok (TOk.cons l_eqInsS_ok TOk.nil))))) l_FnExactPlanOk_st (by kernel_rfl) (by kernel_rfl) (by kernel_rfl) (by kernel_rfl) h
theorem l_FnExactPlanOk_h : l_FnExactPlanOk_C := by
  intro aL aStages aS aMicro aRedo
  refine tcon_bd rfl fun hb => l_FnExactPlanOk_t aL aStages aS aMicro aRedo _ (l_FnExactPlanOk_v0 _ aL aStages aS aMicro aRedo ?_)
  refine ⟨pl_0, fun _ => rfl, fun g_aL => ?_⟩
  have q_aL := law_p (of_decide_eq_false g_aL) (Int.le_refl _)
  simp [m_eq, mTrue, mTrue2, mTrue3, mTrue4, mTrue5, q_aL]

theorem l_FnExactPlanOk_ok : TRowOk Try.prog l_FnExactPlanOk_row := rowOk fun x _ => l_FnExactPlanOk_h x.1 x.2.1 x.2.2.1 x.2.2.2.1 x.2.2.2.2.1

end
end Go.Proofs.Ytephkbajoofeoaa.Am
