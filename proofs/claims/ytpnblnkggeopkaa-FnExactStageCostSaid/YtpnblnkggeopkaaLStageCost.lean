/-
  Written by program: the code of functions, what it asks, and that it comes to what the models say.
-/
import Derived.Test.YtpnblnkggeopkaaH2
import Derived.Test.YtpnblnkggeopkaaH1
import Derived.Test.YtpnblnkggeopkaaP5
namespace Go.Proofs.Ytpnblnkggeopkaa.Am
open Go Go.RowKit Go.Proofs.Ytpnblnkggeopkaa
set_option linter.unusedVariables false
set_option linter.unusedSimpArgs false
noncomputable section

def l_FnExactStageCost_R (t : Bool) : TRes := ⟨(.c .bool t), [], [], false⟩
def l_FnExactStageCost_row : TRow := mkRow 11 [(.a [(.sl ctOp)]), (.c (.sl [TI])), (.c TI)] fun x => (none, l_FnExactStageCost_R (mTrue3 x.1 x.2.1 x.2.2.1))
def l_FnExactStageCost_C : Prop := ∀ (x0 : List TOp') (x1 : List Int) (x2 : Int), TCon Try.prog 11 [(.a [(.c (.sl ctOp) x0)]), (.c (.sl [TI]) x1), (.c TI x2)] (l_FnExactStageCost_R (mTrue3 x0 x1 x2))

/-! laws.FnExactStageCost -/
def l_FnExactStageCost_G : List TRow := [l_szModel_row, l_toModel_row, l_toIntS_row, s_StageCost_row, i_StageCost_row, l_eqModel_row, l_eqIntS_row]
def l_FnExactStageCost_c : TCode :=
  (.seq (.reg [.op (some 3) (.box 61 (.s 0) 1),
    .op (some 6) (.mov (.k (.c .bool false)))])
 (.seq (.seq (.reg [.op (some 12) (.mov (.s 1)),
      .op (some 13) (.len (.s 12)),
      .op (some 14) (.bin .gtr (.s 13) (.k (.c TI (1048576 : Int))))])
   (.cond (.s 14) (.seq (.reg [.op (some 6) (.mov (.k (.c .bool true)))])
     .ret) .skip))
  (.seq (.reg [.op (some 7) (.mov (.k (.c TI (1048576 : Int))))])
   (.seq (.reg [.op (some 15) (.load (.s 3) 1 true),
       .op (some 16) (.mov (.s 7)),
       .op (some 17) (.call 54 [(.s 15), (.s 16)]),
       .op (some 7) (.mov (.s 17))])
    (.seq (.seq (.reg [.op (some 18) (.mov (.s 7)),
         .op (some 19) (.bin .lss (.s 18) (.k (.c TI (0 : Int))))])
      (.cond (.s 19) (.seq (.reg [.op (some 6) (.mov (.k (.c .bool true)))])
        .ret) .skip))
     (.seq (.reg [.op (some 20) (.load (.s 3) 1 true),
         .op (some 21) (.call 56 [(.s 20)]),
         .op (some 22) (.mov (.s 1)),
         .op (some 23) (.call 57 [(.s 22)]),
         .op (some 24) (.mov (.s 2)),
         .op (some 25) (.call 63 [(.s 21), (.s 23), (.s 24)]),
         .op (some 8) (.mov (.s 25))])
      (.seq (.reg [.op (some 26) (.load (.s 3) 1 true),
          .op (some 27) (.call 56 [(.s 26)]),
          .op (some 9) (.new 66 [(.n ctOp)]),
          .op none (.store (.s 9) (.s 27) 1)])
       (.seq (.reg [.op (some 28) (.mov (.s 1)),
           .op (some 29) (.call 57 [(.s 28)]),
           .op (some 10) (.mov (.s 29))])
        (.seq (.reg [.op (some 30) (.load (.s 9) 1 true),
            .op (some 31) (.mov (.s 10)),
            .op (some 32) (.mov (.s 2)),
            .op (some 33) (.call 64 [(.s 30), (.s 31), (.s 32)]),
            .op (some 11) (.mov (.s 33))])
         (.seq (.seq (.reg [.op (some 34) (.mov (.s 11)),
              .op (some 35) (.mov (.s 8)),
              .op (some 36) (.bin .neq (.s 34) (.s 35))])
           (.cond (.s 36) (.seq (.reg [.op (some 6) (.mov (.k (.c .bool false)))])
             .ret) .skip))
          (.seq (.seq (.draw [.op (some 37) (.load (.s 9) 1 true),
               .op (some 38) (.load (.s 3) 1 true),
               .op (some 39) (.call 56 [(.s 38)]),
               .op (some 40) (.call 59 [(.s 37), (.s 39)]),
               .op (some 41) (.not (.s 40))] [(0, 2)])
            (.cond (.s 41) (.seq (.reg [.op (some 6) (.mov (.k (.c .bool false)))])
              .ret) .skip))
           (.seq (.seq (.reg [.op (some 42) (.mov (.s 10)),
                .op (some 43) (.mov (.s 1)),
                .op (some 44) (.call 57 [(.s 43)]),
                .op (some 45) (.call 60 [(.s 42), (.s 44)]),
                .op (some 46) (.not (.s 45))])
             (.cond (.s 46) (.seq (.reg [.op (some 6) (.mov (.k (.c .bool false)))])
               .ret) .skip))
            (.seq (.reg [.op (some 6) (.mov (.k (.c .bool true)))])
             .ret)))))))))))))
def l_FnExactStageCost_rs : List (ARv × Md) := [(.t 6, .one .d)]
theorem l_FnExactStageCost_st : compF Try.prog 11 = some (l_FnExactStageCost_c.er, l_FnExactStageCost_rs.map Prod.fst, 47) := by kernel_rfl
def l_FnExactStageCost_Q (K : TRes → Prop) : TPost := TQ 0 l_FnExactStageCost_rs K
theorem l_FnExactStageCost_v0 (K : TRes → Prop) (aM : List TOp') (aCuts : List Int) (aS : Int) (h :
  (((decide ((aCuts.length : Int) > (1048576 : Int))) = true → K (l_FnExactStageCost_R true)) ∧ ((decide ((aCuts.length : Int) > (1048576 : Int))) = false → ((p_sz (α := List TOp') aM (1048576 : Int)) ∧ (((decide ((m_sz (α := List TOp') aM (1048576 : Int)) < (0 : Int))) = true → K (l_FnExactStageCost_R true)) ∧ ((decide ((m_sz (α := List TOp') aM (1048576 : Int)) < (0 : Int))) = false → (((p_to (α := List TOp') aM) ∧ (p_to (α := List Int) aCuts)) ∧ ((p_to (α := List TOp') aM) ∧ ((p_to (α := List Int) aCuts) ∧ ((((m_stageCost (id (α := List TOp') aM) (id (α := List Int) aCuts) aS) != (m_stageCost (id (α := List TOp') aM) (id (α := List Int) aCuts) aS)) = true → K (l_FnExactStageCost_R false)) ∧ (((m_stageCost (id (α := List TOp') aM) (id (α := List Int) aCuts) aS) != (m_stageCost (id (α := List TOp') aM) (id (α := List Int) aCuts) aS)) = false → ((p_to (α := List TOp') aM) ∧ (((!(m_eq (α := List TOp') (id (α := List TOp') aM) (id (α := List TOp') aM))) = true → K (l_FnExactStageCost_R false)) ∧ ((!(m_eq (α := List TOp') (id (α := List TOp') aM) (id (α := List TOp') aM))) = false → ((p_to (α := List Int) aCuts) ∧ (((!(m_eq (α := List Int) (id (α := List Int) aCuts) (id (α := List Int) aCuts))) = true → K (l_FnExactStageCost_R false)) ∧ ((!(m_eq (α := List Int) (id (α := List Int) aCuts) (id (α := List Int) aCuts))) = false → K (l_FnExactStageCost_R true)))))))))))))))))) : Hold (tawp l_FnExactStageCost_G 0 l_FnExactStageCost_c (TQ 0 l_FnExactStageCost_rs K) (tstart [(.a [(.c (.sl ctOp) aM)]), (.c (.sl [TI]) aCuts), (.c TI aS)])) :=
  Hold.of (by kernel_rfl) h
theorem l_FnExactStageCost_t (aM : List TOp') (aCuts : List Int) (aS : Int) (r : TRes) (h : Hold (tawp l_FnExactStageCost_G 0 l_FnExactStageCost_c (TQ 0 l_FnExactStageCost_rs fun r' => r' = r) (tstart [(.a [(.c (.sl ctOp) aM)]), (.c (.sl [TI]) aCuts), (.c TI aS)]))) : TCon Try.prog 11 [(.a [(.c (.sl ctOp) aM)]), (.c (.sl [TI]) aCuts), (.c TI aS)] r :=
  tcon_gen (sg := [(.a [(.sl ctOp)]), (.c (.sl [TI])), (.c TI)]) mixed (TOk.cons l_szModel_ok (TOk.cons l_toModel_ok (TOk.cons l_toIntS_ok (TOk.cons s_StageCost_ok (TOk.cons i_StageCost_ok (TOk.cons l_eqModel_ok (TOk.cons l_eqIntS_ok TOk.nil))))))) l_FnExactStageCost_st (by kernel_rfl) (by kernel_rfl) (by kernel_rfl) h
theorem l_FnExactStageCost_h : l_FnExactStageCost_C := by
  intro aM aCuts aS
  refine tcon_bd rfl fun hb => l_FnExactStageCost_t aM aCuts aS _ (l_FnExactStageCost_v0 _ aM aCuts aS ?_)
  refine ⟨fun _ => rfl, fun g_aCuts => ?_⟩
  have q_aCuts := law_ints (of_decide_eq_false g_aCuts)
  refine ⟨pl_0, fun _ => rfl, fun g_aM => ?_⟩
  have q_aM := law_p (of_decide_eq_false g_aM) (Int.le_refl _)
  simp [m_eq, mTrue, mTrue2, mTrue3, mTrue4, mTrue5, q_aCuts, q_aM]

theorem l_FnExactStageCost_ok : TRowOk Try.prog l_FnExactStageCost_row := rowOk fun x _ => l_FnExactStageCost_h x.1 x.2.1 x.2.2.1

end
end Go.Proofs.Ytpnblnkggeopkaa.Am
