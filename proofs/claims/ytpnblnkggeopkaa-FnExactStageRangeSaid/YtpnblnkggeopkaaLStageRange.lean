/-
  Written by program: the code of functions, what it asks, and that it comes to what the models say.
-/
import Derived.Test.YtpnblnkggeopkaaH2
import Derived.Test.YtpnblnkggeopkaaH1
import Derived.Test.YtpnblnkggeopkaaP5
namespace Go.Proofs.Ytpnblnkggeopkaa.Am
open Go Go.RowKit Go.Proofs.Ytpnblnkggeopkaa
set_option linter.unusedVariables false
set_option linter.unusedSimpArgs false
noncomputable section

def l_FnExactStageRange_R (t : Bool) : TRes := ⟨(.c .bool t), [], [], false⟩
def l_FnExactStageRange_row : TRow := mkRow 10 [(.a [(.sl ctOp)]), (.c (.sl [TI])), (.c TI)] fun x => (none, l_FnExactStageRange_R (mTrue3 x.1 x.2.1 x.2.2.1))
def l_FnExactStageRange_C : Prop := ∀ (x0 : List TOp') (x1 : List Int) (x2 : Int), TCon Try.prog 10 [(.a [(.c (.sl ctOp) x0)]), (.c (.sl [TI]) x1), (.c TI x2)] (l_FnExactStageRange_R (mTrue3 x0 x1 x2))

/-! laws.FnExactStageRange -/
def l_FnExactStageRange_G : List TRow := [l_szModel_row, l_toModel_row, l_toIntS_row, s_StageRange_row, i_StageRange_row, l_eqModel_row, l_eqIntS_row]
def l_FnExactStageRange_c : TCode :=
  (.seq (.reg [.op (some 3) (.box 61 (.s 0) 1),
    .op (some 6) (.mov (.k (.c .bool false)))])
 (.seq (.seq (.reg [.op (some 14) (.mov (.s 1)),
      .op (some 15) (.len (.s 14)),
      .op (some 16) (.bin .gtr (.s 15) (.k (.c TI (1048576 : Int))))])
   (.cond (.s 16) (.seq (.reg [.op (some 6) (.mov (.k (.c .bool true)))])
     .ret) .skip))
  (.seq (.reg [.op (some 7) (.mov (.k (.c TI (1048576 : Int))))])
   (.seq (.reg [.op (some 17) (.load (.s 3) 1 true),
       .op (some 18) (.mov (.s 7)),
       .op (some 19) (.call 54 [(.s 17), (.s 18)]),
       .op (some 7) (.mov (.s 19))])
    (.seq (.seq (.reg [.op (some 20) (.mov (.s 7)),
         .op (some 21) (.bin .lss (.s 20) (.k (.c TI (0 : Int))))])
      (.cond (.s 21) (.seq (.reg [.op (some 6) (.mov (.k (.c .bool true)))])
        .ret) .skip))
     (.seq (.reg [.op (some 23) (.load (.s 3) 1 true),
         .op (some 24) (.call 56 [(.s 23)]),
         .op (some 25) (.mov (.s 1)),
         .op (some 26) (.call 57 [(.s 25)]),
         .op (some 27) (.mov (.s 2)),
         .op (some 28) (.call 61 [(.s 24), (.s 26), (.s 27)]),
         .op (some 22) (.mov (.s 28)),
         .op (some 29) (.ext (.s 22) 0),
         .op (some 30) (.ext (.s 22) 1),
         .op (some 8) (.mov (.s 29)),
         .op (some 9) (.mov (.s 30))])
      (.seq (.reg [.op (some 31) (.load (.s 3) 1 true),
          .op (some 32) (.call 56 [(.s 31)]),
          .op (some 10) (.new 66 [(.n ctOp)]),
          .op none (.store (.s 10) (.s 32) 1)])
       (.seq (.reg [.op (some 33) (.mov (.s 1)),
           .op (some 34) (.call 57 [(.s 33)]),
           .op (some 11) (.mov (.s 34))])
        (.seq (.reg [.op (some 36) (.load (.s 10) 1 true),
            .op (some 37) (.mov (.s 11)),
            .op (some 38) (.mov (.s 2)),
            .op (some 39) (.call 62 [(.s 36), (.s 37), (.s 38)]),
            .op (some 35) (.mov (.s 39)),
            .op (some 40) (.ext (.s 35) 0),
            .op (some 41) (.ext (.s 35) 1),
            .op (some 12) (.mov (.s 40)),
            .op (some 13) (.mov (.s 41))])
         (.seq (.seq (.reg [.op (some 42) (.mov (.s 12)),
              .op (some 43) (.mov (.s 8)),
              .op (some 44) (.bin .neq (.s 42) (.s 43)),
              .op (some 45) (.mov (.s 44)),
              .grp 45 false [.op (some 46) (.mov (.s 13)), .op (some 47) (.mov (.s 9)), .op (some 48) (.bin .neq (.s 46) (.s 47))] 49 (.s 48)])
           (.cond (.s 49) (.seq (.reg [.op (some 6) (.mov (.k (.c .bool false)))])
             .ret) .skip))
          (.seq (.seq (.draw [.op (some 50) (.load (.s 10) 1 true),
               .op (some 51) (.load (.s 3) 1 true),
               .op (some 52) (.call 56 [(.s 51)]),
               .op (some 53) (.call 59 [(.s 50), (.s 52)]),
               .op (some 54) (.not (.s 53))] [(0, 2)])
            (.cond (.s 54) (.seq (.reg [.op (some 6) (.mov (.k (.c .bool false)))])
              .ret) .skip))
           (.seq (.seq (.reg [.op (some 55) (.mov (.s 11)),
                .op (some 56) (.mov (.s 1)),
                .op (some 57) (.call 57 [(.s 56)]),
                .op (some 58) (.call 60 [(.s 55), (.s 57)]),
                .op (some 59) (.not (.s 58))])
             (.cond (.s 59) (.seq (.reg [.op (some 6) (.mov (.k (.c .bool false)))])
               .ret) .skip))
            (.seq (.reg [.op (some 6) (.mov (.k (.c .bool true)))])
             .ret)))))))))))))
def l_FnExactStageRange_rs : List (ARv × Md) := [(.t 6, .one .d)]
theorem l_FnExactStageRange_st : compF Try.prog 10 = some (l_FnExactStageRange_c.er, l_FnExactStageRange_rs.map Prod.fst, 60) := by kernel_rfl
def l_FnExactStageRange_Q (K : TRes → Prop) : TPost := TQ 0 l_FnExactStageRange_rs K
theorem l_FnExactStageRange_v0 (K : TRes → Prop) (aM : List TOp') (aCuts : List Int) (aS : Int) (h :
  (((decide ((aCuts.length : Int) > (1048576 : Int))) = true → K (l_FnExactStageRange_R true)) ∧ ((decide ((aCuts.length : Int) > (1048576 : Int))) = false → ((p_sz (α := List TOp') aM (1048576 : Int)) ∧ (((decide ((m_sz (α := List TOp') aM (1048576 : Int)) < (0 : Int))) = true → K (l_FnExactStageRange_R true)) ∧ ((decide ((m_sz (α := List TOp') aM (1048576 : Int)) < (0 : Int))) = false → (((p_to (α := List TOp') aM) ∧ (p_to (α := List Int) aCuts)) ∧ ((p_to (α := List TOp') aM) ∧ ((p_to (α := List Int) aCuts) ∧ ((((((m_stageRange (id (α := List TOp') aM) (id (α := List Int) aCuts) aS).1) != ((m_stageRange (id (α := List TOp') aM) (id (α := List Int) aCuts) aS).1)) || (((m_stageRange (id (α := List TOp') aM) (id (α := List Int) aCuts) aS).2) != ((m_stageRange (id (α := List TOp') aM) (id (α := List Int) aCuts) aS).2))) = true → K (l_FnExactStageRange_R false)) ∧ (((((m_stageRange (id (α := List TOp') aM) (id (α := List Int) aCuts) aS).1) != ((m_stageRange (id (α := List TOp') aM) (id (α := List Int) aCuts) aS).1)) || (((m_stageRange (id (α := List TOp') aM) (id (α := List Int) aCuts) aS).2) != ((m_stageRange (id (α := List TOp') aM) (id (α := List Int) aCuts) aS).2))) = false → ((p_to (α := List TOp') aM) ∧ (((!(m_eq (α := List TOp') (id (α := List TOp') aM) (id (α := List TOp') aM))) = true → K (l_FnExactStageRange_R false)) ∧ ((!(m_eq (α := List TOp') (id (α := List TOp') aM) (id (α := List TOp') aM))) = false → ((p_to (α := List Int) aCuts) ∧ (((!(m_eq (α := List Int) (id (α := List Int) aCuts) (id (α := List Int) aCuts))) = true → K (l_FnExactStageRange_R false)) ∧ ((!(m_eq (α := List Int) (id (α := List Int) aCuts) (id (α := List Int) aCuts))) = false → K (l_FnExactStageRange_R true)))))))))))))))))) : Hold (tawp l_FnExactStageRange_G 0 l_FnExactStageRange_c (TQ 0 l_FnExactStageRange_rs K) (tstart [(.a [(.c (.sl ctOp) aM)]), (.c (.sl [TI]) aCuts), (.c TI aS)])) :=
  Hold.of (by kernel_rfl) h
theorem l_FnExactStageRange_t (aM : List TOp') (aCuts : List Int) (aS : Int) (r : TRes) (h : Hold (tawp l_FnExactStageRange_G 0 l_FnExactStageRange_c (TQ 0 l_FnExactStageRange_rs fun r' => r' = r) (tstart [(.a [(.c (.sl ctOp) aM)]), (.c (.sl [TI]) aCuts), (.c TI aS)]))) : TCon Try.prog 10 [(.a [(.c (.sl ctOp) aM)]), (.c (.sl [TI]) aCuts), (.c TI aS)] r :=
  tcon_gen (sg := [(.a [(.sl ctOp)]), (.c (.sl [TI])), (.c TI)]) mixed (TOk.cons l_szModel_ok (TOk.cons l_toModel_ok (TOk.cons l_toIntS_ok (TOk.cons s_StageRange_ok (TOk.cons i_StageRange_ok (TOk.cons l_eqModel_ok (TOk.cons l_eqIntS_ok TOk.nil))))))) l_FnExactStageRange_st (by kernel_rfl) (by kernel_rfl) (by kernel_rfl) h
theorem l_FnExactStageRange_h : l_FnExactStageRange_C := by
  intro aM aCuts aS
  refine tcon_bd rfl fun hb => l_FnExactStageRange_t aM aCuts aS _ (l_FnExactStageRange_v0 _ aM aCuts aS ?_)
  refine ⟨fun _ => rfl, fun g_aCuts => ?_⟩
  have q_aCuts := law_ints (of_decide_eq_false g_aCuts)
  refine ⟨pl_0, fun _ => rfl, fun g_aM => ?_⟩
  have q_aM := law_p (of_decide_eq_false g_aM) (Int.le_refl _)
  simp [m_eq, mTrue, mTrue2, mTrue3, mTrue4, mTrue5, q_aCuts, q_aM]

theorem l_FnExactStageRange_ok : TRowOk Try.prog l_FnExactStageRange_row := rowOk fun x _ => l_FnExactStageRange_h x.1 x.2.1 x.2.2.1

end
end Go.Proofs.Ytpnblnkggeopkaa.Am
