/-
  Written by program: the code of functions, what it asks, and that it comes to what the models say.
-/
import Derived.Test.YtephkbajoofeoaaD1
import Derived.Test.YtephkbajoofeoaaD3
import Derived.Test.YtephkbajoofeoaaPL
import Derived.Test.YtephkbajoofeoaaPE
import Derived.Test.YtephkbajoofeoaaPM
import Derived.Test.YtephkbajoofeoaaPT
namespace Go.Proofs.Ytephkbajoofeoaa.Am
open Go Go.RowKit Go.Proofs.Ytephkbajoofeoaa
set_option linter.unusedVariables false
set_option linter.unusedSimpArgs false
noncomputable section

def l_FnPlans_R (t : Bool) : TRes := ⟨(.c .bool t), [], [], false, []⟩
def l_FnPlans_row : TRow := mkRow 9 [(.c (.sl [(.int .u8)]))] fun x => (none, l_FnPlans_R (mTrue x.1))
def l_FnPlans_C : Prop := ∀ (x0 : List Int), TCon Try.prog 9 [(.c (.sl [(.int .u8)]) x0)] (l_FnPlans_R (mTrue x0))

/-! laws.FnPlans -/
def l_FnPlans_G : List TRow := [l_big_row, s_DrawPlan_row, i_Plan_row, i_WarmUp_row, s_DrawPlanOk_row, s_PlanOk_row, i_PlanOk_row, i_InFlight_row, s_InFlight_row]
def l_FnPlans_y1 : TCode :=
  (.seq (.reg [.op (some 77) (.mov (.s 3)),
    .op (some 78) (.mov (.s 4)),
    .op (some 79) (.mov (.s 5)),
    .op (some 80) (.mov (.s 6)),
    .op (some 81) (.call 54 [(.s 77), (.s 78), (.s 79), (.s 80)]),
    .op (some 11) (.mov (.s 81))])
 (.seq (.reg [.op (some 83) (.mov (.s 0)),
     .op (some 84) (.call 55 [(.s 83)]),
     .op (some 82) (.mov (.s 84)),
     .op (some 85) (.ext (.s 82) 0),
     .op (some 86) (.ext (.s 82) 1),
     .op (some 87) (.ext (.s 82) 2),
     .op (some 88) (.ext (.s 82) 3),
     .op (some 89) (.ext (.s 82) 4),
     .op (some 12) (.mov (.s 85)),
     .op (some 13) (.mov (.s 86)),
     .op (some 14) (.mov (.s 87)),
     .op (some 15) (.mov (.s 88)),
     .op (some 16) (.mov (.s 89))])
  (.seq (.reg [.op (some 90) (.mov (.s 8)),
      .op (some 91) (.mov (.s 4)),
      .op (some 92) (.mov (.s 5)),
      .op (some 93) (.mov (.s 6)),
      .op (some 94) (.mov (.s 7)),
      .op (some 95) (.call 23 [(.s 90), (.s 91), (.s 92), (.s 93), (.s 94)]),
      .op (some 96) (.mov (.s 95)),
      .grp 96 true [.op (some 97) (.mov (.s 8)), .op (some 98) (.mov (.s 4)), .op (some 99) (.mov (.s 5)), .op (some 100) (.mov (.s 6)), .op (some 101) (.mov (.s 7)), .op (some 102) (.call 25 [(.s 97), (.s 98), (.s 99), (.s 100), (.s 101)])] 103 (.s 102),
      .op (some 104) (.mov (.s 103)),
      .grp 104 true [.op (some 105) (.mov (.s 8)), .op (some 106) (.call 56 [(.s 105)]), .op (some 107) (.mov (.s 10)), .op (some 108) (.bin .eql (.s 106) (.s 107))] 109 (.s 108),
      .op (some 110) (.mov (.s 109)),
      .grp 110 true [.op (some 111) (.mov (.s 8)), .op (some 112) (.call 57 [(.s 111)]), .op (some 113) (.mov (.s 10)), .op (some 114) (.bin .eql (.s 112) (.s 113))] 115 (.s 114),
      .op (some 116) (.mov (.s 115)),
      .grp 116 true [.op (some 117) (.mov (.s 11)), .op (some 118) (.bin .geq (.s 117) (.k (.c TI (0 : Int))))] 119 (.s 118),
      .op (some 120) (.mov (.s 119)),
      .grp 120 true [.op (some 121) (.mov (.s 11)), .op (some 122) (.mov (.s 10)), .op (some 123) (.bin .leq (.s 121) (.s 122))] 124 (.s 123),
      .op (some 125) (.mov (.s 124)),
      .grp 125 true [.op (some 126) (.mov (.s 12)), .op (some 127) (.mov (.s 13)), .op (some 128) (.mov (.s 14)), .op (some 129) (.mov (.s 15)), .op (some 130) (.mov (.s 16)), .op (some 131) (.call 25 [(.s 126), (.s 127), (.s 128), (.s 129), (.s 130)]), .op (some 132) (.mov (.s 12)), .op (some 133) (.mov (.s 13)), .op (some 134) (.mov (.s 14)), .op (some 135) (.mov (.s 15)), .op (some 136) (.mov (.s 16)), .op (some 137) (.call 23 [(.s 132), (.s 133), (.s 134), (.s 135), (.s 136)]), .op (some 138) (.eqb false (.s 131) (.s 137))] 139 (.s 138),
      .op (some 2) (.mov (.s 139))])
   .ret)))
def l_FnPlans_L1 : List (Nat × Md) := [(0, .one .d), (3, .one .d), (4, .one .d), (5, .one .d), (6, .one .d), (7, .one .d), (8, .one .d), (10, .one .d)]
def l_FnPlans_y1w : TCode := .wk l_FnPlans_L1 l_FnPlans_y1
def l_FnPlans_c : TCode :=
  (.seq (.reg [.op (some 2) (.mov (.k (.c .bool false)))])
 (.seq (.seq (.reg [.op (some 17) (.mov (.s 0)),
      .op (some 18) (.call 26 [(.s 17)])])
   (.cond (.s 18) (.seq (.reg [.op (some 2) (.mov (.k (.c .bool true)))])
     .ret) .skip))
  (.seq (.reg [.op (some 20) (.mov (.s 0)),
      .op (some 21) (.call 53 [(.s 20)]),
      .op (some 19) (.mov (.s 21)),
      .op (some 22) (.ext (.s 19) 0),
      .op (some 23) (.ext (.s 19) 1),
      .op (some 24) (.ext (.s 19) 2),
      .op (some 25) (.ext (.s 19) 3),
      .op (some 26) (.ext (.s 19) 4),
      .op (some 3) (.mov (.s 22)),
      .op (some 4) (.mov (.s 23)),
      .op (some 5) (.mov (.s 24)),
      .op (some 6) (.mov (.s 25)),
      .op (some 7) (.mov (.s 26))])
   (.seq (.reg [.op (some 27) (.mov (.s 3)),
       .op (some 28) (.mov (.s 4)),
       .op (some 29) (.mov (.s 5)),
       .op (some 30) (.mov (.s 6)),
       .op (some 31) (.mov (.s 7)),
       .op (some 32) (.call 18 [(.s 27), (.s 28), (.s 29), (.s 30), (.s 31)]),
       .op (some 8) (.mov (.s 32))])
    (.seq (.reg [.op (some 33) (.mov (.s 3)),
        .op (some 34) (.bin .geq (.s 33) (.k (.c TI (1 : Int)))),
        .op (some 35) (.mov (.s 34)),
        .grp 35 true [.op (some 36) (.mov (.s 3)), .op (some 37) (.bin .leq (.s 36) (.k (.c TI (2 : Int))))] 38 (.s 37),
        .op (some 39) (.mov (.s 38)),
        .grp 39 true [.op (some 40) (.mov (.s 4)), .op (some 41) (.bin .geq (.s 40) (.k (.c TI (1 : Int))))] 42 (.s 41),
        .op (some 43) (.mov (.s 42)),
        .grp 43 true [.op (some 44) (.mov (.s 4)), .op (some 45) (.bin .leq (.s 44) (.k (.c TI (4 : Int))))] 46 (.s 45),
        .op (some 47) (.mov (.s 46)),
        .grp 47 true [.op (some 48) (.mov (.s 5)), .op (some 49) (.bin .geq (.s 48) (.k (.c TI (0 : Int))))] 50 (.s 49),
        .op (some 51) (.mov (.s 50)),
        .grp 51 true [.op (some 52) (.mov (.s 5)), .op (some 53) (.mov (.s 4)), .op (some 54) (.bin .lss (.s 52) (.s 53))] 55 (.s 54),
        .op (some 56) (.mov (.s 55)),
        .grp 56 true [.op (some 57) (.mov (.s 6)), .op (some 58) (.bin .geq (.s 57) (.k (.c TI (1 : Int))))] 59 (.s 58),
        .op (some 60) (.mov (.s 59)),
        .grp 60 true [.op (some 61) (.mov (.s 6)), .op (some 62) (.bin .leq (.s 61) (.k (.c TI (5 : Int))))] 63 (.s 62),
        .op (some 9) (.mov (.s 63))])
     (.seq (.seq (.reg [.op (some 64) (.mov (.s 9)),
          .op (some 65) (.not (.s 64))])
       (.cond (.s 65) (.seq (.reg [.op (some 66) (.mov (.s 8)),
            .op (some 67) (.len (.s 66)),
            .op (some 68) (.bin .eql (.s 67) (.k (.c TI (0 : Int)))),
            .op (some 2) (.mov (.s 68))])
         .ret) .skip))
      (.seq (.reg [.op (some 69) (.mov (.s 6)),
          .op (some 10) (.mov (.s 69))])
       (.seq (.seq (.reg [.op (some 70) (.mov (.s 3)),
            .op (some 71) (.bin .eql (.s 70) (.k (.c TI (2 : Int))))])
         (.cond (.s 71) (.reg [.op (some 72) (.mov (.s 6)),
             .op (some 73) (.mov (.s 4)),
             .op (some 74) (.mov (.s 5)),
             .op (some 75) (.bin .sub (.s 73) (.s 74)),
             .op (some 76) (.mm false (.s 72) (.s 75)),
             .op (some 10) (.mov (.s 76))]) .skip))
        l_FnPlans_y1w))))))))
def l_FnPlans_rs : List (ARv × Md) := [(.t 2, .one .d)]
theorem l_FnPlans_st : compF Try.prog 9 = some (l_FnPlans_c.er, l_FnPlans_rs.map Prod.fst, 140) := by kernel_rfl
def l_FnPlans_Q (K : TRes → Prop) : TPost := TQ 0 0 l_FnPlans_rs K
def l_FnPlans_A1 (K : TRes → Prop) (code : List Int) (most : Int) : Prop := tawp l_FnPlans_G 0 l_FnPlans_y1 (l_FnPlans_Q K) ⟨[(0, (.c (.sl [(.int .u8)]) code)), (3, (.c TI ((e_drawPlan code).1))), (4, (.c TI ((e_drawPlan code).2.1))), (5, (.c TI ((e_drawPlan code).2.2.1))), (6, (.c TI ((e_drawPlan code).2.2.2.1))), (7, (.c .bool ((e_drawPlan code).2.2.2.2))), (8, (.c (.sl ctIns) (List.take ((m_plan ((e_drawPlan code).1) ((e_drawPlan code).2.1) ((e_drawPlan code).2.2.1) ((e_drawPlan code).2.2.2.1) ((e_drawPlan code).2.2.2.2)).length) (List.drop 0 (m_plan ((e_drawPlan code).1) ((e_drawPlan code).2.1) ((e_drawPlan code).2.2.1) ((e_drawPlan code).2.2.2.1) ((e_drawPlan code).2.2.2.2)))))), (10, (.c TI most))], [], 0⟩
theorem l_FnPlans_v1 (K : TRes → Prop) (code : List Int) (most : Int) (h :
  ((p_new code) ∧ K (l_FnPlans_R (((((((m_planOk (List.take ((m_plan ((e_drawPlan code).1) ((e_drawPlan code).2.1) ((e_drawPlan code).2.2.1) ((e_drawPlan code).2.2.2.1) ((e_drawPlan code).2.2.2.2)).length) (List.drop 0 (m_plan ((e_drawPlan code).1) ((e_drawPlan code).2.1) ((e_drawPlan code).2.2.1) ((e_drawPlan code).2.2.2.1) ((e_drawPlan code).2.2.2.2)))) ((e_drawPlan code).2.1) ((e_drawPlan code).2.2.1) ((e_drawPlan code).2.2.2.1) ((e_drawPlan code).2.2.2.2)) && (m_planOk (List.take ((m_plan ((e_drawPlan code).1) ((e_drawPlan code).2.1) ((e_drawPlan code).2.2.1) ((e_drawPlan code).2.2.2.1) ((e_drawPlan code).2.2.2.2)).length) (List.drop 0 (m_plan ((e_drawPlan code).1) ((e_drawPlan code).2.1) ((e_drawPlan code).2.2.1) ((e_drawPlan code).2.2.2.1) ((e_drawPlan code).2.2.2.2)))) ((e_drawPlan code).2.1) ((e_drawPlan code).2.2.1) ((e_drawPlan code).2.2.2.1) ((e_drawPlan code).2.2.2.2))) && ((m_inFlight (List.take ((m_plan ((e_drawPlan code).1) ((e_drawPlan code).2.1) ((e_drawPlan code).2.2.1) ((e_drawPlan code).2.2.2.1) ((e_drawPlan code).2.2.2.2)).length) (List.drop 0 (m_plan ((e_drawPlan code).1) ((e_drawPlan code).2.1) ((e_drawPlan code).2.2.1) ((e_drawPlan code).2.2.2.1) ((e_drawPlan code).2.2.2.2))))) == most)) && ((m_inFlight (List.take ((m_plan ((e_drawPlan code).1) ((e_drawPlan code).2.1) ((e_drawPlan code).2.2.1) ((e_drawPlan code).2.2.2.1) ((e_drawPlan code).2.2.2.2)).length) (List.drop 0 (m_plan ((e_drawPlan code).1) ((e_drawPlan code).2.1) ((e_drawPlan code).2.2.1) ((e_drawPlan code).2.2.2.1) ((e_drawPlan code).2.2.2.2))))) == most)) && (decide ((m_warmUp ((e_drawPlan code).1) ((e_drawPlan code).2.1) ((e_drawPlan code).2.2.1) ((e_drawPlan code).2.2.2.1)) ≥ (0 : Int)))) && (decide ((m_warmUp ((e_drawPlan code).1) ((e_drawPlan code).2.1) ((e_drawPlan code).2.2.1) ((e_drawPlan code).2.2.2.1)) ≤ most))) && (((m_planOk ((e_drawPlanOk code).1) ((e_drawPlanOk code).2.1) ((e_drawPlanOk code).2.2.1) ((e_drawPlanOk code).2.2.2.1) ((e_drawPlanOk code).2.2.2.2)) == (m_planOk ((e_drawPlanOk code).1) ((e_drawPlanOk code).2.1) ((e_drawPlanOk code).2.2.1) ((e_drawPlanOk code).2.2.2.1) ((e_drawPlanOk code).2.2.2.2)))))))) : Hold (l_FnPlans_A1 K code most) :=
  Hold.of (by kernel_rfl) h
theorem l_FnPlans_v0 (K : TRes → Prop) (code : List Int) (h :
  (((m_big code) = true → K (l_FnPlans_R true)) ∧ ((m_big code) = false → ((p_new code) ∧ (((!((((((((decide (((e_drawPlan code).1) ≥ (1 : Int))) && (decide (((e_drawPlan code).1) ≤ (2 : Int)))) && (decide (((e_drawPlan code).2.1) ≥ (1 : Int)))) && (decide (((e_drawPlan code).2.1) ≤ (4 : Int)))) && (decide (((e_drawPlan code).2.2.1) ≥ (0 : Int)))) && (decide (((e_drawPlan code).2.2.1) < ((e_drawPlan code).2.1)))) && (decide (((e_drawPlan code).2.2.2.1) ≥ (1 : Int)))) && (decide (((e_drawPlan code).2.2.2.1) ≤ (5 : Int))))) = true → K (l_FnPlans_R ((((m_plan ((e_drawPlan code).1) ((e_drawPlan code).2.1) ((e_drawPlan code).2.2.1) ((e_drawPlan code).2.2.2.1) ((e_drawPlan code).2.2.2.2)).length : Nat) : Int) == (0 : Int)))) ∧ ((!((((((((decide (((e_drawPlan code).1) ≥ (1 : Int))) && (decide (((e_drawPlan code).1) ≤ (2 : Int)))) && (decide (((e_drawPlan code).2.1) ≥ (1 : Int)))) && (decide (((e_drawPlan code).2.1) ≤ (4 : Int)))) && (decide (((e_drawPlan code).2.2.1) ≥ (0 : Int)))) && (decide (((e_drawPlan code).2.2.1) < ((e_drawPlan code).2.1)))) && (decide (((e_drawPlan code).2.2.2.1) ≥ (1 : Int)))) && (decide (((e_drawPlan code).2.2.2.1) ≤ (5 : Int))))) = false → (((((e_drawPlan code).1) == (2 : Int)) = true → (l_FnPlans_A1 K code (if (w64 (((e_drawPlan code).2.1) - ((e_drawPlan code).2.2.1))) < ((e_drawPlan code).2.2.2.1) then (w64 (((e_drawPlan code).2.1) - ((e_drawPlan code).2.2.1))) else ((e_drawPlan code).2.2.2.1)))) ∧ ((((e_drawPlan code).1) == (2 : Int)) = false → (l_FnPlans_A1 K code ((e_drawPlan code).2.2.2.1)))))))))) : Hold (tawp l_FnPlans_G (0 + 0) l_FnPlans_c (TQ 0 0 l_FnPlans_rs K) (tstart [(.c (.sl [(.int .u8)]) code)])) :=
  Hold.of (by kernel_rfl) h
theorem l_FnPlans_t (code : List Int) (r : TRes) (h : Hold (tawp l_FnPlans_G (0 + 0) l_FnPlans_c (TQ 0 0 l_FnPlans_rs fun r' => r' = r) (tstart [(.c (.sl [(.int .u8)]) code)]))) : TCon Try.prog 9 [(.c (.sl [(.int .u8)]) code)] r :=
  tcon_gen (sg := [(.c (.sl [(.int .u8)]))]) mixed (TOk.cons l_big_ok (TOk.cons s_DrawPlan_ok (TOk.cons i_Plan_ok (TOk.cons i_WarmUp_ok (TOk.cons s_DrawPlanOk_ok (TOk.cons s_PlanOk_ok (TOk.cons i_PlanOk_ok (TOk.cons i_InFlight_ok (TOk.cons s_InFlight_ok TOk.nil))))))))) l_FnPlans_st (by kernel_rfl) (by kernel_rfl) (by kernel_rfl) (by kernel_rfl) h
theorem l_FnPlans_h : l_FnPlans_C := by
  intro code
  refine tcon_bd rfl fun hb => l_FnPlans_t code _ (l_FnPlans_v0 _ code ?_)
  have hl_code : code.length ≤ 9223372036854775807 := hb.1.1
  refine ⟨fun _ => R_eq rfl, fun hb => ?_⟩
  have hn := not_big hb
  refine ⟨hn, ?_⟩
  obtain ⟨⟨ds, n, s, m, redo⟩, hr⟩ : ∃ r, e_drawPlan code = r := ⟨_, rfl⟩
  rw [hr]
  simp only
  refine ⟨fun h => R_eq ?_, fun h => ?_⟩
  · have h1 : ¬ (m_in ds 1 2 && m_planned n s m) = true := by
      intro h2
      simp only [Bool.and_eq_true, planned_iff, m_in_iff] at h2
      simp at h
      omega
    rw [plan_nil h1]; rfl
  · simp at h
    have key : ∀ most, most = (if ds = 2 then (if n - s < m then n - s else m) else m) → l_FnPlans_A1 (fun r' => r' = l_FnPlans_R (mTrue code)) code most := by
      intro most hm
      refine (l_FnPlans_v1 (fun r' => r' = l_FnPlans_R (mTrue code)) code most ?_).h
      rw [hr]
      refine ⟨hn, R_eq ?_⟩
      have hL := plan_law redo (ds := ds) (n := n) (s := s) (M := m) (by omega) (by omega) (by omega) (by omega) (by omega) (by omega) (by omega)
      simp only [planLaw, Bool.and_eq_true, decide_eq_true_eq] at hL
      obtain ⟨⟨⟨h1, h2⟩, h3⟩, h4⟩ := hL
      rw [← hm] at h2 h4
      simp [h1, h2, h3, h4, mTrue]
    rw [w64_ok (x := n - s) (by omega) (by omega)]
    refine ⟨fun h2 => key _ ?_, fun h2 => key _ ?_⟩
    · rw [if_pos (c := ds = 2) (by simpa using h2)]
    · rw [if_neg (c := ds = 2) (by simpa using h2)]

theorem l_FnPlans_ok : TRowOk Try.prog l_FnPlans_row := rowOk fun x _ => l_FnPlans_h x.1

end
end Go.Proofs.Ytephkbajoofeoaa.Am
