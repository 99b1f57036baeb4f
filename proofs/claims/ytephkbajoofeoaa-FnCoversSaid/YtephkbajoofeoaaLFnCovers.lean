/-
  Written by program: the code of functions, what it asks, and that it comes to what the models say.
-/
import Derived.Test.YtephkbajoofeoaaD1
import Derived.Test.YtephkbajoofeoaaD4
import Derived.Test.YtephkbajoofeoaaP5
import Derived.Test.YtephkbajoofeoaaP4
import Derived.Test.YtephkbajoofeoaaKB
namespace Go.Proofs.Ytephkbajoofeoaa.Am
open Go Go.RowKit Go.Proofs.Ytephkbajoofeoaa
set_option linter.unusedVariables false
set_option linter.unusedSimpArgs false
noncomputable section

def l_FnCovers_R (t : Bool) : TRes := ⟨(.c .bool t), [], [], false, []⟩
def l_FnCovers_row : TRow := mkRow 8 [(.c (.sl [(.int .u8)]))] fun x => (none, l_FnCovers_R (mTrue x.1))
def l_FnCovers_C : Prop := ∀ (x0 : List Int), TCon Try.prog 8 [(.c (.sl [(.int .u8)]) x0)] (l_FnCovers_R (mTrue x0))

/-! laws.FnCovers -/
def l_FnCovers_G : List TRow := [l_big_row, s_DrawCutsOk_row, i_CutsOk_row, s_CutsOk_row, i_StageRange_row, i_MaxCost_row, i_StageCost_row, i_OpCost_row]
def l_FnCovers_b2 : TCode :=
  (.seq (.seq (.reg [.op (some 50) (.mov (.s 9)),
     .op (some 51) (.mov (.s 4)),
     .op (some 52) (.len (.s 51)),
     .op (some 53) (.bin .leq (.s 50) (.s 52))])
  (.cond (.s 53) .skip (.exit 0)))
 (.seq (.block 1 (.seq (.reg [.op (some 57) (.load (.s 3) 1 true),
       .op (some 58) (.mov (.s 4)),
       .op (some 59) (.mov (.s 9)),
       .op (some 60) (.call 49 [(.s 57), (.s 58), (.s 59)]),
       .op (some 56) (.mov (.s 60)),
       .op (some 61) (.ext (.s 56) 0),
       .op (some 62) (.ext (.s 56) 1),
       .op (some 10) (.mov (.s 61)),
       .op (some 11) (.mov (.s 62))])
    (.seq (.seq (.draw [.op (some 63) (.mov (.s 10)),
         .op (some 64) (.mov (.s 7)),
         .op (some 65) (.bin .neq (.s 63) (.s 64)),
         .op (some 66) (.mov (.s 65)),
         .grp 66 false [.op (some 67) (.mov (.s 11)), .op (some 68) (.mov (.s 10)), .op (some 69) (.bin .leq (.s 67) (.s 68))] 70 (.s 69),
         .op (some 71) (.mov (.s 70)),
         .grp 71 false [.op (some 72) (.load (.s 3) 1 true), .op (some 73) (.mov (.s 4)), .op (some 74) (.mov (.s 9)), .op (some 75) (.call 51 [(.s 72), (.s 73), (.s 74)]), .op (some 76) (.load (.s 3) 1 true), .op (some 77) (.mov (.s 4)), .op (some 78) (.call 50 [(.s 76), (.s 77)]), .op (some 79) (.bin .gtr (.s 75) (.s 78))] 80 (.s 79)] [(12, 13)])
      (.cond (.s 80) (.seq (.reg [.op (some 2) (.mov (.k (.c .bool false)))])
        .ret) .skip))
     (.seq (.reg [.op (some 81) (.mov (.s 11)),
         .op (some 7) (.mov (.s 81))])
      (.reg [.op (some 82) (.mov (.s 8)),
         .op (some 83) (.load (.s 3) 1 true),
         .op (some 84) (.mov (.s 4)),
         .op (some 85) (.mov (.s 9)),
         .op (some 86) (.call 51 [(.s 83), (.s 84), (.s 85)]),
         .op (some 87) (.bin .add (.s 82) (.s 86)),
         .op (some 8) (.mov (.s 87))])))))
  (.reg [.op (some 54) (.mov (.s 9)),
     .op (some 55) (.bin .add (.s 54) (.k (.c TI (1 : Int)))),
     .op (some 9) (.mov (.s 55))])))
def l_FnCovers_L2 : List (Nat × Md) := [(3, .b [.d]), (4, .one .d), (7, .one .d), (8, .one .d), (9, .one .d)]
def l_FnCovers_b4 : TCode :=
  (.seq (.seq (.reg [.op (some 88) (.mov (.s 13)),
     .op (some 89) (.fad (.s 3) 0),
     .op (some 90) (.load (.s 89) 1 false),
     .op (some 91) (.len (.s 90)),
     .op (some 92) (.bin .lss (.s 88) (.s 91))])
  (.cond (.s 92) .skip (.exit 2)))
 (.seq (.block 3 (.reg [.op (some 95) (.mov (.s 12)),
      .op (some 96) (.fad (.s 3) 0),
      .op (some 97) (.load (.s 96) 1 false),
      .op (some 98) (.mov (.s 13)),
      .op (some 99) (.iad (.s 97) (.s 98) ctOp),
      .op (some 100) (.load (.s 99) 4 true),
      .op (some 101) (.call 52 [(.s 100)]),
      .op (some 102) (.bin .add (.s 95) (.s 101)),
      .op (some 12) (.mov (.s 102))]))
  (.reg [.op (some 93) (.mov (.s 13)),
     .op (some 94) (.bin .add (.s 93) (.k (.c TI (1 : Int)))),
     .op (some 13) (.mov (.s 94))])))
def l_FnCovers_L4 : List (Nat × Md) := [(3, .b [.d]), (4, .one .d), (7, .one .d), (8, .one .d), (12, .one .d), (13, .one .d)]
def l_FnCovers_y3 : TCode :=
  (.seq (.reg [.op (some 103) (.mov (.s 7)),
    .op (some 104) (.fad (.s 3) 0),
    .op (some 105) (.load (.s 104) 1 false),
    .op (some 106) (.len (.s 105)),
    .op (some 107) (.bin .eql (.s 103) (.s 106)),
    .op (some 108) (.mov (.s 107)),
    .grp 108 true [.op (some 109) (.mov (.s 8)), .op (some 110) (.mov (.s 12)), .op (some 111) (.bin .eql (.s 109) (.s 110))] 112 (.s 111),
    .op (some 113) (.mov (.s 112)),
    .grp 113 true [.op (some 114) (.load (.s 3) 1 true), .op (some 115) (.mov (.s 4)), .op (some 116) (.call 50 [(.s 114), (.s 115)]), .op (some 117) (.mov (.s 4)), .op (some 118) (.len (.s 117)), .op (some 119) (.bin .add (.s 118) (.k (.c TI (1 : Int)))), .op (some 120) (.bin .mul (.s 116) (.s 119)), .op (some 121) (.mov (.s 12)), .op (some 122) (.bin .geq (.s 120) (.s 121))] 123 (.s 122),
    .op (some 2) (.mov (.s 123))])
 .ret)
def l_FnCovers_y1 : TCode :=
  (.seq (.reg [.op (some 12) (.mov (.k (.c TI (0 : Int))))])
 (.seq (.seq (.reg [.op (some 13) (.mov (.k (.c TI (0 : Int))))])
   (.block 2 (.loop l_FnCovers_L4 l_FnCovers_b4)))
  l_FnCovers_y3))
def l_FnCovers_c : TCode :=
  (.seq (.reg [.op (some 2) (.mov (.k (.c .bool false)))])
 (.seq (.seq (.reg [.op (some 14) (.mov (.s 0)),
      .op (some 15) (.call 26 [(.s 14)])])
   (.cond (.s 15) (.seq (.reg [.op (some 2) (.mov (.k (.c .bool true)))])
     .ret) .skip))
  (.seq (.reg [.op (some 17) (.mov (.s 0)),
      .op (some 18) (.call 46 [(.s 17)]),
      .op (some 16) (.mov (.s 18)),
      .op (some 19) (.ext (.s 16) 0),
      .op (some 20) (.ext (.s 16) 1),
      .op (some 3) (.new 66 [(.n ctOp)]),
      .op none (.store (.s 3) (.s 19) 1),
      .op (some 4) (.mov (.s 20))])
   (.seq (.seq (.draw [.op (some 21) (.load (.s 3) 1 true),
        .op (some 22) (.mov (.s 4)),
        .op (some 23) (.call 47 [(.s 21), (.s 22)]),
        .op (some 24) (.load (.s 3) 1 true),
        .op (some 25) (.mov (.s 4)),
        .op (some 26) (.call 48 [(.s 24), (.s 25)]),
        .op (some 27) (.eqb true (.s 23) (.s 26))] [(2, 3)])
     (.cond (.s 27) (.seq (.reg [.op (some 2) (.mov (.k (.c .bool false)))])
       .ret) .skip))
    (.seq (.seq (.reg [.op (some 28) (.load (.s 3) 1 true),
         .op (some 29) (.mov (.s 4)),
         .op (some 30) (.call 48 [(.s 28), (.s 29)]),
         .op (some 31) (.not (.s 30))])
      (.cond (.s 31) (.seq (.reg [.op (some 33) (.load (.s 3) 1 true),
           .op (some 34) (.mov (.s 4)),
           .op (some 35) (.call 49 [(.s 33), (.s 34), (.k (.c TI (0 : Int)))]),
           .op (some 32) (.mov (.s 35)),
           .op (some 36) (.ext (.s 32) 0),
           .op (some 37) (.ext (.s 32) 1),
           .op (some 5) (.mov (.s 36)),
           .op (some 6) (.mov (.s 37))])
        (.seq (.reg [.op (some 38) (.mov (.s 5)),
            .op (some 39) (.bin .eql (.s 38) (.k (.c TI (0 : Int)))),
            .op (some 40) (.mov (.s 39)),
            .grp 40 true [.op (some 41) (.mov (.s 6)), .op (some 42) (.bin .eql (.s 41) (.k (.c TI (0 : Int))))] 43 (.s 42),
            .op (some 44) (.mov (.s 43)),
            .grp 44 true [.op (some 45) (.load (.s 3) 1 true), .op (some 46) (.mov (.s 4)), .op (some 47) (.call 50 [(.s 45), (.s 46)]), .op (some 48) (.bin .eql (.s 47) (.k (.c TI (0 : Int))))] 49 (.s 48),
            .op (some 2) (.mov (.s 49))])
         .ret)) .skip))
     (.seq (.reg [.op (some 7) (.mov (.k (.c TI (0 : Int))))])
      (.seq (.reg [.op (some 8) (.mov (.k (.c TI (0 : Int))))])
       (.seq (.seq (.reg [.op (some 9) (.mov (.k (.c TI (0 : Int))))])
         (.block 0 (.loop l_FnCovers_L2 l_FnCovers_b2)))
        l_FnCovers_y1))))))))
def l_FnCovers_rs : List (ARv × Md) := [(.t 2, .one .d)]
theorem l_FnCovers_st : compF Try.prog 8 = some (l_FnCovers_c.er, l_FnCovers_rs.map Prod.fst, 124) := by kernel_rfl
def l_FnCovers_Q (K : TRes → Prop) : TPost := TQ 0 0 l_FnCovers_rs K
def l_FnCovers_q1 (K : TRes → Prop) : TPost := Qseq (tawp l_FnCovers_G 0 l_FnCovers_y3 (l_FnCovers_Q K)) (l_FnCovers_Q K)
def l_FnCovers_q2 (K : TRes → Prop) : TPost := Qblk 2 (l_FnCovers_q1 K)
def l_FnCovers_A4 (K : TRes → Prop) (code : List Int) (at1 : Int) (sum : Int) (all : Int) (i : Int) : Prop := Loop l_FnCovers_G 0 l_FnCovers_L4 l_FnCovers_b4 (l_FnCovers_q2 K) ⟨[(3, (.p 0 0 0)), (4, (.c (.sl [TI]) ((e_drawCutsOk code).2))), (7, (.c TI at1)), (8, (.c TI sum)), (12, (.c TI all)), (13, (.c TI i))], [(0, (.box [(.c (.sl ctOp) ((e_drawCutsOk code).1))]))], 1⟩
def l_FnCovers_q3 (K : TRes → Prop) : TPost := Qseq (tawp l_FnCovers_G 0 l_FnCovers_y1 (l_FnCovers_Q K)) (l_FnCovers_Q K)
def l_FnCovers_q4 (K : TRes → Prop) : TPost := Qblk 0 (l_FnCovers_q3 K)
def l_FnCovers_A2 (K : TRes → Prop) (code : List Int) (at1 : Int) (sum : Int) (s : Int) : Prop := Loop l_FnCovers_G 0 l_FnCovers_L2 l_FnCovers_b2 (l_FnCovers_q4 K) ⟨[(3, (.p 0 0 0)), (4, (.c (.sl [TI]) ((e_drawCutsOk code).2))), (7, (.c TI at1)), (8, (.c TI sum)), (9, (.c TI s))], [(0, (.box [(.c (.sl ctOp) ((e_drawCutsOk code).1))]))], 1⟩
theorem l_FnCovers_v4 (K : TRes → Prop) (code : List Int) (at1 : Int) (sum : Int) (all : Int) (i : Int) (h :
  (((decide (i < (((e_drawCutsOk code).1).length : Int))) = true → (((0 : Int) ≤ i ∧ Int.toNat i < ((e_drawCutsOk code).1).length) ∧ (l_FnCovers_A4 K code at1 sum (w64 (all + (m_opCost (gtd dOp ((e_drawCutsOk code).1) (Int.toNat i))))) (w64 (i + (1 : Int)))))) ∧ ((decide (i < (((e_drawCutsOk code).1).length : Int))) = false → K (l_FnCovers_R (((at1 == (((e_drawCutsOk code).1).length : Int)) && (sum == all)) && (decide ((w64 ((m_maxCost ((e_drawCutsOk code).1) ((e_drawCutsOk code).2)) * (w64 ((((e_drawCutsOk code).2).length : Int) + (1 : Int))))) ≥ all))))))) : l_FnCovers_A4 K code at1 sum all i :=
  Loop.of (by kernel_rfl) h
theorem l_FnCovers_v2 (K : TRes → Prop) (code : List Int) (at1 : Int) (sum : Int) (s : Int) (h :
  (((decide (s ≤ (((e_drawCutsOk code).2).length : Int))) = true → (((((((m_stageRange ((e_drawCutsOk code).1) ((e_drawCutsOk code).2) s).1) != at1) || (decide (((m_stageRange ((e_drawCutsOk code).1) ((e_drawCutsOk code).2) s).2) ≤ ((m_stageRange ((e_drawCutsOk code).1) ((e_drawCutsOk code).2) s).1)))) || (decide ((m_stageCost ((e_drawCutsOk code).1) ((e_drawCutsOk code).2) s) > (m_maxCost ((e_drawCutsOk code).1) ((e_drawCutsOk code).2))))) = true → K (l_FnCovers_R false)) ∧ ((((((m_stageRange ((e_drawCutsOk code).1) ((e_drawCutsOk code).2) s).1) != at1) || (decide (((m_stageRange ((e_drawCutsOk code).1) ((e_drawCutsOk code).2) s).2) ≤ ((m_stageRange ((e_drawCutsOk code).1) ((e_drawCutsOk code).2) s).1)))) || (decide ((m_stageCost ((e_drawCutsOk code).1) ((e_drawCutsOk code).2) s) > (m_maxCost ((e_drawCutsOk code).1) ((e_drawCutsOk code).2))))) = false → (l_FnCovers_A2 K code ((m_stageRange ((e_drawCutsOk code).1) ((e_drawCutsOk code).2) s).2) (w64 (sum + (m_stageCost ((e_drawCutsOk code).1) ((e_drawCutsOk code).2) s))) (w64 (s + (1 : Int))))))) ∧ ((decide (s ≤ (((e_drawCutsOk code).2).length : Int))) = false → (l_FnCovers_A4 K code at1 sum (0 : Int) (0 : Int))))) : l_FnCovers_A2 K code at1 sum s :=
  Loop.of (by kernel_rfl) h
theorem l_FnCovers_v0 (K : TRes → Prop) (code : List Int) (h :
  (((m_big code) = true → K (l_FnCovers_R true)) ∧ ((m_big code) = false → ((p_new code) ∧ (((!((m_cutsOk ((e_drawCutsOk code).1) ((e_drawCutsOk code).2)) == (m_cutsOk ((e_drawCutsOk code).1) ((e_drawCutsOk code).2)))) = true → K (l_FnCovers_R false)) ∧ ((!((m_cutsOk ((e_drawCutsOk code).1) ((e_drawCutsOk code).2)) == (m_cutsOk ((e_drawCutsOk code).1) ((e_drawCutsOk code).2)))) = false → (((!(m_cutsOk ((e_drawCutsOk code).1) ((e_drawCutsOk code).2))) = true → K (l_FnCovers_R (((((m_stageRange ((e_drawCutsOk code).1) ((e_drawCutsOk code).2) (0 : Int)).1) == (0 : Int)) && (((m_stageRange ((e_drawCutsOk code).1) ((e_drawCutsOk code).2) (0 : Int)).2) == (0 : Int))) && ((m_maxCost ((e_drawCutsOk code).1) ((e_drawCutsOk code).2)) == (0 : Int))))) ∧ ((!(m_cutsOk ((e_drawCutsOk code).1) ((e_drawCutsOk code).2))) = false → (l_FnCovers_A2 K code (0 : Int) (0 : Int) (0 : Int)))))))))) : Hold (tawp l_FnCovers_G (0 + 0) l_FnCovers_c (TQ 0 0 l_FnCovers_rs K) (tstart [(.c (.sl [(.int .u8)]) code)])) :=
  Hold.of (by kernel_rfl) h
theorem l_FnCovers_t (code : List Int) (r : TRes) (h : Hold (tawp l_FnCovers_G (0 + 0) l_FnCovers_c (TQ 0 0 l_FnCovers_rs fun r' => r' = r) (tstart [(.c (.sl [(.int .u8)]) code)]))) : TCon Try.prog 8 [(.c (.sl [(.int .u8)]) code)] r :=
  tcon_gen (sg := [(.c (.sl [(.int .u8)]))]) mixed (TOk.cons l_big_ok (TOk.cons s_DrawCutsOk_ok (TOk.cons i_CutsOk_ok (TOk.cons s_CutsOk_ok (TOk.cons i_StageRange_ok (TOk.cons i_MaxCost_ok (TOk.cons i_StageCost_ok (TOk.cons i_OpCost_ok TOk.nil)))))))) l_FnCovers_st (by kernel_rfl) (by kernel_rfl) (by kernel_rfl) (by kernel_rfl) h
theorem l_FnCovers_h : l_FnCovers_C := by
  intro code
  refine tcon_bd rfl fun hb => l_FnCovers_t code _ (l_FnCovers_v0 _ code ?_)
  have hl_code : code.length ≤ 9223372036854775807 := hb.1.1
  refine ⟨fun _ => R_eq rfl, fun hb => ?_⟩
  have hn := not_big hb
  have hpost := s_DrawCutsOk_post code hn
  obtain ⟨⟨m, cuts⟩, hr⟩ : ∃ r, e_drawCutsOk code = r := ⟨_, rfl⟩
  rw [hr] at hpost ⊢
  simp only
  refine ⟨hn, fun h => by simp at h, fun _ => ⟨fun h => R_eq ?_, fun h => ?_⟩⟩
  · simp only [Bool.not_eq_true'] at h
    simp [m_stageRange, m_maxCost, h, mTrue]
  simp only [Bool.not_eq_false'] at h
  have hl := cut_len h
  have hE : cutAt m cuts (cuts.length + 1) = m.length := cutAt_end h
  have hM := max_rng h
  have hA := cost_all h (s := cuts.length + 1) (Nat.le_refl _)
  rw [hE, List.take_length] at hA
  have hR := costOf_rng m
  have k4 : l_FnCovers_A4 (fun r' => r' = l_FnCovers_R (mTrue code)) code (m.length : Int) (costOf m) (costOf (m.take 0)) ((0 : Nat) : Int) := by
    refine upLoop m.length (fun k => l_FnCovers_A4 (fun r' => r' = l_FnCovers_R (mTrue code)) code (m.length : Int) (costOf m) (costOf (m.take k)) (k : Int)) ?_ ?_
    · refine l_FnCovers_v4 (fun r' => r' = l_FnCovers_R (mTrue code)) code _ _ _ _ ?_
      rw [hr]
      refine ⟨fun h => by simp at h, fun _ => R_eq ?_⟩
      have h5 : 0 ≤ ((cuts.length + 1 : Nat) : Int) * m_maxCost m cuts ∧ ((cuts.length + 1 : Nat) : Int) * m_maxCost m cuts ≤ 8 * 288 := ⟨Int.mul_nonneg (by omega) hM.1, Int.mul_le_mul (by omega) hM.2 hM.1 (by omega)⟩
      simp only
      rw [List.take_length, sc1 (by omega), Int.mul_comm]
      generalize ((cuts.length + 1 : Nat) : Int) * m_maxCost m cuts = P at hA h5 ⊢
      rw [w64_ok (x := P) (by omega) (by omega)]
      simp only [mTrue, Bool.and_eq_true, beq_self_eq_true, true_and, decide_eq_true_eq]
      omega
    · intro k hk ih
      refine l_FnCovers_v4 (fun r' => r' = l_FnCovers_R (mTrue code)) code _ _ _ _ ?_
      rw [hr]
      refine ⟨fun _ => ⟨⟨by omega, by simpa using hk⟩, ?_⟩, fun h => by simp at h; omega⟩
      have h1 := cost_snoc hk
      have h2 := costOf_rng (m.take (k + 1))
      rw [List.length_take] at h2
      simp only [Int.toNat_natCast]
      rw [← h1, w64_ok (by omega) (by omega), sc1 (by omega)]
      exact ih
  have k2 : l_FnCovers_A2 (fun r' => r' = l_FnCovers_R (mTrue code)) code ((cutAt m cuts 0 : Nat) : Int) (costOf (m.take (cutAt m cuts 0))) ((0 : Nat) : Int) := by
    refine upLoop (cuts.length + 1) (fun k => l_FnCovers_A2 (fun r' => r' = l_FnCovers_R (mTrue code)) code ((cutAt m cuts k : Nat) : Int) (costOf (m.take (cutAt m cuts k))) (k : Int)) ?_ ?_
    · refine l_FnCovers_v2 (fun r' => r' = l_FnCovers_R (mTrue code)) code _ _ _ ?_
      rw [hr]
      refine ⟨fun h => by simp at h; omega, fun _ => ?_⟩
      rw [hE, List.take_length]
      simpa [costOf] using k4
    · intro k hk ih
      refine l_FnCovers_v2 (fun r' => r' = l_FnCovers_R (mTrue code)) code _ _ _ ?_
      rw [hr]
      have hk' : k ≤ cuts.length := by omega
      refine ⟨fun _ => ?_, fun h => by simp at h; omega⟩
      simp only
      rw [range_cutAt h hk']
      have h1 := cutAt_lt h hk'
      have h2 := max_ge h hk'
      refine ⟨fun h => ?_, fun _ => ?_⟩
      · simp at h; omega
      · have h3 := cost_cut h hk'
        have h4 := costOf_rng (m.take (cutAt m cuts (k + 1)))
        rw [List.length_take] at h4
        rw [← h3, w64_ok (by omega) (by omega), sc1 (by omega)]
        exact ih
  have e0 : cutAt m cuts 0 = 0 := rfl
  rw [e0] at k2
  simpa [costOf] using k2

theorem l_FnCovers_ok : TRowOk Try.prog l_FnCovers_row := rowOk fun x _ => l_FnCovers_h x.1

end
end Go.Proofs.Ytephkbajoofeoaa.Am
