/-
  Written by program: the code of functions, what it asks, and that it comes to what the models say.
-/
import Derived.Test.YtephkbajoofeoaaD1
import Derived.Test.YtephkbajoofeoaaD6
import Derived.Test.YtephkbajoofeoaaP6
import Derived.Test.YtephkbajoofeoaaKC
namespace Go.Proofs.Ytephkbajoofeoaa.Am
open Go Go.RowKit Go.Proofs.Ytephkbajoofeoaa
set_option linter.unusedVariables false
set_option linter.unusedSimpArgs false
noncomputable section

def l_FnWords_R (t : Bool) : TRes := ⟨(.c .bool t), [], [], false, []⟩
def l_FnWords_row : TRow := mkRow 12 [(.c (.sl [(.int .u8)]))] fun x => (none, l_FnWords_R (mTrue x.1))
def l_FnWords_C : Prop := ∀ (x0 : List Int), TCon Try.prog 12 [(.c (.sl [(.int .u8)]) x0)] (l_FnWords_R (mTrue x0))

/-! laws.FnWords -/
def l_FnWords_G : List TRow := [l_big_row, s_DrawPipeNew_row, l_at_row, i_PeakOf_row, i_FullWords_row, i_SavedWords_row, s_PeakOf_row]
def l_FnWords_c : TCode :=
  (.seq (.reg [.op (some 2) (.mov (.k (.c .bool false)))])
 (.seq (.seq (.reg [.op (some 10) (.mov (.s 0)),
      .op (some 11) (.call 26 [(.s 10)])])
   (.cond (.s 11) (.seq (.reg [.op (some 2) (.mov (.k (.c .bool true)))])
     .ret) .skip))
  (.seq (.reg [.op (some 13) (.mov (.s 0)),
      .op (some 14) (.call 71 [(.s 13)]),
      .op (some 12) (.mov (.s 14)),
      .op (some 15) (.ext (.s 12) 0),
      .op (some 16) (.ext (.s 12) 1),
      .op (some 3) (.new 103 [(.n ctOp), (.n [TI]), (.c TI (0 : Int)), (.n [.bool]), (.n [TI]), (.n [TI])]),
      .op none (.store (.s 3) (.s 15) 6),
      .op (some 4) (.mov (.s 16))])
   (.seq (.draw [.op (some 17) (.mov (.s 0)),
       .op (some 18) (.call 72 [(.s 17), (.k (.c TI (0 : Int)))]),
       .op (some 19) (.fad (.s 3) 3),
       .op (some 20) (.load (.s 19) 1 false),
       .op (some 21) (.len (.s 20)),
       .op (some 22) (.bin .add (.s 21) (.k (.c TI (1 : Int)))),
       .op (some 23) (.bin .rem (.s 18) (.s 22)),
       .op (some 5) (.mov (.s 23))] [(1, 2), (1, 3), (1, 4)])
    (.seq (.reg [.op (some 24) (.mov (.s 0)),
        .op (some 25) (.call 72 [(.s 24), (.k (.c TI (1 : Int)))]),
        .op (some 26) (.bin .rem (.s 25) (.k (.c TI (5 : Int)))),
        .op (some 27) (.bin .add (.k (.c TI (1 : Int))) (.s 26)),
        .op (some 6) (.mov (.s 27))])
     (.seq (.reg [.op (some 28) (.load (.s 3) 6 true),
         .op (some 29) (.mov (.s 5)),
         .op (some 30) (.mov (.s 6)),
         .op (some 31) (.call 73 [(.s 28), (.s 29), (.s 30)]),
         .op (some 7) (.mov (.s 31))])
      (.seq (.reg [.op (some 32) (.load (.s 3) 6 true),
          .op (some 33) (.mov (.s 5)),
          .op (some 34) (.call 74 [(.s 32), (.s 33)]),
          .op (some 8) (.mov (.s 34))])
       (.seq (.reg [.op (some 35) (.load (.s 3) 6 true),
           .op (some 36) (.mov (.s 5)),
           .op (some 37) (.call 75 [(.s 35), (.s 36)]),
           .op (some 9) (.mov (.s 37))])
        (.seq (.seq (.reg [.op (some 38) (.mov (.s 9)),
             .op (some 39) (.mov (.s 8)),
             .op (some 40) (.bin .gtr (.s 38) (.s 39)),
             .op (some 41) (.mov (.s 40)),
             .grp 41 false [.op (some 42) (.mov (.s 7)), .op (some 43) (.bin .lss (.s 42) (.k (.c TI (0 : Int))))] 44 (.s 43),
             .op (some 45) (.mov (.s 44)),
             .grp 45 false [.op (some 46) (.mov (.s 7)), .op (some 47) (.bin .gtr (.s 46) (.k (.c TI (0 : Int)))), .op (some 48) (.mov (.s 47)), .grp 48 true [.op (some 49) (.mov (.s 7)), .op (some 50) (.mov (.s 9)), .op (some 51) (.bin .lss (.s 49) (.s 50))] 52 (.s 51)] 53 (.s 52)])
          (.cond (.s 53) (.seq (.reg [.op (some 2) (.mov (.k (.c .bool false)))])
            .ret) .skip))
         (.seq (.seq (.reg [.op (some 54) (.mov (.s 7)),
              .op (some 55) (.bin .eql (.s 54) (.k (.c TI (0 : Int)))),
              .op (some 56) (.mov (.s 55)),
              .grp 56 false [.op (some 57) (.mov (.s 6)), .op (some 58) (.bin .geq (.s 57) (.k (.c TI (5 : Int))))] 59 (.s 58)])
           (.cond (.s 59) (.seq (.reg [.op (some 60) (.mov (.s 7)),
                .op (some 61) (.load (.s 3) 6 true),
                .op (some 62) (.mov (.s 5)),
                .op (some 63) (.mov (.s 6)),
                .op (some 64) (.call 76 [(.s 61), (.s 62), (.s 63)]),
                .op (some 65) (.bin .eql (.s 60) (.s 64)),
                .op (some 2) (.mov (.s 65))])
             .ret) .skip))
          (.seq (.reg [.op (some 66) (.load (.s 3) 6 true),
              .op (some 67) (.mov (.s 5)),
              .op (some 68) (.mov (.s 6)),
              .op (some 69) (.bin .add (.s 68) (.k (.c TI (1 : Int)))),
              .op (some 70) (.call 73 [(.s 66), (.s 67), (.s 69)]),
              .op (some 71) (.mov (.s 7)),
              .op (some 72) (.bin .geq (.s 70) (.s 71)),
              .op (some 73) (.mov (.s 72)),
              .grp 73 true [.op (some 74) (.load (.s 3) 6 true), .op (some 75) (.mov (.s 5)), .op (some 76) (.mov (.s 6)), .op (some 77) (.bin .add (.s 76) (.k (.c TI (1 : Int)))), .op (some 78) (.call 73 [(.s 74), (.s 75), (.s 77)]), .op (some 79) (.mov (.s 7)), .op (some 80) (.bin .sub (.s 78) (.s 79)), .op (some 81) (.mov (.s 9)), .op (some 82) (.bin .leq (.s 80) (.s 81))] 83 (.s 82),
              .op (some 84) (.mov (.s 83)),
              .grp 84 true [.op (some 85) (.mov (.s 7)), .op (some 86) (.mov (.s 6)), .op (some 87) (.mov (.s 9)), .op (some 88) (.bin .mul (.s 86) (.s 87)), .op (some 89) (.mov (.s 8)), .op (some 90) (.bin .mul (.k (.c TI (2 : Int))) (.s 89)), .op (some 91) (.bin .add (.s 88) (.s 90)), .op (some 92) (.bin .leq (.s 85) (.s 91))] 93 (.s 92),
              .op (some 2) (.mov (.s 93))])
           .ret)))))))))))
def l_FnWords_rs : List (ARv × Md) := [(.t 2, .one .d)]
theorem l_FnWords_st : compF Try.prog 12 = some (l_FnWords_c.er, l_FnWords_rs.map Prod.fst, 94) := by kernel_rfl
def l_FnWords_Q (K : TRes → Prop) : TPost := TQ 0 0 l_FnWords_rs K
theorem l_FnWords_v0 (K : TRes → Prop) (code : List Int) (h :
  (((m_big code) = true → K (l_FnWords_R true)) ∧ ((m_big code) = false → ((p_new code) ∧ (((p_at code (0 : Int)) ∧ (¬ (w64 (((((e_drawPipeNew code).1).2.2.2.1).length : Int) + (1 : Int)) : Int) = 0)) ∧ (((p_at code (1 : Int)) ∧ (¬ ((5 : Int) : Int) = 0)) ∧ (((((decide ((m_savedWords ((e_drawPipeNew code).1) (Int.tmod (m_at code (0 : Int)) (w64 (((((e_drawPipeNew code).1).2.2.2.1).length : Int) + (1 : Int))))) > (m_fullWords ((e_drawPipeNew code).1) (Int.tmod (m_at code (0 : Int)) (w64 (((((e_drawPipeNew code).1).2.2.2.1).length : Int) + (1 : Int))))))) || (decide ((m_peakOf ((e_drawPipeNew code).1) (Int.tmod (m_at code (0 : Int)) (w64 (((((e_drawPipeNew code).1).2.2.2.1).length : Int) + (1 : Int)))) (w64 ((1 : Int) + (Int.tmod (m_at code (1 : Int)) (5 : Int))))) < (0 : Int)))) || ((decide ((m_peakOf ((e_drawPipeNew code).1) (Int.tmod (m_at code (0 : Int)) (w64 (((((e_drawPipeNew code).1).2.2.2.1).length : Int) + (1 : Int)))) (w64 ((1 : Int) + (Int.tmod (m_at code (1 : Int)) (5 : Int))))) > (0 : Int))) && (decide ((m_peakOf ((e_drawPipeNew code).1) (Int.tmod (m_at code (0 : Int)) (w64 (((((e_drawPipeNew code).1).2.2.2.1).length : Int) + (1 : Int)))) (w64 ((1 : Int) + (Int.tmod (m_at code (1 : Int)) (5 : Int))))) < (m_savedWords ((e_drawPipeNew code).1) (Int.tmod (m_at code (0 : Int)) (w64 (((((e_drawPipeNew code).1).2.2.2.1).length : Int) + (1 : Int))))))))) = true → K (l_FnWords_R false)) ∧ ((((decide ((m_savedWords ((e_drawPipeNew code).1) (Int.tmod (m_at code (0 : Int)) (w64 (((((e_drawPipeNew code).1).2.2.2.1).length : Int) + (1 : Int))))) > (m_fullWords ((e_drawPipeNew code).1) (Int.tmod (m_at code (0 : Int)) (w64 (((((e_drawPipeNew code).1).2.2.2.1).length : Int) + (1 : Int))))))) || (decide ((m_peakOf ((e_drawPipeNew code).1) (Int.tmod (m_at code (0 : Int)) (w64 (((((e_drawPipeNew code).1).2.2.2.1).length : Int) + (1 : Int)))) (w64 ((1 : Int) + (Int.tmod (m_at code (1 : Int)) (5 : Int))))) < (0 : Int)))) || ((decide ((m_peakOf ((e_drawPipeNew code).1) (Int.tmod (m_at code (0 : Int)) (w64 (((((e_drawPipeNew code).1).2.2.2.1).length : Int) + (1 : Int)))) (w64 ((1 : Int) + (Int.tmod (m_at code (1 : Int)) (5 : Int))))) > (0 : Int))) && (decide ((m_peakOf ((e_drawPipeNew code).1) (Int.tmod (m_at code (0 : Int)) (w64 (((((e_drawPipeNew code).1).2.2.2.1).length : Int) + (1 : Int)))) (w64 ((1 : Int) + (Int.tmod (m_at code (1 : Int)) (5 : Int))))) < (m_savedWords ((e_drawPipeNew code).1) (Int.tmod (m_at code (0 : Int)) (w64 (((((e_drawPipeNew code).1).2.2.2.1).length : Int) + (1 : Int))))))))) = false → (((((m_peakOf ((e_drawPipeNew code).1) (Int.tmod (m_at code (0 : Int)) (w64 (((((e_drawPipeNew code).1).2.2.2.1).length : Int) + (1 : Int)))) (w64 ((1 : Int) + (Int.tmod (m_at code (1 : Int)) (5 : Int))))) == (0 : Int)) || (decide ((w64 ((1 : Int) + (Int.tmod (m_at code (1 : Int)) (5 : Int)))) ≥ (5 : Int)))) = true → K (l_FnWords_R ((m_peakOf ((e_drawPipeNew code).1) (Int.tmod (m_at code (0 : Int)) (w64 (((((e_drawPipeNew code).1).2.2.2.1).length : Int) + (1 : Int)))) (w64 ((1 : Int) + (Int.tmod (m_at code (1 : Int)) (5 : Int))))) == (m_peakOf ((e_drawPipeNew code).1) (Int.tmod (m_at code (0 : Int)) (w64 (((((e_drawPipeNew code).1).2.2.2.1).length : Int) + (1 : Int)))) (w64 ((1 : Int) + (Int.tmod (m_at code (1 : Int)) (5 : Int)))))))) ∧ ((((m_peakOf ((e_drawPipeNew code).1) (Int.tmod (m_at code (0 : Int)) (w64 (((((e_drawPipeNew code).1).2.2.2.1).length : Int) + (1 : Int)))) (w64 ((1 : Int) + (Int.tmod (m_at code (1 : Int)) (5 : Int))))) == (0 : Int)) || (decide ((w64 ((1 : Int) + (Int.tmod (m_at code (1 : Int)) (5 : Int)))) ≥ (5 : Int)))) = false → K (l_FnWords_R (((decide ((m_peakOf ((e_drawPipeNew code).1) (Int.tmod (m_at code (0 : Int)) (w64 (((((e_drawPipeNew code).1).2.2.2.1).length : Int) + (1 : Int)))) (w64 ((w64 ((1 : Int) + (Int.tmod (m_at code (1 : Int)) (5 : Int)))) + (1 : Int)))) ≥ (m_peakOf ((e_drawPipeNew code).1) (Int.tmod (m_at code (0 : Int)) (w64 (((((e_drawPipeNew code).1).2.2.2.1).length : Int) + (1 : Int)))) (w64 ((1 : Int) + (Int.tmod (m_at code (1 : Int)) (5 : Int))))))) && (decide ((w64 ((m_peakOf ((e_drawPipeNew code).1) (Int.tmod (m_at code (0 : Int)) (w64 (((((e_drawPipeNew code).1).2.2.2.1).length : Int) + (1 : Int)))) (w64 ((w64 ((1 : Int) + (Int.tmod (m_at code (1 : Int)) (5 : Int)))) + (1 : Int)))) - (m_peakOf ((e_drawPipeNew code).1) (Int.tmod (m_at code (0 : Int)) (w64 (((((e_drawPipeNew code).1).2.2.2.1).length : Int) + (1 : Int)))) (w64 ((1 : Int) + (Int.tmod (m_at code (1 : Int)) (5 : Int))))))) ≤ (m_savedWords ((e_drawPipeNew code).1) (Int.tmod (m_at code (0 : Int)) (w64 (((((e_drawPipeNew code).1).2.2.2.1).length : Int) + (1 : Int)))))))) && (decide ((m_peakOf ((e_drawPipeNew code).1) (Int.tmod (m_at code (0 : Int)) (w64 (((((e_drawPipeNew code).1).2.2.2.1).length : Int) + (1 : Int)))) (w64 ((1 : Int) + (Int.tmod (m_at code (1 : Int)) (5 : Int))))) ≤ (w64 ((w64 ((w64 ((1 : Int) + (Int.tmod (m_at code (1 : Int)) (5 : Int)))) * (m_savedWords ((e_drawPipeNew code).1) (Int.tmod (m_at code (0 : Int)) (w64 (((((e_drawPipeNew code).1).2.2.2.1).length : Int) + (1 : Int))))))) + (w64 ((2 : Int) * (m_fullWords ((e_drawPipeNew code).1) (Int.tmod (m_at code (0 : Int)) (w64 (((((e_drawPipeNew code).1).2.2.2.1).length : Int) + (1 : Int))))))))))))))))))))))) : Hold (tawp l_FnWords_G (0 + 0) l_FnWords_c (TQ 0 0 l_FnWords_rs K) (tstart [(.c (.sl [(.int .u8)]) code)])) :=
  Hold.of (by kernel_rfl) h
theorem l_FnWords_t (code : List Int) (r : TRes) (h : Hold (tawp l_FnWords_G (0 + 0) l_FnWords_c (TQ 0 0 l_FnWords_rs fun r' => r' = r) (tstart [(.c (.sl [(.int .u8)]) code)]))) : TCon Try.prog 12 [(.c (.sl [(.int .u8)]) code)] r :=
  tcon_gen (sg := [(.c (.sl [(.int .u8)]))]) mixed (TOk.cons l_big_ok (TOk.cons s_DrawPipeNew_ok (TOk.cons l_at_ok (TOk.cons i_PeakOf_ok (TOk.cons i_FullWords_ok (TOk.cons i_SavedWords_ok (TOk.cons s_PeakOf_ok TOk.nil))))))) l_FnWords_st (by kernel_rfl) (by kernel_rfl) (by kernel_rfl) (by kernel_rfl) h
theorem l_FnWords_h : l_FnWords_C := by
  intro code
  refine tcon_bd rfl fun hb => l_FnWords_t code _ (l_FnWords_v0 _ code ?_)
  have hl_code : code.length ≤ 9223372036854775807 := hb.1.1
  refine ⟨fun _ => R_eq rfl, fun hb => ?_⟩
  have hn := not_big hb
  have hpost := s_DrawPipeNew_post code hn
  obtain ⟨⟨c, b⟩, hr⟩ : ∃ r, e_drawPipeNew code = r := ⟨_, rfl⟩
  rw [hr] at hpost ⊢
  simp only
  have hpost : c.2.2.2.1.length ≤ 4 := hpost
  refine ⟨hn, ⟨Int.le_refl 0, by rw [w64_ok (x := (c.2.2.2.1.length : Int) + 1) (by omega) (by omega)]; omega⟩, ⟨by show (0 : Int) ≤ 1; omega, by omega⟩, ?_⟩
  generalize Int.tmod (m_at code 0) _ = s
  have hm : ∃ m, w64 (1 + Int.tmod (m_at code 1) 5) = m := ⟨_, rfl⟩
  obtain ⟨m, hm⟩ := hm
  rw [hm]
  have hv := saved_rng c s
  have hw := words_rng c s
  have hL := words_law1 c s m
  refine ⟨fun h => ?_, fun _ => ⟨fun _ => R_eq (by simp [mTrue]), fun h => R_eq ?_⟩⟩
  · simp at h; omega
  · simp only [Bool.or_eq_false_iff, beq_eq_false_iff_ne, decide_eq_false_iff_not] at h
    have hK := words_law2 c s m h.1 (by omega)
    rw [w64_ok (x := m + 1) (by omega) (by omega), w64_ok (x := m_peakOf c s (m + 1) - _) (by omega) (by omega), w64_ok (x := 2 * _) (by omega) (by omega), w64_ok (x := m * _) (by omega) (by omega), w64_ok (by omega) (by omega)]
    simp only [mTrue, Bool.and_eq_true, decide_eq_true_eq]
    omega

theorem l_FnWords_ok : TRowOk Try.prog l_FnWords_row := rowOk fun x _ => l_FnWords_h x.1

end
end Go.Proofs.Ytephkbajoofeoaa.Am
