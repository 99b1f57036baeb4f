/-
  Written by program: the code of functions, what it asks, and that it comes to what the models say.
-/
import Derived.Test.YtephkbajoofeoaaD1
import Derived.Test.YtephkbajoofeoaaD5
import Derived.Test.YtephkbajoofeoaaPO
import Derived.Test.YtephkbajoofeoaaP2
import Derived.Test.YtephkbajoofeoaaP1
namespace Go.Proofs.Ytephkbajoofeoaa.Am
open Go Go.RowKit Go.Proofs.Ytephkbajoofeoaa
set_option linter.unusedVariables false
set_option linter.unusedSimpArgs false
noncomputable section

def l_FnQueues_R (t : Bool) : TRes := ⟨(.c .bool t), [], [], false, []⟩
def l_FnQueues_row : TRow := mkRow 5 [(.c (.sl [(.int .u8)]))] fun x => (none, l_FnQueues_R (mTrue x.1))
def l_FnQueues_C : Prop := ∀ (x0 : List Int), TCon Try.prog 5 [(.c (.sl [(.int .u8)]) x0)] (l_FnQueues_R (mTrue x0))

/-! laws.FnQueues -/
def l_FnQueues_G : List TRow := [l_big_row, s_DrawPush_row, i_Push_row, s_QueueOk_row, i_Pop_row, s_VecOk_row, i_QueueWords_row, l_sameInts_row]
def l_FnQueues_b2 : TCode :=
  (.seq (.seq (.reg [.op (some 89) (.mov (.s 10)),
     .op (some 90) (.fad (.s 3) 1),
     .op (some 91) (.load (.s 90) 1 false),
     .op (some 92) (.len (.s 91)),
     .op (some 93) (.bin .lss (.s 89) (.s 92))])
  (.cond (.s 93) .skip (.exit 0)))
 (.seq (.block 1 (.seq (.reg [.op (some 97) (.load (.s 5) 2 true),
       .op (some 98) (.call 30 [(.s 97)]),
       .op (some 96) (.mov (.s 98)),
       .op (some 99) (.ext (.s 96) 0),
       .op (some 100) (.ext (.s 96) 1),
       .op (some 101) (.ext (.s 96) 2),
       .op (some 11) (.new 36 [(.c TI (0 : Int)), (.n ctItem)]),
       .op (some 12) (.new 39 [(.c TI (0 : Int)), (.n [TI])]),
       .op none (.store (.s 11) (.s 99) 2),
       .op none (.store (.s 12) (.s 100) 2),
       .op (some 13) (.mov (.s 101))])
    (.seq (.seq (.draw [.op (some 102) (.mov (.s 13)),
         .op (some 103) (.not (.s 102)),
         .op (some 104) (.mov (.s 103)),
         .grp 104 false [.op (some 105) (.fad (.s 12) 0), .op (some 106) (.load (.s 105) 1 false), .op (some 107) (.fad (.s 3) 1), .op (some 108) (.load (.s 107) 1 false), .op (some 109) (.mov (.s 10)), .op (some 110) (.iad (.s 108) (.s 109) ctItem), .op (some 111) (.fad (.s 110) 0), .op (some 112) (.load (.s 111) 1 false), .op (some 113) (.bin .neq (.s 106) (.s 112))] 114 (.s 113),
         .op (some 115) (.mov (.s 114)),
         .grp 115 false [.op (some 116) (.fad (.s 12) 1), .op (some 117) (.load (.s 116) 1 false), .op (some 118) (.fad (.s 3) 1), .op (some 119) (.load (.s 118) 1 false), .op (some 120) (.mov (.s 10)), .op (some 121) (.iad (.s 119) (.s 120) ctItem), .op (some 122) (.fad (.s 121) 1), .op (some 123) (.load (.s 122) 1 false), .op (some 124) (.call 33 [(.s 117), (.s 123)]), .op (some 125) (.not (.s 124))] 126 (.s 125)] [])
      (.cond (.s 126) (.seq (.reg [.op (some 2) (.mov (.k (.c .bool false)))])
        .ret) .skip))
     (.reg [.op (some 127) (.load (.s 11) 2 true),
        .op none (.store (.s 5) (.s 127) 2)]))))
  (.reg [.op (some 94) (.mov (.s 10)),
     .op (some 95) (.bin .add (.s 94) (.k (.c TI (1 : Int)))),
     .op (some 10) (.mov (.s 95))])))
def l_FnQueues_L2 : List (Nat × Md) := [(3, .b [.d, .d]), (4, .b [.d, .d]), (5, .b [.d, .d]), (10, .one .d)]
def l_FnQueues_y1 : TCode :=
  (.seq (.reg [.op (some 129) (.load (.s 5) 2 true),
    .op (some 130) (.call 30 [(.s 129)]),
    .op (some 128) (.mov (.s 130)),
    .op (some 131) (.ext (.s 128) 0),
    .op (some 132) (.ext (.s 128) 1),
    .op (some 133) (.ext (.s 128) 2),
    .op (some 14) (.new 36 [(.c TI (0 : Int)), (.n ctItem)]),
    .op (some 15) (.new 39 [(.c TI (0 : Int)), (.n [TI])]),
    .op none (.store (.s 14) (.s 131) 2),
    .op none (.store (.s 15) (.s 132) 2),
    .op (some 16) (.mov (.s 133))])
 (.seq (.reg [.op (some 135) (.load (.s 14) 2 true),
     .op (some 136) (.call 30 [(.s 135)]),
     .op (some 134) (.mov (.s 136)),
     .op (some 137) (.ext (.s 134) 0),
     .op (some 138) (.ext (.s 134) 1),
     .op (some 139) (.ext (.s 134) 2),
     .op (some 17) (.new 36 [(.c TI (0 : Int)), (.n ctItem)]),
     .op (some 18) (.new 39 [(.c TI (0 : Int)), (.n [TI])]),
     .op none (.store (.s 17) (.s 137) 2),
     .op none (.store (.s 18) (.s 138) 2),
     .op (some 19) (.mov (.s 139))])
  (.seq (.reg [.op (some 140) (.mov (.s 16)),
      .op (some 141) (.mov (.s 140)),
      .grp 141 true [.op (some 142) (.fad (.s 15) 0), .op (some 143) (.load (.s 142) 1 false), .op (some 144) (.fad (.s 4) 0), .op (some 145) (.load (.s 144) 1 false), .op (some 146) (.bin .eql (.s 143) (.s 145))] 147 (.s 146),
      .op (some 148) (.mov (.s 147)),
      .grp 148 true [.op (some 149) (.fad (.s 15) 1), .op (some 150) (.load (.s 149) 1 false), .op (some 151) (.fad (.s 4) 1), .op (some 152) (.load (.s 151) 1 false), .op (some 153) (.call 33 [(.s 150), (.s 152)])] 154 (.s 153),
      .op (some 155) (.mov (.s 154)),
      .grp 155 true [.op (some 156) (.mov (.s 19)), .op (some 157) (.not (.s 156))] 158 (.s 157),
      .op (some 159) (.mov (.s 158)),
      .grp 159 true [.op (some 160) (.fad (.s 14) 1), .op (some 161) (.load (.s 160) 1 false), .op (some 162) (.len (.s 161)), .op (some 163) (.bin .eql (.s 162) (.k (.c TI (0 : Int))))] 164 (.s 163),
      .op (some 2) (.mov (.s 164))])
   .ret)))
def l_FnQueues_c : TCode :=
  (.seq (.reg [.op (some 2) (.mov (.k (.c .bool false)))])
 (.seq (.seq (.reg [.op (some 20) (.mov (.s 0)),
      .op (some 21) (.call 26 [(.s 20)])])
   (.cond (.s 21) (.seq (.reg [.op (some 2) (.mov (.k (.c .bool true)))])
     .ret) .skip))
  (.seq (.reg [.op (some 23) (.mov (.s 0)),
      .op (some 24) (.call 27 [(.s 23)]),
      .op (some 22) (.mov (.s 24)),
      .op (some 25) (.ext (.s 22) 0),
      .op (some 26) (.ext (.s 22) 1),
      .op (some 3) (.new 36 [(.c TI (0 : Int)), (.n ctItem)]),
      .op (some 4) (.new 39 [(.c TI (0 : Int)), (.n [TI])]),
      .op none (.store (.s 3) (.s 25) 2),
      .op none (.store (.s 4) (.s 26) 2)])
   (.seq (.reg [.op (some 28) (.load (.s 3) 2 true),
       .op (some 29) (.load (.s 4) 2 true),
       .op (some 30) (.call 28 [(.s 28), (.s 29)]),
       .op (some 27) (.mov (.s 30)),
       .op (some 31) (.ext (.s 27) 0),
       .op (some 32) (.ext (.s 27) 1),
       .op (some 5) (.new 36 [(.c TI (0 : Int)), (.n ctItem)]),
       .op none (.store (.s 5) (.s 31) 2),
       .op (some 6) (.mov (.s 32))])
    (.seq (.seq (.reg [.op (some 33) (.load (.s 3) 2 true),
         .op (some 34) (.call 29 [(.s 33)]),
         .op (some 35) (.not (.s 34))])
      (.cond (.s 35) (.seq (.reg [.op (some 37) (.load (.s 3) 2 true),
           .op (some 38) (.call 30 [(.s 37)]),
           .op (some 36) (.mov (.s 38)),
           .op (some 39) (.ext (.s 36) 0),
           .op (some 40) (.ext (.s 36) 1),
           .op (some 41) (.ext (.s 36) 2),
           .op (some 7) (.new 36 [(.c TI (0 : Int)), (.n ctItem)]),
           .op (some 8) (.new 39 [(.c TI (0 : Int)), (.n [TI])]),
           .op none (.store (.s 7) (.s 39) 2),
           .op none (.store (.s 8) (.s 40) 2),
           .op (some 9) (.mov (.s 41))])
        (.seq (.reg [.op (some 42) (.mov (.s 6)),
            .op (some 43) (.not (.s 42)),
            .op (some 44) (.mov (.s 43)),
            .grp 44 true [.op (some 45) (.mov (.s 9)), .op (some 46) (.not (.s 45))] 47 (.s 46),
            .op (some 2) (.mov (.s 47))])
         .ret)) .skip))
     (.seq (.seq (.reg [.op (some 48) (.mov (.s 6)),
          .op (some 49) (.fad (.s 3) 1),
          .op (some 50) (.load (.s 49) 1 false),
          .op (some 51) (.len (.s 50)),
          .op (some 52) (.fad (.s 3) 0),
          .op (some 53) (.load (.s 52) 1 false),
          .op (some 54) (.bin .lss (.s 51) (.s 53)),
          .op (some 55) (.mov (.s 54)),
          .grp 55 true [.op (some 56) (.fad (.s 4) 1), .op (some 57) (.load (.s 56) 1 false), .op (some 58) (.call 31 [(.s 57)])] 59 (.s 58),
          .op (some 60) (.mov (.s 59)),
          .grp 60 true [.op (some 61) (.fad (.s 4) 0), .op (some 62) (.load (.s 61) 1 false), .op (some 63) (.bin .geq (.s 62) (.k (.c TI (0 : Int))))] 64 (.s 63),
          .op (some 65) (.mov (.s 64)),
          .grp 65 true [.op (some 66) (.fad (.s 4) 0), .op (some 67) (.load (.s 66) 1 false), .op (some 68) (.bin .lss (.s 67) (.k (.c TI (5 : Int))))] 69 (.s 68),
          .op (some 70) (.eqb true (.s 48) (.s 69))])
       (.cond (.s 70) (.seq (.reg [.op (some 2) (.mov (.k (.c .bool false)))])
         .ret) .skip))
      (.seq (.seq (.reg [.op (some 71) (.mov (.s 6)),
           .op (some 72) (.not (.s 71))])
        (.cond (.s 72) (.seq (.reg [.op (some 73) (.fad (.s 5) 1),
             .op (some 74) (.load (.s 73) 1 false),
             .op (some 75) (.len (.s 74)),
             .op (some 76) (.fad (.s 3) 1),
             .op (some 77) (.load (.s 76) 1 false),
             .op (some 78) (.len (.s 77)),
             .op (some 79) (.bin .eql (.s 75) (.s 78)),
             .op (some 2) (.mov (.s 79))])
          .ret) .skip))
       (.seq (.seq (.draw [.op (some 80) (.load (.s 5) 2 true),
            .op (some 81) (.call 32 [(.s 80)]),
            .op (some 82) (.load (.s 3) 2 true),
            .op (some 83) (.call 32 [(.s 82)]),
            .op (some 84) (.fad (.s 4) 1),
            .op (some 85) (.load (.s 84) 1 false),
            .op (some 86) (.len (.s 85)),
            .op (some 87) (.bin .add (.s 83) (.s 86)),
            .op (some 88) (.bin .neq (.s 81) (.s 87))] [(1, 2), (1, 4), (3, 4), (1, 5), (3, 5), (1, 6), (3, 6)])
         (.cond (.s 88) (.seq (.reg [.op (some 2) (.mov (.k (.c .bool false)))])
           .ret) .skip))
        (.seq (.seq (.reg [.op (some 10) (.mov (.k (.c TI (0 : Int))))])
          (.block 0 (.loop l_FnQueues_L2 l_FnQueues_b2)))
         l_FnQueues_y1)))))))))
def l_FnQueues_rs : List (ARv × Md) := [(.t 2, .one .d)]
theorem l_FnQueues_st : compF Try.prog 5 = some (l_FnQueues_c.er, l_FnQueues_rs.map Prod.fst, 165) := by kernel_rfl
def l_FnQueues_Q (K : TRes → Prop) : TPost := TQ 0 0 l_FnQueues_rs K
def l_FnQueues_q1 (K : TRes → Prop) : TPost := Qseq (tawp l_FnQueues_G 0 l_FnQueues_y1 (l_FnQueues_Q K)) (l_FnQueues_Q K)
def l_FnQueues_q2 (K : TRes → Prop) : TPost := Qblk 0 (l_FnQueues_q1 K)
def l_FnQueues_A2 (K : TRes → Prop) (code : List Int) (i : Int) (y0 : Int) (y1 : List TItem) : Prop := Loop l_FnQueues_G 0 l_FnQueues_L2 l_FnQueues_b2 (l_FnQueues_q2 K) ⟨[(3, (.p 0 0 0)), (4, (.p 1 0 0)), (5, (.p 2 0 0)), (10, (.c TI i))], [(0, (.box [(.c TI (((e_drawPush code).1).1)), (.c (.sl ctItem) (((e_drawPush code).1).2))])), (1, (.box [(.c TI (((e_drawPush code).2).1)), (.c (.sl [TI]) (((e_drawPush code).2).2))])), (2, (.box [(.c TI y0), (.c (.sl ctItem) y1)]))], 3⟩
theorem l_FnQueues_v2 (K : TRes → Prop) (code : List Int) (i : Int) (y0 : Int) (y1 : List TItem) (h :
  (((decide (i < ((((e_drawPush code).1).2).length : Int))) = true → ((p_lim (α := TQueue) (y0, y1)) ∧ ((((!(!((m_pop (y0, y1)).2.2))) = true → ((0 : Int) ≤ i ∧ Int.toNat i < (((e_drawPush code).1).2).length)) ∧ ((!((!((m_pop (y0, y1)).2.2)) || ((((m_pop (y0, y1)).2.1).1) != ((gtd ((0, []) : TItem) (((e_drawPush code).1).2) (Int.toNat i)).1)))) = true → ((0 : Int) ≤ i ∧ Int.toNat i < (((e_drawPush code).1).2).length))) ∧ (((((!((m_pop (y0, y1)).2.2)) || ((((m_pop (y0, y1)).2.1).1) != ((gtd ((0, []) : TItem) (((e_drawPush code).1).2) (Int.toNat i)).1))) || (!(m_eq (α := List Int) (((m_pop (y0, y1)).2.1).2) ((gtd ((0, []) : TItem) (((e_drawPush code).1).2) (Int.toNat i)).2)))) = true → K (l_FnQueues_R false)) ∧ ((((!((m_pop (y0, y1)).2.2)) || ((((m_pop (y0, y1)).2.1).1) != ((gtd ((0, []) : TItem) (((e_drawPush code).1).2) (Int.toNat i)).1))) || (!(m_eq (α := List Int) (((m_pop (y0, y1)).2.1).2) ((gtd ((0, []) : TItem) (((e_drawPush code).1).2) (Int.toNat i)).2)))) = false → (l_FnQueues_A2 K code (w64 (i + (1 : Int))) (((m_pop (y0, y1)).1).1) (((m_pop (y0, y1)).1).2))))))) ∧ ((decide (i < ((((e_drawPush code).1).2).length : Int))) = false → ((p_lim (α := TQueue) (y0, y1)) ∧ ((p_lim (α := TQueue) ((m_pop (y0, y1)).1)) ∧ K (l_FnQueues_R ((((((m_pop (y0, y1)).2.2) && ((((m_pop (y0, y1)).2.1).1) == (((e_drawPush code).2).1))) && (m_eq (α := List Int) (((m_pop (y0, y1)).2.1).2) (((e_drawPush code).2).2))) && (!((m_pop ((m_pop (y0, y1)).1)).2.2))) && (((((m_pop (y0, y1)).1).2).length : Int) == (0 : Int))))))))) : l_FnQueues_A2 K code i y0 y1 :=
  Loop.of (by kernel_rfl) h
theorem l_FnQueues_v0 (K : TRes → Prop) (code : List Int) (h :
  (((m_big code) = true → K (l_FnQueues_R true)) ∧ ((m_big code) = false → ((p_new code) ∧ ((p_lim2 (α := TQueue) (β := TItem) ((e_drawPush code).1) ((e_drawPush code).2)) ∧ (((!(m_queueOk ((e_drawPush code).1))) = true → ((p_lim (α := TQueue) ((e_drawPush code).1)) ∧ K (l_FnQueues_R ((!((m_push ((e_drawPush code).1) ((e_drawPush code).2)).2)) && (!((m_pop ((e_drawPush code).1)).2.2)))))) ∧ ((!(m_queueOk ((e_drawPush code).1))) = false → (((!(((m_push ((e_drawPush code).1) ((e_drawPush code).2)).2) == ((((decide (((((e_drawPush code).1).2).length : Int) < (((e_drawPush code).1).1))) && (m_vecOk (((e_drawPush code).2).2))) && (decide ((((e_drawPush code).2).1) ≥ (0 : Int)))) && (decide ((((e_drawPush code).2).1) < (5 : Int)))))) = true → K (l_FnQueues_R false)) ∧ ((!(((m_push ((e_drawPush code).1) ((e_drawPush code).2)).2) == ((((decide (((((e_drawPush code).1).2).length : Int) < (((e_drawPush code).1).1))) && (m_vecOk (((e_drawPush code).2).2))) && (decide ((((e_drawPush code).2).1) ≥ (0 : Int)))) && (decide ((((e_drawPush code).2).1) < (5 : Int)))))) = false → (((!((m_push ((e_drawPush code).1) ((e_drawPush code).2)).2)) = true → K (l_FnQueues_R ((((((m_push ((e_drawPush code).1) ((e_drawPush code).2)).1).2).length : Nat) : Int) == ((((e_drawPush code).1).2).length : Int)))) ∧ ((!((m_push ((e_drawPush code).1) ((e_drawPush code).2)).2)) = false → ((((m_queueWords (((m_push ((e_drawPush code).1) ((e_drawPush code).2)).1).1, (List.take ((((m_push ((e_drawPush code).1) ((e_drawPush code).2)).1).2).length) (List.drop 0 (((m_push ((e_drawPush code).1) ((e_drawPush code).2)).1).2))))) != (w64 ((m_queueWords ((e_drawPush code).1)) + ((((e_drawPush code).2).2).length : Int)))) = true → K (l_FnQueues_R false)) ∧ (((m_queueWords (((m_push ((e_drawPush code).1) ((e_drawPush code).2)).1).1, (List.take ((((m_push ((e_drawPush code).1) ((e_drawPush code).2)).1).2).length) (List.drop 0 (((m_push ((e_drawPush code).1) ((e_drawPush code).2)).1).2))))) != (w64 ((m_queueWords ((e_drawPush code).1)) + ((((e_drawPush code).2).2).length : Int)))) = false → (l_FnQueues_A2 K code (0 : Int) (((m_push ((e_drawPush code).1) ((e_drawPush code).2)).1).1) (List.take ((((m_push ((e_drawPush code).1) ((e_drawPush code).2)).1).2).length) (List.drop 0 (((m_push ((e_drawPush code).1) ((e_drawPush code).2)).1).2))))))))))))))))) : Hold (tawp l_FnQueues_G (0 + 0) l_FnQueues_c (TQ 0 0 l_FnQueues_rs K) (tstart [(.c (.sl [(.int .u8)]) code)])) :=
  Hold.of (by kernel_rfl) h
theorem l_FnQueues_t (code : List Int) (r : TRes) (h : Hold (tawp l_FnQueues_G (0 + 0) l_FnQueues_c (TQ 0 0 l_FnQueues_rs fun r' => r' = r) (tstart [(.c (.sl [(.int .u8)]) code)]))) : TCon Try.prog 5 [(.c (.sl [(.int .u8)]) code)] r :=
  tcon_gen (sg := [(.c (.sl [(.int .u8)]))]) mixed (TOk.cons l_big_ok (TOk.cons s_DrawPush_ok (TOk.cons i_Push_ok (TOk.cons s_QueueOk_ok (TOk.cons i_Pop_ok (TOk.cons s_VecOk_ok (TOk.cons i_QueueWords_ok (TOk.cons l_sameInts_ok TOk.nil)))))))) l_FnQueues_st (by kernel_rfl) (by kernel_rfl) (by kernel_rfl) (by kernel_rfl) h
theorem l_FnQueues_h : l_FnQueues_C := by
  intro code
  refine tcon_bd rfl fun hb => l_FnQueues_t code _ (l_FnQueues_v0 _ code ?_)
  have hl_code : code.length ≤ 9223372036854775807 := hb.1.1
  refine ⟨fun _ => R_eq rfl, fun hb => ?_⟩
  have hn := not_big hb
  have hpost := s_DrawPush_post code hn
  obtain ⟨⟨q, x⟩, hr⟩ : ∃ r, e_drawPush code = r := ⟨_, rfl⟩
  rw [hr] at hpost ⊢
  simp only
  refine ⟨hn, ?_⟩
  obtain ⟨hq, hx7⟩ := hpost
  simp only at hq hx7
  have hsq := queue_sz hq
  have hsx : Sz.sz x ≤ 7 := by have := sz_ints x.2; simp only [sz_prod, sz_int]; omega
  refine ⟨by unfold p_lim2; omega, fun h => ⟨by unfold p_lim; omega, R_eq ?_⟩, fun h => ?_⟩
  · simp only [Bool.not_eq_true'] at h
    simp [m_push, m_pop, h, mTrue]
  simp only [Bool.not_eq_false'] at h
  by_cases hc : m_itemOk x = true ∧ (q.2.length : Int) < q.1
  case neg =>
    have e1 : m_push q x = (q, false) := by
      have : ¬ (m_queueOk q && m_itemOk x && decide ((q.2.length : Int) < q.1)) = true := by simpa [h] using hc
      simp only [m_push, this]; rfl
    have e2 : (((decide ((q.2.length : Int) < q.1) && m_vecOk x.2) && decide (x.1 ≥ 0)) && decide (x.1 < 5)) = false := by
      rw [← Bool.not_eq_true]
      intro h3
      simp only [Bool.and_eq_true, decide_eq_true_eq] at h3
      exact hc ⟨by rw [itemOk_iff]; simp [h3.1.1.2]; omega, h3.1.1.1⟩
    rw [e1, e2]
    exact ⟨fun h => by simp at h, fun _ => ⟨fun _ => R_eq (by simp [mTrue]), fun h => by simp at h⟩⟩
  case pos =>
    have e2 : (((decide ((q.2.length : Int) < q.1) && m_vecOk x.2) && decide (x.1 ≥ 0)) && decide (x.1 < 5)) = true := by
      have h3 := hc.1
      rw [itemOk_iff] at h3
      simp only [Bool.and_eq_true, decide_eq_true_eq] at h3 ⊢
      exact ⟨⟨⟨hc.2, h3.1.1⟩, h3.1.2⟩, h3.2⟩
    rw [push_ok h hc.1 hc.2, e2]
    simp only [take_d0]
    refine ⟨fun h => by simp at h, fun _ => ⟨fun h => by simp at h, fun _ => ⟨fun h3 => ?_, fun _ => ?_⟩⟩⟩
    · rw [words_push h hc.1 hc.2] at h3; simp at h3
    have lim : ∀ k, p_lim (α := TQueue) (q.1, q.2.drop k ++ [x]) := by
      intro k
      have h3 : ∀ y, y ∈ q.2.drop k ++ [x] → y.2.length ≤ 7 := by
        intro y hy
        rcases List.mem_append.1 hy with hy | hy
        · exact hq.2.2 y (List.mem_of_mem_drop hy)
        · rw [List.mem_singleton.1 hy]; exact hx7
      have h4 := items_sz h3
      have h5 := hq.1
      unfold p_lim
      simp only [sz_pair, sz_int, List.length_append, List.length_drop, List.length_singleton] at h4 ⊢
      omega
    have key : l_FnQueues_A2 (fun r' => r' = l_FnQueues_R (mTrue code)) code ((0 : Nat) : Int) q.1 (q.2.drop 0 ++ [x]) := by
      refine upLoop q.2.length (fun k => l_FnQueues_A2 (fun r' => r' = l_FnQueues_R (mTrue code)) code (k : Int) q.1 (q.2.drop k ++ [x])) ?_ ?_
      · refine l_FnQueues_v2 (fun r' => r' = l_FnQueues_R (mTrue code)) code _ _ _ ?_
        rw [hr, pop_ok h hc.1 hc.2]
        refine ⟨fun h => by simp at h, fun _ => ⟨lim _, ?_, R_eq ?_⟩⟩
        · simp [p_lim]
        · simp [pop_nil, m_eq, gtd, mTrue]
      · intro k hk ih
        have ht : (q.2.drop k ++ [x]).tail = q.2.drop (k + 1) ++ [x] := by rw [List.drop_eq_getElem_cons hk]; rfl
        have hh : gtd (0, []) (q.2.drop k ++ [x]) 0 = gtd (0, []) q.2 k := by
          rw [List.drop_eq_getElem_cons hk, List.cons_append, gtd_zero]
          exact (gtd_some (List.getElem?_eq_getElem hk) _).symm
        refine l_FnQueues_v2 (fun r' => r' = l_FnQueues_R (mTrue code)) code _ _ _ ?_
        rw [hr, pop_ok h hc.1 hc.2]
        refine ⟨fun _ => ⟨lim _, ⟨fun _ => ⟨by omega, by simpa using hk⟩, fun _ => ⟨by omega, by simpa using hk⟩⟩, fun h => ?_, fun _ => ?_⟩, fun h => by simp at h; omega⟩
        · simp only [Int.toNat_natCast] at h
          rw [hh] at h
          simp [m_eq] at h
        · rw [sc1 (by have := hq.1; omega)]
          simp only [ht]
          exact ih
    rw [List.drop_zero] at key
    exact key

theorem l_FnQueues_ok : TRowOk Try.prog l_FnQueues_row := rowOk fun x _ => l_FnQueues_h x.1

end
end Go.Proofs.Ytephkbajoofeoaa.Am
