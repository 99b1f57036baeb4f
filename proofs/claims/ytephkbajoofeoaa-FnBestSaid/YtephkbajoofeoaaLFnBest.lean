/-
  Written by program: the code of functions, what it asks, and that it comes to what the models say.
-/
import Derived.Test.YtephkbajoofeoaaDQ
import Derived.Test.YtephkbajoofeoaaPN
import Derived.Test.YtephkbajoofeoaaP4
import Derived.Test.YtephkbajoofeoaaP5
import Derived.Test.YtephkbajoofeoaaKD
namespace Go.Proofs.Ytephkbajoofeoaa.Am
open Go Go.RowKit Go.Proofs.Ytephkbajoofeoaa
set_option linter.unusedVariables false
set_option linter.unusedSimpArgs false
noncomputable section

def l_FnBest_R (t : Bool) : TRes := ⟨(.c .bool t), [], [], false, []⟩
def l_FnBest_row : TRow := mkRow 10 [(.c (.sl [(.int .u8)]))] fun x => (none, l_FnBest_R (mTrue x.1))
def l_FnBest_C : Prop := ∀ (x0 : List Int), TCon Try.prog 10 [(.c (.sl [(.int .u8)]) x0)] (l_FnBest_R (mTrue x0))

/-! laws.FnBest -/
def l_FnBest_G : List TRow := [l_big_row, s_DrawBestCuts_row, i_BestCuts_row, s_ModelOk_row, s_CutsOk_row, i_AllCuts_row, s_MaxCost_row, l_sameInts_row, i_MaxCost_row]
def l_FnBest_y4 : TCode :=
  (.seq (.draw [.op (some 84) (.mov (.s 11)),
    .op (some 85) (.mov (.s 8)),
    .op (some 86) (.bin .lss (.s 84) (.s 85)),
    .op (some 87) (.mov (.s 86)),
    .grp 87 false [.op (some 88) (.mov (.s 11)), .op (some 89) (.mov (.s 8)), .op (some 90) (.bin .eql (.s 88) (.s 89)), .op (some 91) (.mov (.s 90)), .grp 91 true [.op (some 92) (.mov (.s 9)), .op (some 93) (.not (.s 92))] 94 (.s 93)] 95 (.s 94),
    .op (some 96) (.mov (.s 95)),
    .grp 96 false [.op (some 97) (.load (.s 3) 1 true), .op (some 98) (.mov (.s 7)), .op (some 99) (.mov (.s 10)), .op (some 100) (.iad (.s 98) (.s 99) [(.sl [TI])]), .op (some 101) (.fad (.s 100) 0), .op (some 102) (.load (.s 101) 1 false), .op (some 103) (.call 48 [(.s 97), (.s 102)]), .op (some 104) (.not (.s 103))] 105 (.s 104)] [])
 (.cond (.s 105) (.seq (.reg [.op (some 2) (.mov (.k (.c .bool false)))])
   .ret) .skip))
def l_FnBest_L4 : List (Nat × Md) := [(3, .b [.d]), (5, .one .d), (7, .one .d), (8, .one .d), (9, .one .d), (10, .one .d), (11, .one .d)]
def l_FnBest_y4w : TCode := .wk l_FnBest_L4 l_FnBest_y4
def l_FnBest_y3 : TCode :=
  (.reg [.op (some 68) (.mov (.s 10)),
   .op (some 69) (.bin .add (.s 68) (.k (.c TI (1 : Int)))),
   .op (some 10) (.mov (.s 69))])
def l_FnBest_b2 : TCode :=
  (.seq (.seq (.reg [.op (some 64) (.mov (.s 10)),
     .op (some 65) (.mov (.s 7)),
     .op (some 66) (.len (.s 65)),
     .op (some 67) (.bin .lss (.s 64) (.s 66))])
  (.cond (.s 67) .skip (.exit 0)))
 (.seq (.block 1 (.seq (.draw [.op (some 70) (.load (.s 3) 1 true),
       .op (some 71) (.mov (.s 7)),
       .op (some 72) (.mov (.s 10)),
       .op (some 73) (.iad (.s 71) (.s 72) [(.sl [TI])]),
       .op (some 74) (.fad (.s 73) 0),
       .op (some 75) (.load (.s 74) 1 false),
       .op (some 76) (.call 62 [(.s 70), (.s 75)]),
       .op (some 11) (.mov (.s 76))] [])
    (.seq (.seq (.reg [.op (some 77) (.mov (.s 7)),
         .op (some 78) (.mov (.s 10)),
         .op (some 79) (.iad (.s 77) (.s 78) [(.sl [TI])]),
         .op (some 80) (.fad (.s 79) 0),
         .op (some 81) (.load (.s 80) 1 false),
         .op (some 82) (.mov (.s 5)),
         .op (some 83) (.call 33 [(.s 81), (.s 82)])])
      (.cond (.s 83) (.reg [.op (some 9) (.mov (.k (.c .bool true)))]) .skip))
     l_FnBest_y4w)))
  l_FnBest_y3))
def l_FnBest_L2 : List (Nat × Md) := [(3, .b [.d]), (5, .one .d), (7, .one .d), (8, .one .d), (9, .one .d), (10, .one .d)]
def l_FnBest_y1 : TCode :=
  (.seq (.reg [.op (some 106) (.mov (.s 9)),
    .op (some 107) (.mov (.s 106)),
    .grp 107 true [.op (some 108) (.load (.s 3) 1 true), .op (some 109) (.mov (.s 5)), .op (some 110) (.call 50 [(.s 108), (.s 109)]), .op (some 111) (.mov (.s 8)), .op (some 112) (.bin .eql (.s 110) (.s 111))] 113 (.s 112),
    .op (some 2) (.mov (.s 113))])
 .ret)
def l_FnBest_c : TCode :=
  (.seq (.reg [.op (some 2) (.mov (.k (.c .bool false)))])
 (.seq (.seq (.reg [.op (some 12) (.mov (.s 0)),
      .op (some 13) (.call 26 [(.s 12)])])
   (.cond (.s 13) (.seq (.reg [.op (some 2) (.mov (.k (.c .bool true)))])
     .ret) .skip))
  (.seq (.reg [.op (some 15) (.mov (.s 0)),
      .op (some 16) (.call 58 [(.s 15)]),
      .op (some 14) (.mov (.s 16)),
      .op (some 17) (.ext (.s 14) 0),
      .op (some 18) (.ext (.s 14) 1),
      .op (some 3) (.new 66 [(.n ctOp)]),
      .op none (.store (.s 3) (.s 17) 1),
      .op (some 4) (.mov (.s 18))])
   (.seq (.reg [.op (some 20) (.load (.s 3) 1 true),
       .op (some 21) (.mov (.s 4)),
       .op (some 22) (.call 59 [(.s 20), (.s 21)]),
       .op (some 19) (.mov (.s 22)),
       .op (some 23) (.ext (.s 19) 0),
       .op (some 24) (.ext (.s 19) 1),
       .op (some 5) (.mov (.s 23)),
       .op (some 6) (.mov (.s 24))])
    (.seq (.seq (.reg [.op (some 25) (.mov (.s 6)),
         .op (some 26) (.load (.s 3) 1 true),
         .op (some 27) (.call 60 [(.s 26)]),
         .op (some 28) (.mov (.s 27)),
         .grp 28 true [.op (some 29) (.mov (.s 4)), .op (some 30) (.bin .geq (.s 29) (.k (.c TI (1 : Int))))] 31 (.s 30),
         .op (some 32) (.mov (.s 31)),
         .grp 32 true [.op (some 33) (.mov (.s 4)), .op (some 34) (.fad (.s 3) 0), .op (some 35) (.load (.s 34) 1 false), .op (some 36) (.len (.s 35)), .op (some 37) (.bin .leq (.s 33) (.s 36))] 38 (.s 37),
         .op (some 39) (.eqb true (.s 25) (.s 38))])
      (.cond (.s 39) (.seq (.reg [.op (some 2) (.mov (.k (.c .bool false)))])
        .ret) .skip))
     (.seq (.seq (.reg [.op (some 40) (.mov (.s 6)),
          .op (some 41) (.not (.s 40))])
       (.cond (.s 41) (.seq (.reg [.op (some 42) (.mov (.s 5)),
            .op (some 43) (.len (.s 42)),
            .op (some 44) (.bin .eql (.s 43) (.k (.c TI (0 : Int)))),
            .op (some 2) (.mov (.s 44))])
         .ret) .skip))
      (.seq (.seq (.reg [.op (some 45) (.load (.s 3) 1 true),
           .op (some 46) (.mov (.s 5)),
           .op (some 47) (.call 48 [(.s 45), (.s 46)]),
           .op (some 48) (.not (.s 47)),
           .op (some 49) (.mov (.s 48)),
           .grp 49 false [.op (some 50) (.mov (.s 5)), .op (some 51) (.len (.s 50)), .op (some 52) (.mov (.s 4)), .op (some 53) (.bin .sub (.s 52) (.k (.c TI (1 : Int)))), .op (some 54) (.bin .neq (.s 51) (.s 53))] 55 (.s 54)])
        (.cond (.s 55) (.seq (.reg [.op (some 2) (.mov (.k (.c .bool false)))])
          .ret) .skip))
       (.seq (.reg [.op (some 56) (.fad (.s 3) 0),
           .op (some 57) (.load (.s 56) 1 false),
           .op (some 58) (.len (.s 57)),
           .op (some 59) (.mov (.s 4)),
           .op (some 60) (.call 61 [(.s 58), (.s 59)]),
           .op (some 7) (.mov (.s 60))])
        (.seq (.reg [.op (some 61) (.load (.s 3) 1 true),
            .op (some 62) (.mov (.s 5)),
            .op (some 63) (.call 62 [(.s 61), (.s 62)]),
            .op (some 8) (.mov (.s 63))])
         (.seq (.reg [.op (some 9) (.mov (.k (.c .bool false)))])
          (.seq (.seq (.reg [.op (some 10) (.mov (.k (.c TI (0 : Int))))])
            (.block 0 (.loop l_FnBest_L2 l_FnBest_b2)))
           l_FnBest_y1)))))))))))
def l_FnBest_rs : List (ARv × Md) := [(.t 2, .one .d)]
theorem l_FnBest_st : compF Try.prog 10 = some (l_FnBest_c.er, l_FnBest_rs.map Prod.fst, 114) := by kernel_rfl
def l_FnBest_Q (K : TRes → Prop) : TPost := TQ 0 0 l_FnBest_rs K
def l_FnBest_q1 (K : TRes → Prop) : TPost := Qseq (tawp l_FnBest_G 0 l_FnBest_y1 (l_FnBest_Q K)) (l_FnBest_Q K)
def l_FnBest_q2 (K : TRes → Prop) : TPost := Qblk 0 (l_FnBest_q1 K)
def l_FnBest_q3 (K : TRes → Prop) : TPost := Qseq (fun s' => Loop l_FnBest_G 0 l_FnBest_L2 l_FnBest_b2 (l_FnBest_q2 K) (gc 0 l_FnBest_L2 s')) (l_FnBest_q2 K)
def l_FnBest_q4 (K : TRes → Prop) : TPost := Qseq (tawp l_FnBest_G 0 l_FnBest_y3 (l_FnBest_q3 K)) (l_FnBest_q3 K)
def l_FnBest_q5 (K : TRes → Prop) : TPost := Qblk 1 (l_FnBest_q4 K)
def l_FnBest_A4 (K : TRes → Prop) (code : List Int) (behind : Bool) (i : Int) : Prop := tawp l_FnBest_G 0 l_FnBest_y4 (l_FnBest_q5 K) ⟨[(3, (.p 0 0 0)), (5, (.c (.sl [TI]) ((m_bestCuts ((e_drawBestCuts code).1) ((e_drawBestCuts code).2)).1))), (7, (.c (.sl [(.sl [TI])]) (m_allCuts (((e_drawBestCuts code).1).length : Int) ((e_drawBestCuts code).2)))), (8, (.c TI (m_maxCost ((e_drawBestCuts code).1) ((m_bestCuts ((e_drawBestCuts code).1) ((e_drawBestCuts code).2)).1)))), (9, (.c .bool behind)), (10, (.c TI i)), (11, (.c TI (m_maxCost ((e_drawBestCuts code).1) (gtd ([] : List Int) (m_allCuts (((e_drawBestCuts code).1).length : Int) ((e_drawBestCuts code).2)) (Int.toNat i)))))], [(0, (.box [(.c (.sl ctOp) ((e_drawBestCuts code).1))]))], 1⟩
def l_FnBest_A2 (K : TRes → Prop) (code : List Int) (behind1 : Bool) (i : Int) : Prop := Loop l_FnBest_G 0 l_FnBest_L2 l_FnBest_b2 (l_FnBest_q2 K) ⟨[(3, (.p 0 0 0)), (5, (.c (.sl [TI]) ((m_bestCuts ((e_drawBestCuts code).1) ((e_drawBestCuts code).2)).1))), (7, (.c (.sl [(.sl [TI])]) (m_allCuts (((e_drawBestCuts code).1).length : Int) ((e_drawBestCuts code).2)))), (8, (.c TI (m_maxCost ((e_drawBestCuts code).1) ((m_bestCuts ((e_drawBestCuts code).1) ((e_drawBestCuts code).2)).1)))), (9, (.c .bool behind1)), (10, (.c TI i))], [(0, (.box [(.c (.sl ctOp) ((e_drawBestCuts code).1))]))], 1⟩
theorem l_FnBest_v4 (K : TRes → Prop) (code : List Int) (behind : Bool) (i : Int) (h :
  (((!((decide ((m_maxCost ((e_drawBestCuts code).1) (gtd ([] : List Int) (m_allCuts (((e_drawBestCuts code).1).length : Int) ((e_drawBestCuts code).2)) (Int.toNat i))) < (m_maxCost ((e_drawBestCuts code).1) ((m_bestCuts ((e_drawBestCuts code).1) ((e_drawBestCuts code).2)).1)))) || (((m_maxCost ((e_drawBestCuts code).1) (gtd ([] : List Int) (m_allCuts (((e_drawBestCuts code).1).length : Int) ((e_drawBestCuts code).2)) (Int.toNat i))) == (m_maxCost ((e_drawBestCuts code).1) ((m_bestCuts ((e_drawBestCuts code).1) ((e_drawBestCuts code).2)).1))) && (!behind)))) = true → ((0 : Int) ≤ i ∧ Int.toNat i < (m_allCuts (((e_drawBestCuts code).1).length : Int) ((e_drawBestCuts code).2)).length)) ∧ (((((decide ((m_maxCost ((e_drawBestCuts code).1) (gtd ([] : List Int) (m_allCuts (((e_drawBestCuts code).1).length : Int) ((e_drawBestCuts code).2)) (Int.toNat i))) < (m_maxCost ((e_drawBestCuts code).1) ((m_bestCuts ((e_drawBestCuts code).1) ((e_drawBestCuts code).2)).1)))) || (((m_maxCost ((e_drawBestCuts code).1) (gtd ([] : List Int) (m_allCuts (((e_drawBestCuts code).1).length : Int) ((e_drawBestCuts code).2)) (Int.toNat i))) == (m_maxCost ((e_drawBestCuts code).1) ((m_bestCuts ((e_drawBestCuts code).1) ((e_drawBestCuts code).2)).1))) && (!behind))) || (!(m_cutsOk ((e_drawBestCuts code).1) (gtd ([] : List Int) (m_allCuts (((e_drawBestCuts code).1).length : Int) ((e_drawBestCuts code).2)) (Int.toNat i))))) = true → K (l_FnBest_R false)) ∧ ((((decide ((m_maxCost ((e_drawBestCuts code).1) (gtd ([] : List Int) (m_allCuts (((e_drawBestCuts code).1).length : Int) ((e_drawBestCuts code).2)) (Int.toNat i))) < (m_maxCost ((e_drawBestCuts code).1) ((m_bestCuts ((e_drawBestCuts code).1) ((e_drawBestCuts code).2)).1)))) || (((m_maxCost ((e_drawBestCuts code).1) (gtd ([] : List Int) (m_allCuts (((e_drawBestCuts code).1).length : Int) ((e_drawBestCuts code).2)) (Int.toNat i))) == (m_maxCost ((e_drawBestCuts code).1) ((m_bestCuts ((e_drawBestCuts code).1) ((e_drawBestCuts code).2)).1))) && (!behind))) || (!(m_cutsOk ((e_drawBestCuts code).1) (gtd ([] : List Int) (m_allCuts (((e_drawBestCuts code).1).length : Int) ((e_drawBestCuts code).2)) (Int.toNat i))))) = false → (l_FnBest_A2 K code behind (w64 (i + (1 : Int)))))))) : Hold (l_FnBest_A4 K code behind i) :=
  Hold.of (by kernel_rfl) h
theorem l_FnBest_v2 (K : TRes → Prop) (code : List Int) (behind1 : Bool) (i : Int) (h :
  (((decide (i < ((m_allCuts (((e_drawBestCuts code).1).length : Int) ((e_drawBestCuts code).2)).length : Int))) = true → (((0 : Int) ≤ i ∧ Int.toNat i < (m_allCuts (((e_drawBestCuts code).1).length : Int) ((e_drawBestCuts code).2)).length) ∧ (((0 : Int) ≤ i ∧ Int.toNat i < (m_allCuts (((e_drawBestCuts code).1).length : Int) ((e_drawBestCuts code).2)).length) ∧ (((m_eq (α := List Int) (gtd ([] : List Int) (m_allCuts (((e_drawBestCuts code).1).length : Int) ((e_drawBestCuts code).2)) (Int.toNat i)) ((m_bestCuts ((e_drawBestCuts code).1) ((e_drawBestCuts code).2)).1)) = true → (l_FnBest_A4 K code true i)) ∧ ((m_eq (α := List Int) (gtd ([] : List Int) (m_allCuts (((e_drawBestCuts code).1).length : Int) ((e_drawBestCuts code).2)) (Int.toNat i)) ((m_bestCuts ((e_drawBestCuts code).1) ((e_drawBestCuts code).2)).1)) = false → (l_FnBest_A4 K code behind1 i)))))) ∧ ((decide (i < ((m_allCuts (((e_drawBestCuts code).1).length : Int) ((e_drawBestCuts code).2)).length : Int))) = false → K (l_FnBest_R (behind1 && ((m_maxCost ((e_drawBestCuts code).1) ((m_bestCuts ((e_drawBestCuts code).1) ((e_drawBestCuts code).2)).1)) == (m_maxCost ((e_drawBestCuts code).1) ((m_bestCuts ((e_drawBestCuts code).1) ((e_drawBestCuts code).2)).1)))))))) : l_FnBest_A2 K code behind1 i :=
  Loop.of (by kernel_rfl) h
theorem l_FnBest_v0 (K : TRes → Prop) (code : List Int) (h :
  (((m_big code) = true → K (l_FnBest_R true)) ∧ ((m_big code) = false → ((p_new code) ∧ (((!(((m_bestCuts ((e_drawBestCuts code).1) ((e_drawBestCuts code).2)).2) == (((m_modelOk ((e_drawBestCuts code).1)) && (decide (((e_drawBestCuts code).2) ≥ (1 : Int)))) && (decide (((e_drawBestCuts code).2) ≤ (((e_drawBestCuts code).1).length : Int)))))) = true → K (l_FnBest_R false)) ∧ ((!(((m_bestCuts ((e_drawBestCuts code).1) ((e_drawBestCuts code).2)).2) == (((m_modelOk ((e_drawBestCuts code).1)) && (decide (((e_drawBestCuts code).2) ≥ (1 : Int)))) && (decide (((e_drawBestCuts code).2) ≤ (((e_drawBestCuts code).1).length : Int)))))) = false → (((!((m_bestCuts ((e_drawBestCuts code).1) ((e_drawBestCuts code).2)).2)) = true → K (l_FnBest_R ((((m_bestCuts ((e_drawBestCuts code).1) ((e_drawBestCuts code).2)).1).length : Int) == (0 : Int)))) ∧ ((!((m_bestCuts ((e_drawBestCuts code).1) ((e_drawBestCuts code).2)).2)) = false → ((((!(m_cutsOk ((e_drawBestCuts code).1) ((m_bestCuts ((e_drawBestCuts code).1) ((e_drawBestCuts code).2)).1))) || ((((m_bestCuts ((e_drawBestCuts code).1) ((e_drawBestCuts code).2)).1).length : Int) != (w64 (((e_drawBestCuts code).2) - (1 : Int))))) = true → K (l_FnBest_R false)) ∧ (((!(m_cutsOk ((e_drawBestCuts code).1) ((m_bestCuts ((e_drawBestCuts code).1) ((e_drawBestCuts code).2)).1))) || ((((m_bestCuts ((e_drawBestCuts code).1) ((e_drawBestCuts code).2)).1).length : Int) != (w64 (((e_drawBestCuts code).2) - (1 : Int))))) = false → (l_FnBest_A2 K code false (0 : Int)))))))))))) : Hold (tawp l_FnBest_G (0 + 0) l_FnBest_c (TQ 0 0 l_FnBest_rs K) (tstart [(.c (.sl [(.int .u8)]) code)])) :=
  Hold.of (by kernel_rfl) h
theorem l_FnBest_t (code : List Int) (r : TRes) (h : Hold (tawp l_FnBest_G (0 + 0) l_FnBest_c (TQ 0 0 l_FnBest_rs fun r' => r' = r) (tstart [(.c (.sl [(.int .u8)]) code)]))) : TCon Try.prog 10 [(.c (.sl [(.int .u8)]) code)] r :=
  tcon_gen (sg := [(.c (.sl [(.int .u8)]))]) mixed (TOk.cons l_big_ok (TOk.cons s_DrawBestCuts_ok (TOk.cons i_BestCuts_ok (TOk.cons s_ModelOk_ok (TOk.cons s_CutsOk_ok (TOk.cons i_AllCuts_ok (TOk.cons s_MaxCost_ok (TOk.cons l_sameInts_ok (TOk.cons i_MaxCost_ok TOk.nil))))))))) l_FnBest_st (by kernel_rfl) (by kernel_rfl) (by kernel_rfl) (by kernel_rfl) h
theorem l_FnBest_h : l_FnBest_C := by
  intro code
  refine tcon_bd rfl fun hb => l_FnBest_t code _ (l_FnBest_v0 _ code ?_)
  have hl_code : code.length ≤ 9223372036854775807 := hb.1.1
  refine ⟨fun _ => R_eq rfl, fun hb => ?_⟩
  have hn := not_big hb
  have hpost := s_DrawBestCuts_post code hn
  obtain ⟨⟨m, k⟩, hr⟩ : ∃ r, e_drawBestCuts code = r := ⟨_, rfl⟩
  rw [hr]
  simp only
  refine ⟨hn, ?_⟩
  have hg0 : (m_modelOk m && decide (k ≥ 1) && decide (k ≤ (m.length : Int))) = (m_modelOk m && m_in k 1 m.length) := by
    rw [Bool.and_assoc]; rfl
  rw [hg0]
  by_cases h : (m_modelOk m && m_in k 1 m.length) = true
  case neg =>
    have e : m_bestCuts m k = ([], false) := by unfold m_bestCuts; rw [if_neg h]
    rw [e, show (m_modelOk m && m_in k 1 m.length) = false by simpa using h]
    exact ⟨fun h => by simp at h, fun _ => ⟨fun _ => R_eq rfl, fun h => by simp at h⟩⟩
  have e2 : (m_bestCuts m k).2 = true := by unfold m_bestCuts; rw [if_pos h]
  have hF := best_of h
  rw [e2, h]
  simp only [Bool.and_eq_true, m_in_iff] at h
  have hm := mod_len h.1
  have hl := all_len (n := m.length) (k := k) (by omega) (by omega) (by omega)
  have hs := (all_seq (n := m.length) (k := k) (by omega) (by omega) (by omega)).2.2
  have hcut : ∀ v, v ∈ m_allCuts m.length k → m_cutsOk m v = true := fun v hv => by simp only [m_cutsOk, h.1, Bool.true_and]; exact (hs v hv).1
  obtain ⟨b, hb⟩ : ∃ b, (m_bestCuts m k).1 = b := ⟨_, rfl⟩
  rw [hb] at hF ⊢
  obtain ⟨pre, post, hL, hpre, hpst⟩ := hF
  have hbm : b ∈ m_allCuts m.length k := by rw [hL]; simp
  refine ⟨fun h => by simp at h, fun _ => ⟨fun h => by simp at h, fun _ => ⟨fun h2 => ?_, fun _ => ?_⟩⟩⟩
  · have h3 := (hs b hbm).2
    rw [hcut b hbm, h3, w64_ok (by omega) (by omega)] at h2
    simp at h2
  have hget : ∀ i, i < (m_allCuts m.length k).length → gtd [] (m_allCuts m.length k) i ∈ m_allCuts m.length k ∧ m_maxCost m b ≤ m_maxCost m (gtd [] (m_allCuts m.length k) i) ∧ (i < pre.length → m_maxCost m b < m_maxCost m (gtd [] (m_allCuts m.length k) i)) ∧ (i = pre.length → gtd [] (m_allCuts m.length k) i = b) := by
    intro i hi
    have hme := gtd_mem hi []
    refine ⟨hme, ?_, ?_, ?_⟩
    · rw [hL] at hme ⊢
      rcases List.mem_append.1 hme with hy | hy
      · exact Int.le_of_lt (hpre _ hy)
      · rcases List.mem_cons.1 hy with hy | hy
        · rw [hy]; exact Int.le_refl _
        · exact hpst _ hy
    · intro hp
      refine hpre _ ?_
      have : gtd [] (m_allCuts m.length k) i = gtd [] pre i := by
        rw [hL]; simp [gtd, List.getD_eq_getElem?_getD, List.getElem?_append_left hp]
      rw [this]
      exact gtd_mem hp []
    · intro hp
      rw [hL, hp]
      exact gtd_mid [] pre b post
  have key : l_FnBest_A2 (fun r' => r' = l_FnBest_R (mTrue code)) code (decide (pre.length < 0)) ((0 : Nat) : Int) := by
    refine upLoop (m_allCuts m.length k).length (fun i => l_FnBest_A2 (fun r' => r' = l_FnBest_R (mTrue code)) code (decide (pre.length < i)) (i : Int)) ?_ ?_
    · refine l_FnBest_v2 (fun r' => r' = l_FnBest_R (mTrue code)) code _ _ ?_
      rw [hr]
      simp only
      rw [hb]
      refine ⟨fun h => by simp at h, fun _ => R_eq ?_⟩
      have : pre.length < (m_allCuts m.length k).length := by rw [hL]; simp
      simp [mTrue, this]
    · intro i hi ih
      obtain ⟨g1, g2, g3, g4⟩ := hget i hi
      have k4 : ∀ bh : Bool, bh = decide (pre.length < i + 1) → l_FnBest_A4 (fun r' => r' = l_FnBest_R (mTrue code)) code bh (i : Int) := by
        intro bh hbh
        refine (l_FnBest_v4 (fun r' => r' = l_FnBest_R (mTrue code)) code _ _ ?_).h
        rw [hr]
        simp only
        rw [hb, Int.toNat_natCast, hcut _ g1, sc1 (by omega)]
        refine ⟨fun _ => ⟨by omega, hi⟩, fun h2 => ?_, fun _ => ?_⟩
        · simp only [Bool.not_true, Bool.or_false, Bool.or_eq_true, Bool.and_eq_true, decide_eq_true_eq, beq_iff_eq, Bool.not_eq_true'] at h2
          rcases h2 with h2 | ⟨h2, h3⟩
          · omega
          · rw [hbh] at h3
            simp at h3
            have := g3 (by omega)
            omega
        · rw [hbh]; exact ih
      refine l_FnBest_v2 (fun r' => r' = l_FnBest_R (mTrue code)) code _ _ ?_
      rw [hr]
      simp only
      rw [hb, Int.toNat_natCast]
      refine ⟨fun _ => ⟨⟨by omega, hi⟩, ⟨by omega, hi⟩, fun h2 => k4 _ ?_, fun h2 => k4 _ ?_⟩, fun h => by simp at h; omega⟩
      · simp only [m_eq, decide_eq_true_eq] at h2
        have : ¬ i < pre.length := by
          intro h3
          have := g3 h3
          rw [h2] at this
          omega
        simp; omega
      · have : i ≠ pre.length := by
          intro h3
          rw [g4 h3] at h2
          simp [m_eq] at h2
        rw [decide_eq_decide]; omega
  simpa using key

theorem l_FnBest_ok : TRowOk Try.prog l_FnBest_row := rowOk fun x _ => l_FnBest_h x.1

end
end Go.Proofs.Ytephkbajoofeoaa.Am
