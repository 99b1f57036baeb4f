/-
  Written by program: the code of functions, what it asks, and that it comes to what the models say.
-/
import Derived.Test.YtpnblnkggeopkaaP1
import Derived.Test.YtpnblnkggeopkaaP8
import Derived.Test.YtpnblnkggeopkaaP2
namespace Go.Proofs.Ytpnblnkggeopkaa.Am
open Go Go.RowKit Go.Proofs.Ytpnblnkggeopkaa
set_option linter.unusedVariables false
set_option linter.unusedSimpArgs false
noncomputable section

def s_PipeOk_R (t : Bool) : TRes := ⟨(.c .bool t), [], [], false⟩
def s_PipeOk_row : TRow := mkRow 108 [(.a ctPipe)] fun x => (none, s_PipeOk_R (m_pipeOk x.1))
def s_PipeOk_C : Prop := ∀ (x0 : TPipe), TCon Try.prog 108 [(.a (Tup.cells ctPipe x0))] (s_PipeOk_R (m_pipeOk x0))

/-! spec.PipeOk -/
def s_PipeOk_G : List TRow := [s_l1In_row, s_StageOk_row, s_QueueOk_row, s_VecOk_row]
def s_PipeOk_b5 : TCode :=
  (.seq (.seq (.reg [.op (some 59) (.mov (.s 6)),
     .op (some 60) (.fad (.s 5) 1),
     .op (some 61) (.load (.s 60) 1 false),
     .op (some 62) (.len (.s 61)),
     .op (some 63) (.bin .lss (.s 59) (.s 62))])
  (.cond (.s 63) .skip (.exit 2)))
 (.seq (.block 3 (.seq (.draw [.op (some 66) (.fad (.s 5) 1),
       .op (some 67) (.load (.s 66) 1 false),
       .op (some 68) (.mov (.s 6)),
       .op (some 69) (.iad (.s 67) (.s 68) ctIns),
       .op (some 70) (.fad (.s 69) 1),
       .op (some 71) (.load (.s 70) 1 false),
       .op (some 72) (.fad (.s 1) 0),
       .op (some 73) (.load (.s 72) 1 false),
       .op (some 74) (.len (.s 73)),
       .op (some 75) (.bin .sub (.s 74) (.k (.c TI (1 : Int)))),
       .op (some 76) (.call 121 [(.s 71), (.k (.c TI (0 : Int))), (.s 75)]),
       .op (some 77) (.not (.s 76))] [])
    (.cond (.s 77) (.seq (.reg [.op (some 2) (.mov (.k (.c .bool false)))])
      .ret) .skip)))
  (.reg [.op (some 64) (.mov (.s 6)),
     .op (some 65) (.bin .add (.s 64) (.k (.c TI (1 : Int)))),
     .op (some 6) (.mov (.s 65))])))
def s_PipeOk_L5 : List (Nat × Md) := [(1, .b [.d, .d, .d, .d]), (3, .one .d), (4, .one .d), (5, .b [.d, .d, .d, .d, .d, .d, .d, .d, .d, .d, .d, .d, .d, .d]), (6, .one .d)]
def s_PipeOk_y4 : TCode :=
  (.seq (.reg [.op (some 78) (.mov (.s 4)),
    .op (some 79) (.bin .gtr (.s 78) (.k (.c TI (0 : Int)))),
    .op (some 80) (.mov (.s 79)),
    .grp 80 true [.op (some 81) (.fad (.s 1) 2), .op (some 82) (.load (.s 81) 1 false), .op (some 83) (.mov (.s 4)), .op (some 84) (.bin .sub (.s 83) (.k (.c TI (1 : Int)))), .op (some 85) (.iad (.s 82) (.s 84) ctQueue), .op (some 86) (.load (.s 85) 2 true), .op (some 87) (.call 46 [(.s 86)]), .op (some 88) (.not (.s 87)), .op (some 89) (.mov (.s 88)), .grp 89 false [.op (some 90) (.fad (.s 1) 3), .op (some 91) (.load (.s 90) 1 false), .op (some 92) (.mov (.s 4)), .op (some 93) (.bin .sub (.s 92) (.k (.c TI (1 : Int)))), .op (some 94) (.iad (.s 91) (.s 93) ctQueue), .op (some 95) (.load (.s 94) 2 true), .op (some 96) (.call 46 [(.s 95)]), .op (some 97) (.not (.s 96))] 98 (.s 97)] 99 (.s 98)])
 (.cond (.s 99) (.seq (.reg [.op (some 2) (.mov (.k (.c .bool false)))])
   .ret) .skip))
def s_PipeOk_y3 : TCode :=
  (.reg [.op (some 40) (.mov (.s 4)),
   .op (some 41) (.bin .add (.s 40) (.k (.c TI (1 : Int)))),
   .op (some 4) (.mov (.s 41))])
def s_PipeOk_b2 : TCode :=
  (.seq (.seq (.reg [.op (some 37) (.mov (.s 4)),
     .op (some 38) (.mov (.s 3)),
     .op (some 39) (.bin .lss (.s 37) (.s 38))])
  (.cond (.s 39) .skip (.exit 0)))
 (.seq (.block 1 (.seq (.reg [.op (some 42) (.fad (.s 1) 1),
       .op (some 43) (.load (.s 42) 1 false),
       .op (some 44) (.mov (.s 4)),
       .op (some 45) (.iad (.s 43) (.s 44) ctStage),
       .op (some 46) (.load (.s 45) 14 true),
       .op (some 5) (.new 100 [(.c TI (0 : Int)), (.n ctIns), (.n ctOp), (.c .bool false), (.c .bool false), (.n ctSaved), (.n [(.sl [TI])]), (.n [TI]), (.n [TI]), (.n [TI]), (.n [TI]), (.n [(.sl [TI])]), (.c TI (0 : Int)), (.c .bool false)]),
       .op none (.store (.s 5) (.s 46) 14)])
    (.seq (.seq (.reg [.op (some 47) (.load (.s 5) 14 true),
         .op (some 48) (.call 85 [(.s 47)]),
         .op (some 49) (.not (.s 48)),
         .op (some 50) (.mov (.s 49)),
         .grp 50 false [.op (some 51) (.fad (.s 5) 3), .op (some 52) (.load (.s 51) 1 false), .op (some 53) (.mov (.s 4)), .op (some 54) (.mov (.s 3)), .op (some 55) (.bin .sub (.s 54) (.k (.c TI (1 : Int)))), .op (some 56) (.bin .eql (.s 53) (.s 55)), .op (some 57) (.eqb true (.s 52) (.s 56))] 58 (.s 57)])
      (.cond (.s 58) (.seq (.reg [.op (some 2) (.mov (.k (.c .bool false)))])
        .ret) .skip))
     (.seq (.seq (.reg [.op (some 6) (.mov (.k (.c TI (0 : Int))))])
       (.block 2 (.loop s_PipeOk_L5 s_PipeOk_b5)))
      s_PipeOk_y4))))
  s_PipeOk_y3))
def s_PipeOk_L2 : List (Nat × Md) := [(1, .b [.d, .d, .d, .d]), (3, .one .d), (4, .one .d)]
def s_PipeOk_b7 : TCode :=
  (.seq (.seq (.reg [.op (some 100) (.mov (.s 7)),
     .op (some 101) (.fad (.s 1) 0),
     .op (some 102) (.load (.s 101) 1 false),
     .op (some 103) (.len (.s 102)),
     .op (some 104) (.bin .lss (.s 100) (.s 103))])
  (.cond (.s 104) .skip (.exit 4)))
 (.seq (.block 5 (.seq (.reg [.op (some 107) (.fad (.s 1) 0),
       .op (some 108) (.load (.s 107) 1 false),
       .op (some 109) (.mov (.s 7)),
       .op (some 110) (.iad (.s 108) (.s 109) ctPair),
       .op (some 111) (.fad (.s 110) 0),
       .op (some 112) (.load (.s 111) 1 false),
       .op (some 113) (.call 120 [(.s 112)]),
       .op (some 114) (.not (.s 113)),
       .op (some 115) (.mov (.s 114)),
       .grp 115 false [.op (some 116) (.fad (.s 1) 0), .op (some 117) (.load (.s 116) 1 false), .op (some 118) (.mov (.s 7)), .op (some 119) (.iad (.s 117) (.s 118) ctPair), .op (some 120) (.fad (.s 119) 1), .op (some 121) (.load (.s 120) 1 false), .op (some 122) (.call 120 [(.s 121)]), .op (some 123) (.not (.s 122))] 124 (.s 123)])
    (.cond (.s 124) (.seq (.reg [.op (some 2) (.mov (.k (.c .bool false)))])
      .ret) .skip)))
  (.reg [.op (some 105) (.mov (.s 7)),
     .op (some 106) (.bin .add (.s 105) (.k (.c TI (1 : Int)))),
     .op (some 7) (.mov (.s 106))])))
def s_PipeOk_L7 : List (Nat × Md) := [(1, .b [.d, .d, .d, .d]), (7, .one .d)]
def s_PipeOk_y6 : TCode :=
  (.seq (.reg [.op (some 2) (.mov (.k (.c .bool true)))])
 .ret)
def s_PipeOk_y1 : TCode :=
  (.seq (.seq (.reg [.op (some 7) (.mov (.k (.c TI (0 : Int))))])
  (.block 4 (.loop s_PipeOk_L7 s_PipeOk_b7)))
 s_PipeOk_y6)
def s_PipeOk_c : TCode :=
  (.seq (.reg [.op (some 1) (.box 123 (.s 0) 4),
    .op (some 2) (.mov (.k (.c .bool false)))])
 (.seq (.reg [.op (some 8) (.fad (.s 1) 1),
     .op (some 9) (.load (.s 8) 1 false),
     .op (some 10) (.len (.s 9)),
     .op (some 3) (.mov (.s 10))])
  (.seq (.seq (.reg [.op (some 11) (.mov (.s 3)),
       .op (some 12) (.call 121 [(.s 11), (.k (.c TI (1 : Int))), (.k (.c TI (4 : Int)))]),
       .op (some 13) (.not (.s 12)),
       .op (some 14) (.mov (.s 13)),
       .grp 14 false [.op (some 15) (.fad (.s 1) 2), .op (some 16) (.load (.s 15) 1 false), .op (some 17) (.len (.s 16)), .op (some 18) (.mov (.s 3)), .op (some 19) (.bin .sub (.s 18) (.k (.c TI (1 : Int)))), .op (some 20) (.bin .neq (.s 17) (.s 19))] 21 (.s 20),
       .op (some 22) (.mov (.s 21)),
       .grp 22 false [.op (some 23) (.fad (.s 1) 3), .op (some 24) (.load (.s 23) 1 false), .op (some 25) (.len (.s 24)), .op (some 26) (.mov (.s 3)), .op (some 27) (.bin .sub (.s 26) (.k (.c TI (1 : Int)))), .op (some 28) (.bin .neq (.s 25) (.s 27))] 29 (.s 28),
       .op (some 30) (.mov (.s 29)),
       .grp 30 false [.op (some 31) (.fad (.s 1) 0), .op (some 32) (.load (.s 31) 1 false), .op (some 33) (.len (.s 32)), .op (some 34) (.call 121 [(.s 33), (.k (.c TI (1 : Int))), (.k (.c TI (5 : Int)))]), .op (some 35) (.not (.s 34))] 36 (.s 35)])
    (.cond (.s 36) (.seq (.reg [.op (some 2) (.mov (.k (.c .bool false)))])
      .ret) .skip))
   (.seq (.seq (.reg [.op (some 4) (.mov (.k (.c TI (0 : Int))))])
     (.block 0 (.loop s_PipeOk_L2 s_PipeOk_b2)))
    s_PipeOk_y1))))
def s_PipeOk_rs : List (ARv × Md) := [(.t 2, .one .d)]
theorem s_PipeOk_st : compF Try.prog 108 = some (s_PipeOk_c.er, s_PipeOk_rs.map Prod.fst, 125) := by kernel_rfl
def s_PipeOk_Q (K : TRes → Prop) : TPost := TQ 0 s_PipeOk_rs K
def s_PipeOk_q1 (K : TRes → Prop) : TPost := Qseq (tawp s_PipeOk_G 0 s_PipeOk_y1 (s_PipeOk_Q K)) (s_PipeOk_Q K)
def s_PipeOk_q2 (K : TRes → Prop) : TPost := Qblk 0 (s_PipeOk_q1 K)
def s_PipeOk_q3 (K : TRes → Prop) : TPost := Qseq (fun s' => Loop s_PipeOk_G 0 s_PipeOk_L2 s_PipeOk_b2 (s_PipeOk_q2 K) (gc 0 s_PipeOk_L2 s')) (s_PipeOk_q2 K)
def s_PipeOk_q4 (K : TRes → Prop) : TPost := Qseq (tawp s_PipeOk_G 0 s_PipeOk_y3 (s_PipeOk_q3 K)) (s_PipeOk_q3 K)
def s_PipeOk_q5 (K : TRes → Prop) : TPost := Qblk 1 (s_PipeOk_q4 K)
def s_PipeOk_q6 (K : TRes → Prop) : TPost := Qseq (tawp s_PipeOk_G 0 s_PipeOk_y4 (s_PipeOk_q5 K)) (s_PipeOk_q5 K)
def s_PipeOk_q7 (K : TRes → Prop) : TPost := Qblk 2 (s_PipeOk_q6 K)
def s_PipeOk_A5 (K : TRes → Prop) (p : TPipe) (i : Int) (s : Int) : Prop := Loop s_PipeOk_G 0 s_PipeOk_L5 s_PipeOk_b5 (s_PipeOk_q7 K) ⟨[(1, (.p 0 0 0)), (3, (.c TI ((p.2.1).length : Int))), (4, (.c TI s)), (5, (.p 1 0 0)), (6, (.c TI i))], [(0, (.box [(.c (.sl ctPair) p.1), (.c (.sl ctStage) p.2.1), (.c (.sl ctQueue) p.2.2.1), (.c (.sl ctQueue) p.2.2.2)])), (1, (.box [(.c TI ((gtd dStage p.2.1 (Int.toNat s)).1)), (.c (.sl ctIns) ((gtd dStage p.2.1 (Int.toNat s)).2.1)), (.c (.sl ctOp) ((gtd dStage p.2.1 (Int.toNat s)).2.2.1)), (.c .bool ((gtd dStage p.2.1 (Int.toNat s)).2.2.2.1)), (.c .bool ((gtd dStage p.2.1 (Int.toNat s)).2.2.2.2.1)), (.c (.sl ctSaved) ((gtd dStage p.2.1 (Int.toNat s)).2.2.2.2.2.1)), (.c (.sl [(.sl [TI])]) ((gtd dStage p.2.1 (Int.toNat s)).2.2.2.2.2.2.1)), (.c (.sl [TI]) ((gtd dStage p.2.1 (Int.toNat s)).2.2.2.2.2.2.2.1)), (.c (.sl [TI]) ((gtd dStage p.2.1 (Int.toNat s)).2.2.2.2.2.2.2.2.1)), (.c (.sl [TI]) ((gtd dStage p.2.1 (Int.toNat s)).2.2.2.2.2.2.2.2.2.1)), (.c (.sl [TI]) ((gtd dStage p.2.1 (Int.toNat s)).2.2.2.2.2.2.2.2.2.2.1)), (.c (.sl [(.sl [TI])]) ((gtd dStage p.2.1 (Int.toNat s)).2.2.2.2.2.2.2.2.2.2.2.1)), (.c TI ((gtd dStage p.2.1 (Int.toNat s)).2.2.2.2.2.2.2.2.2.2.2.2.1)), (.c .bool ((gtd dStage p.2.1 (Int.toNat s)).2.2.2.2.2.2.2.2.2.2.2.2.2))]))], 2⟩
def s_PipeOk_q8 (K : TRes → Prop) : TPost := Qseq (tawp s_PipeOk_G 0 s_PipeOk_y6 (s_PipeOk_Q K)) (s_PipeOk_Q K)
def s_PipeOk_q9 (K : TRes → Prop) : TPost := Qblk 4 (s_PipeOk_q8 K)
def s_PipeOk_A7 (K : TRes → Prop) (p : TPipe) (i1 : Int) : Prop := Loop s_PipeOk_G 0 s_PipeOk_L7 s_PipeOk_b7 (s_PipeOk_q9 K) ⟨[(1, (.p 0 0 0)), (7, (.c TI i1))], [(0, (.box [(.c (.sl ctPair) p.1), (.c (.sl ctStage) p.2.1), (.c (.sl ctQueue) p.2.2.1), (.c (.sl ctQueue) p.2.2.2)]))], 1⟩
def s_PipeOk_A2 (K : TRes → Prop) (p : TPipe) (s : Int) : Prop := Loop s_PipeOk_G 0 s_PipeOk_L2 s_PipeOk_b2 (s_PipeOk_q2 K) ⟨[(1, (.p 0 0 0)), (3, (.c TI ((p.2.1).length : Int))), (4, (.c TI s))], [(0, (.box [(.c (.sl ctPair) p.1), (.c (.sl ctStage) p.2.1), (.c (.sl ctQueue) p.2.2.1), (.c (.sl ctQueue) p.2.2.2)]))], 1⟩
theorem s_PipeOk_v5 (K : TRes → Prop) (p : TPipe) (i : Int) (s : Int) (h :
  (((decide (i < (((gtd dStage p.2.1 (Int.toNat s)).2.1).length : Int))) = true → (((0 : Int) ≤ i ∧ Int.toNat i < ((gtd dStage p.2.1 (Int.toNat s)).2.1).length) ∧ (((!(m_in ((gtd dIns ((gtd dStage p.2.1 (Int.toNat s)).2.1) (Int.toNat i)).2) (0 : Int) (w64 (((p.1).length : Int) - (1 : Int))))) = true → K (s_PipeOk_R false)) ∧ ((!(m_in ((gtd dIns ((gtd dStage p.2.1 (Int.toNat s)).2.1) (Int.toNat i)).2) (0 : Int) (w64 (((p.1).length : Int) - (1 : Int))))) = false → (s_PipeOk_A5 K p (w64 (i + (1 : Int))) s))))) ∧ ((decide (i < (((gtd dStage p.2.1 (Int.toNat s)).2.1).length : Int))) = false → (((decide (s > (0 : Int))) = true → (((0 : Int) ≤ w64 (s - (1 : Int)) ∧ Int.toNat (w64 (s - (1 : Int))) < (p.2.2.1).length) ∧ ((!(!(m_queueOk (gtd dQueue p.2.2.1 (Int.toNat (w64 (s - (1 : Int)))))))) = true → ((0 : Int) ≤ w64 (s - (1 : Int)) ∧ Int.toNat (w64 (s - (1 : Int))) < (p.2.2.2).length)))) ∧ ((((decide (s > (0 : Int))) && ((!(m_queueOk (gtd dQueue p.2.2.1 (Int.toNat (w64 (s - (1 : Int))))))) || (!(m_queueOk (gtd dQueue p.2.2.2 (Int.toNat (w64 (s - (1 : Int))))))))) = true → K (s_PipeOk_R false)) ∧ (((decide (s > (0 : Int))) && ((!(m_queueOk (gtd dQueue p.2.2.1 (Int.toNat (w64 (s - (1 : Int))))))) || (!(m_queueOk (gtd dQueue p.2.2.2 (Int.toNat (w64 (s - (1 : Int))))))))) = false → (s_PipeOk_A2 K p (w64 (s + (1 : Int)))))))))) : s_PipeOk_A5 K p i s :=
  Loop.of (by kernel_rfl) h
theorem s_PipeOk_v7 (K : TRes → Prop) (p : TPipe) (i1 : Int) (h :
  (((decide (i1 < ((p.1).length : Int))) = true → ((((0 : Int) ≤ i1 ∧ Int.toNat i1 < (p.1).length) ∧ ((!(!(m_vecOk ((gtd dPair p.1 (Int.toNat i1)).1)))) = true → ((0 : Int) ≤ i1 ∧ Int.toNat i1 < (p.1).length))) ∧ ((((!(m_vecOk ((gtd dPair p.1 (Int.toNat i1)).1))) || (!(m_vecOk ((gtd dPair p.1 (Int.toNat i1)).2)))) = true → K (s_PipeOk_R false)) ∧ (((!(m_vecOk ((gtd dPair p.1 (Int.toNat i1)).1))) || (!(m_vecOk ((gtd dPair p.1 (Int.toNat i1)).2)))) = false → (s_PipeOk_A7 K p (w64 (i1 + (1 : Int)))))))) ∧ ((decide (i1 < ((p.1).length : Int))) = false → K (s_PipeOk_R true)))) : s_PipeOk_A7 K p i1 :=
  Loop.of (by kernel_rfl) h
theorem s_PipeOk_v2 (K : TRes → Prop) (p : TPipe) (s : Int) (h :
  (((decide (s < ((p.2.1).length : Int))) = true → (((0 : Int) ≤ s ∧ Int.toNat s < (p.2.1).length) ∧ ((((!(m_stageOk (gtd dStage p.2.1 (Int.toNat s)))) || (!(((gtd dStage p.2.1 (Int.toNat s)).2.2.2.1) == (s == (w64 (((p.2.1).length : Int) - (1 : Int))))))) = true → K (s_PipeOk_R false)) ∧ (((!(m_stageOk (gtd dStage p.2.1 (Int.toNat s)))) || (!(((gtd dStage p.2.1 (Int.toNat s)).2.2.2.1) == (s == (w64 (((p.2.1).length : Int) - (1 : Int))))))) = false → (s_PipeOk_A5 K p (0 : Int) s))))) ∧ ((decide (s < ((p.2.1).length : Int))) = false → (s_PipeOk_A7 K p (0 : Int))))) : s_PipeOk_A2 K p s :=
  Loop.of (by kernel_rfl) h
theorem s_PipeOk_v0 (K : TRes → Prop) (p : TPipe) (h :
  ((((((!(m_in ((p.2.1).length : Int) (1 : Int) (4 : Int))) || (((p.2.2.1).length : Int) != (w64 (((p.2.1).length : Int) - (1 : Int))))) || (((p.2.2.2).length : Int) != (w64 (((p.2.1).length : Int) - (1 : Int))))) || (!(m_in ((p.1).length : Int) (1 : Int) (5 : Int)))) = true → K (s_PipeOk_R false)) ∧ (((((!(m_in ((p.2.1).length : Int) (1 : Int) (4 : Int))) || (((p.2.2.1).length : Int) != (w64 (((p.2.1).length : Int) - (1 : Int))))) || (((p.2.2.2).length : Int) != (w64 (((p.2.1).length : Int) - (1 : Int))))) || (!(m_in ((p.1).length : Int) (1 : Int) (5 : Int)))) = false → (s_PipeOk_A2 K p (0 : Int))))) : Hold (tawp s_PipeOk_G 0 s_PipeOk_c (TQ 0 s_PipeOk_rs K) (tstart [(.a (Tup.cells ctPipe p))])) :=
  Hold.of (by kernel_rfl) h
theorem s_PipeOk_t (p : TPipe) (r : TRes) (h : Hold (tawp s_PipeOk_G 0 s_PipeOk_c (TQ 0 s_PipeOk_rs fun r' => r' = r) (tstart [(.a (Tup.cells ctPipe p))]))) : TCon Try.prog 108 [(.a (Tup.cells ctPipe p))] r :=
  tcon_gen (sg := [(.a ctPipe)]) mixed (TOk.cons s_l1In_ok (TOk.cons s_StageOk_ok (TOk.cons s_QueueOk_ok (TOk.cons s_VecOk_ok TOk.nil)))) s_PipeOk_st (by kernel_rfl) (by kernel_rfl) (by kernel_rfl) h
theorem s_PipeOk_h : s_PipeOk_C := by
  intro p
  refine tcon_bd rfl fun hb => s_PipeOk_t p _ (s_PipeOk_v0 _ p ?_)
  have hl_p_0 : (p.1).length ≤ 9223372036854775807 := hb.1.1.1
  have hl_p_1 : (p.2.1).length ≤ 9223372036854775807 := hb.1.2.1.1
  have hl_p_2 : (p.2.2.1).length ≤ 9223372036854775807 := hb.1.2.2.1.1
  have hl_p_3 : (p.2.2.2).length ≤ 9223372036854775807 := hb.1.2.2.2.1.1
  by_cases h0 : m_in p.2.1.length 1 4 = true
  rotate_left
  · exact ⟨fun h => R_eq (by simp [m_pipeOk, h0]), fun h => by simp [h0] at h⟩
  have h1 := m_in_iff.1 h0
  have e1 : w64 ((p.2.1.length : Int) - 1) = p.2.1.length - 1 := w64_ok (by omega) (by omega)
  rw [e1]
  refine ⟨fun h => R_eq ?_, fun h => ?_⟩
  · have : ((p.2.2.1.length + 1 == p.2.1.length) && (p.2.2.2.length + 1 == p.2.1.length) && m_in p.1.length 1 5) = false := by
      cases hx : m_in p.1.length 1 5 with
      | false => simp
      | true => simp [h0, hx] at h; simp; omega
    have e2 : (m_pipeOk p) = false := by
      unfold m_pipeOk
      rw [h0, Bool.true_and, this, Bool.false_and]
    exact e2.symm
  have h2 : m_in p.1.length 1 5 = true := by grind
  have h3 := m_in_iff.1 h2
  have ha : p.2.2.1.length + 1 = p.2.1.length ∧ p.2.2.2.length + 1 = p.2.1.length := by simp [h0, h2] at h; omega
  have val : (m_pipeOk p) = (p.1.all m_pairVec && (p.2.2.1.all m_queueOk && p.2.2.2.all m_queueOk) && pipeGo p.1.length p.2.1) := by
    simp only [m_pipeOk, h0, h2, ha]; simp
  have e3 : w64 ((p.1.length : Int) - 1) = p.1.length - 1 := w64_ok (by omega) (by omega)
  have batch : (p.2.2.1.all m_queueOk && p.2.2.2.all m_queueOk) = true → pipeGo p.1.length p.2.1 = true → s_PipeOk_A7 (fun r' => r' = s_PipeOk_R (m_pipeOk p)) p ((0 : Nat) : Int) := by
    intro hq hs
    refine listLoop p.1 (fun r k => r.all m_pairVec = p.1.all m_pairVec → s_PipeOk_A7 (fun r' => r' = s_PipeOk_R (m_pipeOk p)) p k) ?_ ?_ rfl
    · intro he
      refine s_PipeOk_v7 (fun r' => r' = s_PipeOk_R (m_pipeOk p)) p _ ⟨fun h => by simp at h, fun _ => R_eq ?_⟩
      rw [val, hq, hs, ← he]; rfl
    · intro k x r hk hlt hg ih he
      refine s_PipeOk_v7 (fun r' => r' = s_PipeOk_R (m_pipeOk p)) p _ ⟨fun _ => ?_, fun h => by simp at h; omega⟩
      rw [Int.toNat_natCast, hg, w64_ok (x := (k : Int) + 1) (by omega) (by omega)]
      rw [List.all_cons] at he
      refine ⟨⟨⟨by omega, hlt⟩, fun _ => ⟨by omega, hlt⟩⟩, fun h => R_eq ?_, fun h => ih ?_⟩
      · have : m_pairVec x = false := by grind [m_pairVec]
        rw [this, Bool.false_and] at he
        rw [val, ← he]; rfl
      · have : m_pairVec x = true := by grind [m_pairVec]
        rw [this, Bool.true_and] at he
        exact he
  refine listLoop p.2.1 (fun r k => pipeGo p.1.length r = pipeGo p.1.length p.2.1 → (∀ j : Nat, j + 1 < k → m_queueOk (gtd dQueue p.2.2.1 j) = true ∧ m_queueOk (gtd dQueue p.2.2.2 j) = true) → s_PipeOk_A2 (fun r' => r' = s_PipeOk_R (m_pipeOk p)) p k) ?_ ?_ rfl (fun j hj => by omega)
  · intro he hq
    refine s_PipeOk_v2 (fun r' => r' = s_PipeOk_R (m_pipeOk p)) p _ ⟨fun h => by simp at h, fun _ => batch ?_ ?_⟩
    · rw [(all_gtd dQueue).2 (fun j hj => (hq j (by omega)).1), (all_gtd dQueue).2 (fun j hj => (hq j (by omega)).2)]; rfl
    · rw [← he]; rfl
  · intro k x r hk hlt hg ih he hq
    have hmem : x ∈ p.2.1 := List.mem_of_mem_drop (i := k) (by rw [hk]; exact List.mem_cons_self)
    have hbx : x.2.1.length ≤ 9223372036854775807 := (hb.1.2.1.2 x hmem).2.1.1
    have hlast := last_eq hk hl_p_1
    rw [e1] at hlast
    rw [pipeGo] at he
    refine s_PipeOk_v2 (fun r' => r' = s_PipeOk_R (m_pipeOk p)) p _ ⟨fun _ => ?_, fun h => by simp at h; omega⟩
    rw [Int.toNat_natCast, hg, e1, hlast]
    refine ⟨⟨by omega, hlt⟩, fun h => R_eq ?_, fun h => ?_⟩
    · have : (m_stageOk x && (x.2.2.2.1 == decide (r.length = 0))) = false := by grind
      rw [this, Bool.false_and, Bool.false_and] at he
      rw [val, ← he, Bool.and_false]
    · have : (m_stageOk x && (x.2.2.2.1 == decide (r.length = 0))) = true := by grind
      rw [this, Bool.true_and] at he
      have rest : x.2.1.all (fun y => m_in y.2 0 (p.1.length - 1)) = true → ((((decide ((k : Int) > 0)) = true → ((0 ≤ w64 ((k : Int) - 1) ∧ Int.toNat (w64 ((k : Int) - 1)) < p.2.2.1.length) ∧ ((!(!(m_queueOk (gtd dQueue p.2.2.1 (Int.toNat (w64 ((k : Int) - 1))))))) = true → (0 ≤ w64 ((k : Int) - 1) ∧ Int.toNat (w64 ((k : Int) - 1)) < p.2.2.2.length)))) ∧ ((((decide ((k : Int) > 0)) && ((!(m_queueOk (gtd dQueue p.2.2.1 (Int.toNat (w64 ((k : Int) - 1)))))) || (!(m_queueOk (gtd dQueue p.2.2.2 (Int.toNat (w64 ((k : Int) - 1)))))))) = true → s_PipeOk_R false = s_PipeOk_R (m_pipeOk p)) ∧ (((decide ((k : Int) > 0)) && ((!(m_queueOk (gtd dQueue p.2.2.1 (Int.toNat (w64 ((k : Int) - 1)))))) || (!(m_queueOk (gtd dQueue p.2.2.2 (Int.toNat (w64 ((k : Int) - 1)))))))) = false → s_PipeOk_A2 (fun r' => r' = s_PipeOk_R (m_pipeOk p)) p (w64 ((k : Int) + 1)))))) := by
        intro hx
        rw [hx, Bool.true_and] at he
        rw [w64_ok (x := (k : Int) + 1) (by omega) (by omega)]
        rcases Nat.eq_zero_or_pos k with k0 | k0
        · subst k0
          exact ⟨fun h => by simp at h, fun h => by simp at h, fun _ => ih he (fun j hj => by omega)⟩
        · have e2 := tn_sub1 k0 (by omega : k ≤ 9223372036854775807)
          rw [e2.1]
          refine ⟨fun _ => ⟨⟨e2.2, by omega⟩, fun _ => ⟨e2.2, by omega⟩⟩, fun h => R_eq ?_, fun h => ih he (fun j hj => ?_)⟩
          · have hqs : (p.2.2.1.all m_queueOk && p.2.2.2.all m_queueOk) = false := by
              cases hc : (p.2.2.1.all m_queueOk && p.2.2.2.all m_queueOk) with
              | false => rfl
              | true =>
                simp only [Bool.and_eq_true] at hc
                have a1 := (all_gtd dQueue).1 hc.1 (k - 1) (by omega)
                have a2 := (all_gtd dQueue).1 hc.2 (k - 1) (by omega)
                rw [a1, a2] at h
                simp at h
            rw [val, hqs]; simp
          · by_cases hjk : j + 1 < k
            · exact hq j hjk
            · rw [show j = k - 1 by omega]
              have hpos : decide ((k : Int) > 0) = true := by simp; omega
              rw [hpos] at h
              grind
      refine allLoop (l := x.2.1) (Q := fun b => selP b _ (s_PipeOk_R false = s_PipeOk_R (m_pipeOk p))) (p := fun y => m_in y.2 0 (p.1.length - 1)) (c := fun y => !(m_in y.2 0 (p.1.length - 1))) (e := true) dIns hbx (fun y => rfl) (fun i h => s_PipeOk_v5 (fun r' => r' = s_PipeOk_R (m_pipeOk p)) p i k (by rw [Int.toNat_natCast, hg, e3]; exact h)) ?_
      cases hx : x.2.1.all (fun y => m_in y.2 0 (p.1.length - 1)) with
      | false =>
        rw [hx, Bool.false_and] at he
        exact R_eq (by rw [val, ← he, Bool.and_false])
      | true => exact rest hx

theorem s_PipeOk_ok : TRowOk Try.prog s_PipeOk_row := rowOk fun x _ => s_PipeOk_h x.1

def i_PipeOk_R (t : Bool) : TRes := ⟨(.c .bool t), [], [], false⟩
def i_PipeOk_row : TRow := mkRow 109 [(.a ctPipe)] fun x => (none, i_PipeOk_R (m_pipeOk x.1))
def i_PipeOk_C : Prop := ∀ (x0 : TPipe), TCon Try.prog 109 [(.a (Tup.cells ctPipe x0))] (i_PipeOk_R (m_pipeOk x0))

/-! impl.PipeOk -/
def i_PipeOk_G : List TRow := [i_VecOk_row, i_QueueOk_row, i_StageOk_row]
def i_PipeOk_b2 : TCode :=
  (.seq (.reg [.op (some 50) (.bin .lss (.s 49) (.s 48))])
 (.seq (.cond (.s 50) .skip (.exit 0))
  (.seq (.block 1 (.seq (.reg [.op (some 51) (.iad (.s 47) (.s 49) ctPair),
        .op (some 52) (.load (.s 51) 2 true),
        .op (some 5) (.new 190 [(.n [TI]), (.n [TI])]),
        .op none (.store (.s 5) (.s 52) 2)])
     (.seq (.reg [.op (some 53) (.fad (.s 5) 0),
         .op (some 54) (.load (.s 53) 1 false),
         .op (some 55) (.call 172 [(.s 54)]),
         .op (some 56) (.not (.s 55)),
         .op (some 57) (.mov (.s 56)),
         .grp 57 false [.op (some 58) (.fad (.s 5) 1), .op (some 59) (.load (.s 58) 1 false), .op (some 60) (.call 172 [(.s 59)]), .op (some 61) (.not (.s 60))] 62 (.s 61)])
      (.cond (.s 62) (.seq (.reg [.op (some 2) (.mov (.k (.c .bool false)))])
        .ret) .skip))))
   (.reg [.op (some 63) (.bin .add (.s 49) (.k (.c TI (1 : Int)))),
      .op (some 49) (.mov (.s 63))]))))
def i_PipeOk_L2 : List (Nat × Md) := [(1, .b [.d, .d, .d, .d]), (3, .one .d), (47, .one .d), (48, .one .d), (49, .one .d)]
def i_PipeOk_b4 : TCode :=
  (.seq (.reg [.op (some 68) (.bin .lss (.s 67) (.s 66))])
 (.seq (.cond (.s 68) .skip (.exit 2))
  (.seq (.block 3 (.seq (.reg [.op (some 69) (.mov (.s 67)),
        .op (some 6) (.mov (.s 69))])
     (.seq (.reg [.op (some 70) (.fad (.s 1) 2),
         .op (some 71) (.load (.s 70) 1 false),
         .op (some 72) (.mov (.s 6)),
         .op (some 73) (.iad (.s 71) (.s 72) ctQueue),
         .op (some 74) (.load (.s 73) 2 true),
         .op (some 75) (.call 48 [(.s 74)]),
         .op (some 76) (.not (.s 75)),
         .op (some 77) (.mov (.s 76)),
         .grp 77 false [.op (some 78) (.fad (.s 1) 3), .op (some 79) (.load (.s 78) 1 false), .op (some 80) (.mov (.s 6)), .op (some 81) (.iad (.s 79) (.s 80) ctQueue), .op (some 82) (.load (.s 81) 2 true), .op (some 83) (.call 48 [(.s 82)]), .op (some 84) (.not (.s 83))] 85 (.s 84)])
      (.cond (.s 85) (.seq (.reg [.op (some 2) (.mov (.k (.c .bool false)))])
        .ret) .skip))))
   (.reg [.op (some 86) (.bin .add (.s 67) (.k (.c TI (1 : Int)))),
      .op (some 67) (.mov (.s 86))]))))
def i_PipeOk_L4 : List (Nat × Md) := [(1, .b [.d, .d, .d, .d]), (3, .one .d), (66, .one .d), (67, .one .d)]
def i_PipeOk_b8 : TCode :=
  (.seq (.reg [.op (some 111) (.bin .lss (.s 110) (.s 109))])
 (.seq (.cond (.s 111) .skip (.exit 6))
  (.seq (.block 7 (.seq (.reg [.op (some 112) (.iad (.s 108) (.s 110) ctIns),
        .op (some 113) (.load (.s 112) 2 true),
        .op (some 10) (.new 129 [(.c TI (0 : Int)), (.c TI (0 : Int))]),
        .op none (.store (.s 10) (.s 113) 2)])
     (.seq (.reg [.op (some 114) (.fad (.s 10) 1),
         .op (some 115) (.load (.s 114) 1 false),
         .op (some 116) (.bin .lss (.s 115) (.k (.c TI (0 : Int)))),
         .op (some 117) (.mov (.s 116)),
         .grp 117 false [.op (some 118) (.fad (.s 10) 1), .op (some 119) (.load (.s 118) 1 false), .op (some 120) (.fad (.s 1) 0), .op (some 121) (.load (.s 120) 1 false), .op (some 122) (.len (.s 121)), .op (some 123) (.bin .geq (.s 119) (.s 122))] 124 (.s 123)])
      (.cond (.s 124) (.seq (.reg [.op (some 2) (.mov (.k (.c .bool false)))])
        .ret) .skip))))
   (.reg [.op (some 125) (.bin .add (.s 110) (.k (.c TI (1 : Int)))),
      .op (some 110) (.mov (.s 125))]))))
def i_PipeOk_L8 : List (Nat × Md) := [(1, .b [.d, .d, .d, .d]), (3, .one .d), (88, .one .d), (89, .one .d), (90, .one .d), (108, .one .d), (109, .one .d), (110, .one .d)]
def i_PipeOk_y7 : TCode :=
  (.reg [.op (some 126) (.bin .add (.s 90) (.k (.c TI (1 : Int)))),
   .op (some 90) (.mov (.s 126))])
def i_PipeOk_b6 : TCode :=
  (.seq (.reg [.op (some 91) (.bin .lss (.s 90) (.s 89))])
 (.seq (.cond (.s 91) .skip (.exit 4))
  (.seq (.block 5 (.seq (.reg [.op (some 92) (.mov (.s 90)),
        .op (some 93) (.iad (.s 88) (.s 90) ctStage),
        .op (some 94) (.load (.s 93) 14 true),
        .op (some 8) (.new 100 [(.c TI (0 : Int)), (.n ctIns), (.n ctOp), (.c .bool false), (.c .bool false), (.n ctSaved), (.n [(.sl [TI])]), (.n [TI]), (.n [TI]), (.n [TI]), (.n [TI]), (.n [(.sl [TI])]), (.c TI (0 : Int)), (.c .bool false)]),
        .op (some 7) (.mov (.s 92)),
        .op none (.store (.s 8) (.s 94) 14)])
     (.seq (.seq (.reg [.op (some 95) (.load (.s 8) 14 true),
          .op (some 96) (.call 86 [(.s 95)]),
          .op (some 97) (.not (.s 96)),
          .op (some 98) (.mov (.s 97)),
          .grp 98 false [.op (some 99) (.fad (.s 8) 3), .op (some 100) (.load (.s 99) 1 false), .op (some 101) (.mov (.s 7)), .op (some 102) (.mov (.s 3)), .op (some 103) (.bin .sub (.s 102) (.k (.c TI (1 : Int)))), .op (some 104) (.bin .eql (.s 101) (.s 103)), .op (some 105) (.eqb true (.s 100) (.s 104))] 106 (.s 105)])
       (.cond (.s 106) (.seq (.reg [.op (some 2) (.mov (.k (.c .bool false)))])
         .ret) .skip))
      (.seq (.reg [.op (some 107) (.fad (.s 8) 1),
          .op (some 108) (.load (.s 107) 1 false),
          .op (some 109) (.len (.s 108)),
          .op (some 110) (.mov (.k (.c TI (0 : Int))))])
       (.block 6 (.loop i_PipeOk_L8 i_PipeOk_b8))))))
   i_PipeOk_y7)))
def i_PipeOk_L6 : List (Nat × Md) := [(1, .b [.d, .d, .d, .d]), (3, .one .d), (88, .one .d), (89, .one .d), (90, .one .d)]
def i_PipeOk_y5 : TCode :=
  (.seq (.reg [.op (some 2) (.mov (.k (.c .bool true)))])
 .ret)
def i_PipeOk_y3 : TCode :=
  (.seq (.seq (.reg [.op (some 87) (.fad (.s 1) 1),
     .op (some 88) (.load (.s 87) 1 false),
     .op (some 89) (.len (.s 88)),
     .op (some 90) (.mov (.k (.c TI (0 : Int))))])
  (.block 4 (.loop i_PipeOk_L6 i_PipeOk_b6)))
 i_PipeOk_y5)
def i_PipeOk_y1 : TCode :=
  (.seq (.seq (.reg [.op (some 64) (.fad (.s 1) 2),
     .op (some 65) (.load (.s 64) 1 false),
     .op (some 66) (.len (.s 65)),
     .op (some 67) (.mov (.k (.c TI (0 : Int))))])
  (.block 2 (.loop i_PipeOk_L4 i_PipeOk_b4)))
 i_PipeOk_y3)
def i_PipeOk_c : TCode :=
  (.seq (.reg [.op (some 1) (.box 123 (.s 0) 4),
    .op (some 2) (.mov (.k (.c .bool false)))])
 (.seq (.reg [.op (some 11) (.fad (.s 1) 1),
     .op (some 12) (.load (.s 11) 1 false),
     .op (some 13) (.len (.s 12)),
     .op (some 3) (.mov (.s 13))])
  (.seq (.seq (.reg [.op (some 14) (.mov (.s 3)),
       .op (some 15) (.bin .lss (.s 14) (.k (.c TI (1 : Int)))),
       .op (some 16) (.mov (.s 15)),
       .grp 16 false [.op (some 17) (.mov (.s 3)), .op (some 18) (.bin .gtr (.s 17) (.k (.c TI (4 : Int))))] 19 (.s 18),
       .op (some 20) (.mov (.s 19)),
       .grp 20 false [.op (some 21) (.fad (.s 1) 2), .op (some 22) (.load (.s 21) 1 false), .op (some 23) (.len (.s 22)), .op (some 24) (.mov (.s 3)), .op (some 25) (.bin .sub (.s 24) (.k (.c TI (1 : Int)))), .op (some 26) (.bin .neq (.s 23) (.s 25))] 27 (.s 26),
       .op (some 28) (.mov (.s 27)),
       .grp 28 false [.op (some 29) (.fad (.s 1) 3), .op (some 30) (.load (.s 29) 1 false), .op (some 31) (.len (.s 30)), .op (some 32) (.mov (.s 3)), .op (some 33) (.bin .sub (.s 32) (.k (.c TI (1 : Int)))), .op (some 34) (.bin .neq (.s 31) (.s 33))] 35 (.s 34)])
    (.cond (.s 35) (.seq (.reg [.op (some 2) (.mov (.k (.c .bool false)))])
      .ret) .skip))
   (.seq (.seq (.reg [.op (some 36) (.fad (.s 1) 0),
        .op (some 37) (.load (.s 36) 1 false),
        .op (some 38) (.len (.s 37)),
        .op (some 39) (.bin .lss (.s 38) (.k (.c TI (1 : Int)))),
        .op (some 40) (.mov (.s 39)),
        .grp 40 false [.op (some 41) (.fad (.s 1) 0), .op (some 42) (.load (.s 41) 1 false), .op (some 43) (.len (.s 42)), .op (some 44) (.bin .gtr (.s 43) (.k (.c TI (5 : Int))))] 45 (.s 44)])
     (.cond (.s 45) (.seq (.reg [.op (some 2) (.mov (.k (.c .bool false)))])
       .ret) .skip))
    (.seq (.seq (.reg [.op (some 46) (.fad (.s 1) 0),
         .op (some 47) (.load (.s 46) 1 false),
         .op (some 48) (.len (.s 47)),
         .op (some 49) (.mov (.k (.c TI (0 : Int))))])
      (.block 0 (.loop i_PipeOk_L2 i_PipeOk_b2)))
     i_PipeOk_y1)))))
def i_PipeOk_rs : List (ARv × Md) := [(.t 2, .one .d)]
theorem i_PipeOk_st : compF Try.prog 109 = some (i_PipeOk_c.er, i_PipeOk_rs.map Prod.fst, 127) := by kernel_rfl
def i_PipeOk_Q (K : TRes → Prop) : TPost := TQ 0 i_PipeOk_rs K
def i_PipeOk_q1 (K : TRes → Prop) : TPost := Qseq (tawp i_PipeOk_G 0 i_PipeOk_y5 (i_PipeOk_Q K)) (i_PipeOk_Q K)
def i_PipeOk_q2 (K : TRes → Prop) : TPost := Qblk 4 (i_PipeOk_q1 K)
def i_PipeOk_q3 (K : TRes → Prop) : TPost := Qseq (fun s' => Loop i_PipeOk_G 0 i_PipeOk_L6 i_PipeOk_b6 (i_PipeOk_q2 K) (gc 0 i_PipeOk_L6 s')) (i_PipeOk_q2 K)
def i_PipeOk_q4 (K : TRes → Prop) : TPost := Qseq (tawp i_PipeOk_G 0 i_PipeOk_y7 (i_PipeOk_q3 K)) (i_PipeOk_q3 K)
def i_PipeOk_q5 (K : TRes → Prop) : TPost := Qblk 5 (i_PipeOk_q4 K)
def i_PipeOk_q6 (K : TRes → Prop) : TPost := Qblk 6 (i_PipeOk_q5 K)
def i_PipeOk_A8 (K : TRes → Prop) (p : TPipe) (x2 : Int) (x3 : Int) : Prop := Loop i_PipeOk_G 0 i_PipeOk_L8 i_PipeOk_b8 (i_PipeOk_q6 K) ⟨[(1, (.p 0 0 0)), (3, (.c TI ((p.2.1).length : Int))), (88, (.c (.sl ctStage) p.2.1)), (89, (.c TI ((p.2.1).length : Int))), (90, (.c TI x3)), (108, (.c (.sl ctIns) ((gtd dStage p.2.1 (Int.toNat x3)).2.1))), (109, (.c TI (((gtd dStage p.2.1 (Int.toNat x3)).2.1).length : Int))), (110, (.c TI x2))], [(0, (.box [(.c (.sl ctPair) p.1), (.c (.sl ctStage) p.2.1), (.c (.sl ctQueue) p.2.2.1), (.c (.sl ctQueue) p.2.2.2)]))], 1⟩
def i_PipeOk_A6 (K : TRes → Prop) (p : TPipe) (x3 : Int) : Prop := Loop i_PipeOk_G 0 i_PipeOk_L6 i_PipeOk_b6 (i_PipeOk_q2 K) ⟨[(1, (.p 0 0 0)), (3, (.c TI ((p.2.1).length : Int))), (88, (.c (.sl ctStage) p.2.1)), (89, (.c TI ((p.2.1).length : Int))), (90, (.c TI x3))], [(0, (.box [(.c (.sl ctPair) p.1), (.c (.sl ctStage) p.2.1), (.c (.sl ctQueue) p.2.2.1), (.c (.sl ctQueue) p.2.2.2)]))], 1⟩
def i_PipeOk_q7 (K : TRes → Prop) : TPost := Qseq (tawp i_PipeOk_G 0 i_PipeOk_y3 (i_PipeOk_Q K)) (i_PipeOk_Q K)
def i_PipeOk_q8 (K : TRes → Prop) : TPost := Qblk 2 (i_PipeOk_q7 K)
def i_PipeOk_A4 (K : TRes → Prop) (p : TPipe) (x1 : Int) : Prop := Loop i_PipeOk_G 0 i_PipeOk_L4 i_PipeOk_b4 (i_PipeOk_q8 K) ⟨[(1, (.p 0 0 0)), (3, (.c TI ((p.2.1).length : Int))), (66, (.c TI ((p.2.2.1).length : Int))), (67, (.c TI x1))], [(0, (.box [(.c (.sl ctPair) p.1), (.c (.sl ctStage) p.2.1), (.c (.sl ctQueue) p.2.2.1), (.c (.sl ctQueue) p.2.2.2)]))], 1⟩
def i_PipeOk_q9 (K : TRes → Prop) : TPost := Qseq (tawp i_PipeOk_G 0 i_PipeOk_y1 (i_PipeOk_Q K)) (i_PipeOk_Q K)
def i_PipeOk_q10 (K : TRes → Prop) : TPost := Qblk 0 (i_PipeOk_q9 K)
def i_PipeOk_A2 (K : TRes → Prop) (p : TPipe) (x : Int) : Prop := Loop i_PipeOk_G 0 i_PipeOk_L2 i_PipeOk_b2 (i_PipeOk_q10 K) ⟨[(1, (.p 0 0 0)), (3, (.c TI ((p.2.1).length : Int))), (47, (.c (.sl ctPair) p.1)), (48, (.c TI ((p.1).length : Int))), (49, (.c TI x))], [(0, (.box [(.c (.sl ctPair) p.1), (.c (.sl ctStage) p.2.1), (.c (.sl ctQueue) p.2.2.1), (.c (.sl ctQueue) p.2.2.2)]))], 1⟩
theorem i_PipeOk_v8 (K : TRes → Prop) (p : TPipe) (x2 : Int) (x3 : Int) (h :
  (((decide (x2 < (((gtd dStage p.2.1 (Int.toNat x3)).2.1).length : Int))) = true → (((0 : Int) ≤ x2 ∧ Int.toNat x2 < ((gtd dStage p.2.1 (Int.toNat x3)).2.1).length) ∧ ((((decide (((gtd dIns ((gtd dStage p.2.1 (Int.toNat x3)).2.1) (Int.toNat x2)).2) < (0 : Int))) || (decide (((gtd dIns ((gtd dStage p.2.1 (Int.toNat x3)).2.1) (Int.toNat x2)).2) ≥ ((p.1).length : Int)))) = true → K (i_PipeOk_R false)) ∧ (((decide (((gtd dIns ((gtd dStage p.2.1 (Int.toNat x3)).2.1) (Int.toNat x2)).2) < (0 : Int))) || (decide (((gtd dIns ((gtd dStage p.2.1 (Int.toNat x3)).2.1) (Int.toNat x2)).2) ≥ ((p.1).length : Int)))) = false → (i_PipeOk_A8 K p (w64 (x2 + (1 : Int))) x3))))) ∧ ((decide (x2 < (((gtd dStage p.2.1 (Int.toNat x3)).2.1).length : Int))) = false → (i_PipeOk_A6 K p (w64 (x3 + (1 : Int))))))) : i_PipeOk_A8 K p x2 x3 :=
  Loop.of (by kernel_rfl) h
theorem i_PipeOk_v6 (K : TRes → Prop) (p : TPipe) (x3 : Int) (h :
  (((decide (x3 < ((p.2.1).length : Int))) = true → (((0 : Int) ≤ x3 ∧ Int.toNat x3 < (p.2.1).length) ∧ ((((!(m_stageOk (gtd dStage p.2.1 (Int.toNat x3)))) || (!(((gtd dStage p.2.1 (Int.toNat x3)).2.2.2.1) == (x3 == (w64 (((p.2.1).length : Int) - (1 : Int))))))) = true → K (i_PipeOk_R false)) ∧ (((!(m_stageOk (gtd dStage p.2.1 (Int.toNat x3)))) || (!(((gtd dStage p.2.1 (Int.toNat x3)).2.2.2.1) == (x3 == (w64 (((p.2.1).length : Int) - (1 : Int))))))) = false → (i_PipeOk_A8 K p (0 : Int) x3))))) ∧ ((decide (x3 < ((p.2.1).length : Int))) = false → K (i_PipeOk_R true)))) : i_PipeOk_A6 K p x3 :=
  Loop.of (by kernel_rfl) h
theorem i_PipeOk_v4 (K : TRes → Prop) (p : TPipe) (x1 : Int) (h :
  (((decide (x1 < ((p.2.2.1).length : Int))) = true → ((((0 : Int) ≤ x1 ∧ Int.toNat x1 < (p.2.2.1).length) ∧ ((!(!(m_queueOk (gtd dQueue p.2.2.1 (Int.toNat x1))))) = true → ((0 : Int) ≤ x1 ∧ Int.toNat x1 < (p.2.2.2).length))) ∧ ((((!(m_queueOk (gtd dQueue p.2.2.1 (Int.toNat x1)))) || (!(m_queueOk (gtd dQueue p.2.2.2 (Int.toNat x1))))) = true → K (i_PipeOk_R false)) ∧ (((!(m_queueOk (gtd dQueue p.2.2.1 (Int.toNat x1)))) || (!(m_queueOk (gtd dQueue p.2.2.2 (Int.toNat x1))))) = false → (i_PipeOk_A4 K p (w64 (x1 + (1 : Int)))))))) ∧ ((decide (x1 < ((p.2.2.1).length : Int))) = false → (i_PipeOk_A6 K p (0 : Int))))) : i_PipeOk_A4 K p x1 :=
  Loop.of (by kernel_rfl) h
theorem i_PipeOk_v2 (K : TRes → Prop) (p : TPipe) (x : Int) (h :
  (((decide (x < ((p.1).length : Int))) = true → (((0 : Int) ≤ x ∧ Int.toNat x < (p.1).length) ∧ ((((!(m_vecOk ((gtd dPair p.1 (Int.toNat x)).1))) || (!(m_vecOk ((gtd dPair p.1 (Int.toNat x)).2)))) = true → K (i_PipeOk_R false)) ∧ (((!(m_vecOk ((gtd dPair p.1 (Int.toNat x)).1))) || (!(m_vecOk ((gtd dPair p.1 (Int.toNat x)).2)))) = false → (i_PipeOk_A2 K p (w64 (x + (1 : Int)))))))) ∧ ((decide (x < ((p.1).length : Int))) = false → (i_PipeOk_A4 K p (0 : Int))))) : i_PipeOk_A2 K p x :=
  Loop.of (by kernel_rfl) h
theorem i_PipeOk_v0 (K : TRes → Prop) (p : TPipe) (h :
  ((((((decide (((p.2.1).length : Int) < (1 : Int))) || (decide (((p.2.1).length : Int) > (4 : Int)))) || (((p.2.2.1).length : Int) != (w64 (((p.2.1).length : Int) - (1 : Int))))) || (((p.2.2.2).length : Int) != (w64 (((p.2.1).length : Int) - (1 : Int))))) = true → K (i_PipeOk_R false)) ∧ (((((decide (((p.2.1).length : Int) < (1 : Int))) || (decide (((p.2.1).length : Int) > (4 : Int)))) || (((p.2.2.1).length : Int) != (w64 (((p.2.1).length : Int) - (1 : Int))))) || (((p.2.2.2).length : Int) != (w64 (((p.2.1).length : Int) - (1 : Int))))) = false → ((((decide (((p.1).length : Int) < (1 : Int))) || (decide (((p.1).length : Int) > (5 : Int)))) = true → K (i_PipeOk_R false)) ∧ (((decide (((p.1).length : Int) < (1 : Int))) || (decide (((p.1).length : Int) > (5 : Int)))) = false → (i_PipeOk_A2 K p (0 : Int))))))) : Hold (tawp i_PipeOk_G 0 i_PipeOk_c (TQ 0 i_PipeOk_rs K) (tstart [(.a (Tup.cells ctPipe p))])) :=
  Hold.of (by kernel_rfl) h
theorem i_PipeOk_t (p : TPipe) (r : TRes) (h : Hold (tawp i_PipeOk_G 0 i_PipeOk_c (TQ 0 i_PipeOk_rs fun r' => r' = r) (tstart [(.a (Tup.cells ctPipe p))]))) : TCon Try.prog 109 [(.a (Tup.cells ctPipe p))] r :=
  tcon_gen (sg := [(.a ctPipe)]) mixed (TOk.cons i_VecOk_ok (TOk.cons i_QueueOk_ok (TOk.cons i_StageOk_ok TOk.nil))) i_PipeOk_st (by kernel_rfl) (by kernel_rfl) (by kernel_rfl) h
theorem i_PipeOk_h : i_PipeOk_C := by
  intro p
  refine tcon_bd rfl fun hb => i_PipeOk_t p _ (i_PipeOk_v0 _ p ?_)
  have hl_p_0 : (p.1).length ≤ 9223372036854775807 := hb.1.1.1
  have hl_p_1 : (p.2.1).length ≤ 9223372036854775807 := hb.1.2.1.1
  have hl_p_2 : (p.2.2.1).length ≤ 9223372036854775807 := hb.1.2.2.1.1
  have hl_p_3 : (p.2.2.2).length ≤ 9223372036854775807 := hb.1.2.2.2.1.1
  refine ⟨fun h => R_eq ?_, fun h => ?_⟩
  · have : (m_in p.2.1.length 1 4 && (p.2.2.1.length + 1 == p.2.1.length) && (p.2.2.2.length + 1 == p.2.1.length)) = false := by
      by_cases h0 : m_in p.2.1.length 1 4 = true
      · have h1 := m_in_iff.1 h0
        rw [w64_ok (x := (p.2.1.length : Int) - 1) (by omega) (by omega)] at h
        simp at h
        simp [h0]
        omega
      · simp at h0; simp [h0]
    simp [m_pipeOk, this]
  have h0 : m_in p.2.1.length 1 4 = true := by simp at h; simp [m_in]; omega
  have h1 := m_in_iff.1 h0
  have e1 : w64 ((p.2.1.length : Int) - 1) = p.2.1.length - 1 := w64_ok (by omega) (by omega)
  rw [e1] at h
  have ha : p.2.2.1.length + 1 = p.2.1.length ∧ p.2.2.2.length + 1 = p.2.1.length := by simp at h; omega
  refine ⟨fun h => R_eq ?_, fun h => ?_⟩
  · have : m_in p.1.length 1 5 = false := by simp at h; simp [m_in]; omega
    simp [m_pipeOk, this]
  have h2 : m_in p.1.length 1 5 = true := by simp at h; simp [m_in]; omega
  have h3 := m_in_iff.1 h2
  have val : (m_pipeOk p) = (p.1.all m_pairVec && (p.2.2.1.all m_queueOk && p.2.2.2.all m_queueOk) && pipeGo p.1.length p.2.1) := by
    simp only [m_pipeOk, h0, h2, ha]; simp
  refine allLoop (Q := fun b => selP b (i_PipeOk_A4 (fun r' => r' = i_PipeOk_R (m_pipeOk p)) p ((0 : Nat) : Int)) (i_PipeOk_R false = i_PipeOk_R (m_pipeOk p))) (p := m_pairVec) (c := fun x => (!(m_vecOk x.1)) || !(m_vecOk x.2)) (e := true) dPair hl_p_0 (fun x => by grind [m_pairVec]) (fun i h => i_PipeOk_v2 (fun r' => r' = i_PipeOk_R (m_pipeOk p)) p i h) ?_
  cases hx1 : p.1.all m_pairVec with
  | false => exact R_eq (by rw [val, hx1]; rfl)
  | true =>
    show i_PipeOk_A4 (fun r' => r' = i_PipeOk_R (m_pipeOk p)) p ((0 : Nat) : Int)
    have queues : ∀ k : Nat, ((p.2.2.1.drop k).all m_queueOk && (p.2.2.2.drop k).all m_queueOk) = (p.2.2.1.all m_queueOk && p.2.2.2.all m_queueOk) → k ≤ p.2.2.1.length → i_PipeOk_A4 (fun r' => r' = i_PipeOk_R (m_pipeOk p)) p k := by
      intro k
      generalize hn : p.2.2.1.length - k = n
      induction n generalizing k with
      | zero =>
        intro he hle
        refine i_PipeOk_v4 (fun r' => r' = i_PipeOk_R (m_pipeOk p)) p _ ⟨fun h => by simp at h; omega, fun _ => ?_⟩
        have hall : (p.2.2.1.all m_queueOk && p.2.2.2.all m_queueOk) = true := by
          rw [← he, List.drop_eq_nil_of_le (by omega), List.drop_eq_nil_of_le (by omega)]; rfl
        -- the stages
        refine listLoop p.2.1 (fun r k => pipeGo p.1.length r = pipeGo p.1.length p.2.1 → i_PipeOk_A6 (fun r' => r' = i_PipeOk_R (m_pipeOk p)) p k) ?_ ?_ rfl
        · intro he2
          refine i_PipeOk_v6 (fun r' => r' = i_PipeOk_R (m_pipeOk p)) p _ ⟨fun h => by simp at h, fun _ => R_eq ?_⟩
          rw [val, hx1, hall, ← he2]; rfl
        · intro k x r hk hlt hg ih he2
          have hmem : x ∈ p.2.1 := List.mem_of_mem_drop (i := k) (by rw [hk]; exact List.mem_cons_self)
          have hbx : x.2.1.length ≤ 9223372036854775807 := (hb.1.2.1.2 x hmem).2.1.1
          have hlast := last_eq hk hl_p_1
          rw [pipeGo] at he2
          refine i_PipeOk_v6 (fun r' => r' = i_PipeOk_R (m_pipeOk p)) p _ ⟨fun _ => ?_, fun h => by simp at h; omega⟩
          rw [Int.toNat_natCast, hg, hlast]
          refine ⟨⟨by omega, hlt⟩, fun h => R_eq ?_, fun h => ?_⟩
          · have : (m_stageOk x && (x.2.2.2.1 == decide (r.length = 0))) = false := by grind
            rw [this, Bool.false_and, Bool.false_and] at he2
            rw [val, ← he2, Bool.and_false]
          · have : (m_stageOk x && (x.2.2.2.1 == decide (r.length = 0))) = true := by grind
            rw [this, Bool.true_and] at he2
            refine allLoop (l := x.2.1) (Q := fun b => selP b (i_PipeOk_A6 (fun r' => r' = i_PipeOk_R (m_pipeOk p)) p ((k + 1 : Nat) : Int)) (i_PipeOk_R false = i_PipeOk_R (m_pipeOk p))) (p := fun y => m_in y.2 0 (p.1.length - 1)) (c := fun y => decide (y.2 < 0) || decide (y.2 ≥ (p.1.length : Int))) (e := true) dIns hbx (fun y => by grind [m_in]) (fun i h => i_PipeOk_v8 (fun r' => r' = i_PipeOk_R (m_pipeOk p)) p i k (by rw [Int.toNat_natCast, hg, w64_ok (x := (k : Int) + 1) (by omega) (by omega)]; exact h)) ?_
            cases hx : x.2.1.all (fun y => m_in y.2 0 (p.1.length - 1)) with
            | false =>
              rw [hx, Bool.false_and] at he2
              exact R_eq (by rw [val, ← he2, Bool.and_false])
            | true =>
              rw [hx, Bool.true_and] at he2
              exact ih he2
      | succ n ihn =>
        intro he hle
        obtain ⟨y, q, hq⟩ : ∃ y q, p.2.2.1.drop k = y :: q := by
          cases hq : p.2.2.1.drop k with
          | nil => have := congrArg List.length hq; simp at this; omega
          | cons y q => exact ⟨y, q, rfl⟩
        obtain ⟨z, t, hz⟩ : ∃ z t, p.2.2.2.drop k = z :: t := by
          cases hz : p.2.2.2.drop k with
          | nil => have := congrArg List.length hz; simp at this; omega
          | cons z t => exact ⟨z, t, rfl⟩
        have hlt := lt_of_drop hq
        refine i_PipeOk_v4 (fun r' => r' = i_PipeOk_R (m_pipeOk p)) p _ ⟨fun _ => ?_, fun h => by simp at h; omega⟩
        rw [Int.toNat_natCast, gtd_drop hq, gtd_drop hz, w64_ok (x := (k : Int) + 1) (by omega) (by omega)]
        have ih2 := ihn (k + 1) (by omega)
        rw [drop_succ hq, drop_succ hz] at ih2
        rw [hq, hz, List.all_cons, List.all_cons] at he
        refine ⟨⟨⟨by omega, hlt⟩, fun _ => ⟨by omega, by omega⟩⟩, fun h => R_eq ?_, fun h => ih2 ?_ (by omega)⟩
        · rw [val, ← he]; grind
        · rw [← he]; grind
    exact queues 0 rfl (Nat.zero_le _)

theorem i_PipeOk_ok : TRowOk Try.prog i_PipeOk_row := rowOk fun x _ => i_PipeOk_h x.1

end
end Go.Proofs.Ytpnblnkggeopkaa.Am
