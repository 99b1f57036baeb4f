/-
  Written by program: the code of functions, what it asks, and that it comes to what the models say.
-/
import Derived.Test.YtpnblnkggeopkaaP5
import Derived.Test.YtpnblnkggeopkaaP3
import Derived.Test.YtpnblnkggeopkaaP6
namespace Go.Proofs.Ytpnblnkggeopkaa.Am
open Go Go.RowKit Go.Proofs.Ytpnblnkggeopkaa
set_option linter.unusedVariables false
set_option linter.unusedSimpArgs false
noncomputable section

def s_WithinLimits_R (t : Bool) : TRes := ⟨(.c .bool t), [], [], false⟩
def s_WithinLimits_row : TRow := mkRow 112 [(.a ctConfig), (.a ctPipe)] fun x => (none, s_WithinLimits_R (m_withinLimits x.1 x.2.1))
def s_WithinLimits_C : Prop := ∀ (x0 : TConfig) (x1 : TPipe), TCon Try.prog 112 [(.a (Tup.cells ctConfig x0)), (.a (Tup.cells ctPipe x1))] (s_WithinLimits_R (m_withinLimits x0 x1))

/-! spec.WithinLimits -/
def s_WithinLimits_G : List TRow := [s_StagesOf_row, s_Ledger_row, s_PeakOf_row]
def s_WithinLimits_b2 : TCode :=
  (.seq (.seq (.reg [.op (some 21) (.mov (.s 5)),
     .op (some 22) (.fad (.s 3) 1),
     .op (some 23) (.load (.s 22) 1 false),
     .op (some 24) (.len (.s 23)),
     .op (some 25) (.bin .lss (.s 21) (.s 24))])
  (.cond (.s 25) .skip (.exit 0)))
 (.seq (.block 1 (.seq (.draw [.op (some 28) (.fad (.s 3) 1),
       .op (some 29) (.load (.s 28) 1 false),
       .op (some 30) (.mov (.s 5)),
       .op (some 31) (.iad (.s 29) (.s 30) ctStage),
       .op (some 32) (.load (.s 31) 14 true),
       .op (some 33) (.call 77 [(.s 32)]),
       .op (some 34) (.load (.s 2) 6 true),
       .op (some 35) (.mov (.s 5)),
       .op (some 36) (.fad (.s 3) 0),
       .op (some 37) (.load (.s 36) 1 false),
       .op (some 38) (.len (.s 37)),
       .op (some 39) (.call 81 [(.s 34), (.s 35), (.s 38)]),
       .op (some 40) (.fad (.s 2) 5),
       .op (some 41) (.load (.s 40) 1 false),
       .op (some 42) (.mov (.s 5)),
       .op (some 43) (.iad (.s 41) (.s 42) [TI]),
       .op (some 44) (.load (.s 43) 1 false),
       .op (some 45) (.mm false (.s 39) (.s 44)),
       .op (some 46) (.bin .gtr (.s 33) (.s 45))] [(5, 6), (5, 8), (5, 9), (5, 10), (5, 12), (11, 12), (5, 13), (11, 13), (5, 15), (11, 15), (5, 16), (11, 16)])
    (.cond (.s 46) (.seq (.reg [.op (some 4) (.mov (.k (.c .bool false)))])
      .ret) .skip)))
  (.reg [.op (some 26) (.mov (.s 5)),
     .op (some 27) (.bin .add (.s 26) (.k (.c TI (1 : Int)))),
     .op (some 5) (.mov (.s 27))])))
def s_WithinLimits_L2 : List (Nat × Md) := [(2, .b [.d, .d, .d, .d, .d, .d]), (3, .b [.d, .d, .d, .d]), (5, .one .d)]
def s_WithinLimits_y1 : TCode :=
  (.seq (.reg [.op (some 4) (.mov (.k (.c .bool true)))])
 .ret)
def s_WithinLimits_c : TCode :=
  (.seq (.reg [.op (some 2) (.box 83 (.s 0) 6),
    .op (some 3) (.box 123 (.s 1) 4),
    .op (some 4) (.mov (.k (.c .bool false)))])
 (.seq (.seq (.draw [.op (some 6) (.fad (.s 3) 1),
      .op (some 7) (.load (.s 6) 1 false),
      .op (some 8) (.len (.s 7)),
      .op (some 9) (.load (.s 2) 6 true),
      .op (some 10) (.call 68 [(.s 9)]),
      .op (some 11) (.bin .neq (.s 8) (.s 10)),
      .op (some 12) (.mov (.s 11)),
      .grp 12 false [.op (some 13) (.fad (.s 2) 5), .op (some 14) (.load (.s 13) 1 false), .op (some 15) (.len (.s 14)), .op (some 16) (.fad (.s 3) 1), .op (some 17) (.load (.s 16) 1 false), .op (some 18) (.len (.s 17)), .op (some 19) (.bin .neq (.s 15) (.s 18))] 20 (.s 19)] [(0, 4), (1, 4), (2, 4)])
   (.cond (.s 20) (.seq (.reg [.op (some 4) (.mov (.k (.c .bool false)))])
     .ret) .skip))
  (.seq (.seq (.reg [.op (some 5) (.mov (.k (.c TI (0 : Int))))])
    (.block 0 (.loop s_WithinLimits_L2 s_WithinLimits_b2)))
   s_WithinLimits_y1)))
def s_WithinLimits_rs : List (ARv × Md) := [(.t 4, .one .d)]
theorem s_WithinLimits_st : compF Try.prog 112 = some (s_WithinLimits_c.er, s_WithinLimits_rs.map Prod.fst, 47) := by kernel_rfl
def s_WithinLimits_Q (K : TRes → Prop) : TPost := TQ 0 s_WithinLimits_rs K
def s_WithinLimits_q1 (K : TRes → Prop) : TPost := Qseq (tawp s_WithinLimits_G 0 s_WithinLimits_y1 (s_WithinLimits_Q K)) (s_WithinLimits_Q K)
def s_WithinLimits_q2 (K : TRes → Prop) : TPost := Qblk 0 (s_WithinLimits_q1 K)
def s_WithinLimits_A2 (K : TRes → Prop) (c : TConfig) (p : TPipe) (s : Int) : Prop := Loop s_WithinLimits_G 0 s_WithinLimits_L2 s_WithinLimits_b2 (s_WithinLimits_q2 K) ⟨[(2, (.p 0 0 0)), (3, (.p 1 0 0)), (5, (.c TI s))], [(0, (.box [(.c (.sl ctOp) c.1), (.c (.sl [TI]) c.2.1), (.c TI c.2.2.1), (.c (.sl [.bool]) c.2.2.2.1), (.c (.sl [TI]) c.2.2.2.2.1), (.c (.sl [TI]) c.2.2.2.2.2)])), (1, (.box [(.c (.sl ctPair) p.1), (.c (.sl ctStage) p.2.1), (.c (.sl ctQueue) p.2.2.1), (.c (.sl ctQueue) p.2.2.2)]))], 2⟩
theorem s_WithinLimits_v2 (K : TRes → Prop) (c : TConfig) (p : TPipe) (s : Int) (h :
  (((decide (s < ((p.2.1).length : Int))) = true → ((((0 : Int) ≤ s ∧ Int.toNat s < (p.2.1).length) ∧ ((0 : Int) ≤ s ∧ Int.toNat s < (c.2.2.2.2.2).length)) ∧ (((decide ((m_ledger (gtd dStage p.2.1 (Int.toNat s))) > (if (gtd (0 : Int) c.2.2.2.2.2 (Int.toNat s)) < (m_peakOf c s ((p.1).length : Int)) then (gtd (0 : Int) c.2.2.2.2.2 (Int.toNat s)) else (m_peakOf c s ((p.1).length : Int))))) = true → K (s_WithinLimits_R false)) ∧ ((decide ((m_ledger (gtd dStage p.2.1 (Int.toNat s))) > (if (gtd (0 : Int) c.2.2.2.2.2 (Int.toNat s)) < (m_peakOf c s ((p.1).length : Int)) then (gtd (0 : Int) c.2.2.2.2.2 (Int.toNat s)) else (m_peakOf c s ((p.1).length : Int))))) = false → (s_WithinLimits_A2 K c p (w64 (s + (1 : Int)))))))) ∧ ((decide (s < ((p.2.1).length : Int))) = false → K (s_WithinLimits_R true)))) : s_WithinLimits_A2 K c p s :=
  Loop.of (by kernel_rfl) h
theorem s_WithinLimits_v0 (K : TRes → Prop) (c : TConfig) (p : TPipe) (h :
  ((((((p.2.1).length : Int) != (m_stagesOf c)) || (((c.2.2.2.2.2).length : Int) != ((p.2.1).length : Int))) = true → K (s_WithinLimits_R false)) ∧ (((((p.2.1).length : Int) != (m_stagesOf c)) || (((c.2.2.2.2.2).length : Int) != ((p.2.1).length : Int))) = false → (s_WithinLimits_A2 K c p (0 : Int))))) : Hold (tawp s_WithinLimits_G 0 s_WithinLimits_c (TQ 0 s_WithinLimits_rs K) (tstart [(.a (Tup.cells ctConfig c)), (.a (Tup.cells ctPipe p))])) :=
  Hold.of (by kernel_rfl) h
theorem s_WithinLimits_t (c : TConfig) (p : TPipe) (r : TRes) (h : Hold (tawp s_WithinLimits_G 0 s_WithinLimits_c (TQ 0 s_WithinLimits_rs fun r' => r' = r) (tstart [(.a (Tup.cells ctConfig c)), (.a (Tup.cells ctPipe p))]))) : TCon Try.prog 112 [(.a (Tup.cells ctConfig c)), (.a (Tup.cells ctPipe p))] r :=
  tcon_gen (sg := [(.a ctConfig), (.a ctPipe)]) mixed (TOk.cons s_StagesOf_ok (TOk.cons s_Ledger_ok (TOk.cons s_PeakOf_ok TOk.nil))) s_WithinLimits_st (by kernel_rfl) (by kernel_rfl) (by kernel_rfl) h
theorem s_WithinLimits_h : s_WithinLimits_C := by
  intro c p
  refine tcon_bd rfl fun hb => s_WithinLimits_t c p _ (s_WithinLimits_v0 _ c p ?_)
  have hl_c_0 : (c.1).length ≤ 9223372036854775807 := hb.1.1.1
  have hl_c_1 : (c.2.1).length ≤ 9223372036854775807 := hb.1.2.1.1
  have hl_c_3 : (c.2.2.2.1).length ≤ 9223372036854775807 := hb.1.2.2.2.1.1
  have hl_c_4 : (c.2.2.2.2.1).length ≤ 9223372036854775807 := hb.1.2.2.2.2.1.1
  have hl_c_5 : (c.2.2.2.2.2).length ≤ 9223372036854775807 := hb.1.2.2.2.2.2.1.1
  have hl_p_0 : (p.1).length ≤ 9223372036854775807 := hb.2.1.1.1
  have hl_p_1 : (p.2.1).length ≤ 9223372036854775807 := hb.2.1.2.1.1
  have hl_p_2 : (p.2.2.1).length ≤ 9223372036854775807 := hb.2.1.2.2.1.1
  have hl_p_3 : (p.2.2.2).length ≤ 9223372036854775807 := hb.2.1.2.2.2.1.1
  refine ⟨fun h => R_eq (by grind [m_withinLimits]), fun h => ?_⟩
  have h1 : ((p.2.1.length : Int) = m_stagesOf c) ∧ ((c.2.2.2.2.2.length : Int) = m_stagesOf c) := by grind
  refine listLoop p.2.1 (fun r k => withinGo c p.1.length r k = withinGo c p.1.length p.2.1 0 → s_WithinLimits_A2 (fun r' => r' = s_WithinLimits_R (m_withinLimits c p)) c p k) ?_ ?_ rfl
  · intro he
    refine s_WithinLimits_v2 (fun r' => r' = s_WithinLimits_R (m_withinLimits c p)) c p _ ⟨fun h => by simp at h, fun _ => R_eq ?_⟩
    grind [m_withinLimits, withinGo]
  · intro k x r hk hlt hg ih he
    refine s_WithinLimits_v2 (fun r' => r' = s_WithinLimits_R (m_withinLimits c p)) c p _ ⟨fun _ => ?_, fun h => by simp at h; omega⟩
    rw [Int.toNat_natCast, hg, w64_ok (x := (k : Int) + 1) (by omega) (by omega)]
    rw [withinGo, Int.toNat_natCast] at he
    refine ⟨⟨⟨by omega, hlt⟩, by omega, by omega⟩, fun h => R_eq ?_, fun h => ih ?_⟩
    · grind [m_withinLimits, iMin]
    · grind [iMin]

theorem s_WithinLimits_ok : TRowOk Try.prog s_WithinLimits_row := rowOk fun x _ => s_WithinLimits_h x.1 x.2.1

def i_WithinLimits_R (t : Bool) : TRes := ⟨(.c .bool t), [], [], false⟩
def i_WithinLimits_row : TRow := mkRow 113 [(.a ctConfig), (.a ctPipe)] fun x => (none, i_WithinLimits_R (m_withinLimits x.1 x.2.1))
def i_WithinLimits_C : Prop := ∀ (x0 : TConfig) (x1 : TPipe), TCon Try.prog 113 [(.a (Tup.cells ctConfig x0)), (.a (Tup.cells ctPipe x1))] (i_WithinLimits_R (m_withinLimits x0 x1))

/-! impl.WithinLimits -/
def i_WithinLimits_G : List TRow := [i_StagesOf_row, i_Ledger_row, i_PeakOf_row]
def i_WithinLimits_b2 : TCode :=
  (.seq (.reg [.op (some 26) (.bin .lss (.s 25) (.s 24))])
 (.seq (.cond (.s 26) .skip (.exit 0))
  (.seq (.block 1 (.seq (.reg [.op (some 27) (.mov (.s 25)),
        .op (some 28) (.iad (.s 23) (.s 25) ctStage),
        .op (some 29) (.load (.s 28) 14 true),
        .op (some 7) (.new 100 [(.c TI (0 : Int)), (.n ctIns), (.n ctOp), (.c .bool false), (.c .bool false), (.n ctSaved), (.n [(.sl [TI])]), (.n [TI]), (.n [TI]), (.n [TI]), (.n [TI]), (.n [(.sl [TI])]), (.c TI (0 : Int)), (.c .bool false)]),
        .op (some 6) (.mov (.s 27)),
        .op none (.store (.s 7) (.s 29) 14)])
     (.seq (.draw [.op (some 30) (.load (.s 7) 14 true),
         .op (some 31) (.call 79 [(.s 30)]),
         .op (some 32) (.load (.s 2) 6 true),
         .op (some 33) (.mov (.s 6)),
         .op (some 34) (.fad (.s 3) 0),
         .op (some 35) (.load (.s 34) 1 false),
         .op (some 36) (.len (.s 35)),
         .op (some 37) (.call 82 [(.s 32), (.s 33), (.s 36)]),
         .op (some 38) (.fad (.s 2) 5),
         .op (some 39) (.load (.s 38) 1 false),
         .op (some 40) (.mov (.s 6)),
         .op (some 41) (.iad (.s 39) (.s 40) [TI]),
         .op (some 42) (.load (.s 41) 1 false),
         .op (some 43) (.mm false (.s 37) (.s 42)),
         .op (some 44) (.bin .gtr (.s 31) (.s 43))] [(1, 2), (1, 4), (1, 5), (1, 6), (1, 8), (7, 8), (1, 9), (7, 9), (1, 11), (7, 11), (1, 12), (7, 12)])
      (.cond (.s 44) (.seq (.reg [.op (some 4) (.mov (.k (.c .bool false)))])
        .ret) .skip))))
   (.reg [.op (some 45) (.bin .add (.s 25) (.k (.c TI (1 : Int)))),
      .op (some 25) (.mov (.s 45))]))))
def i_WithinLimits_L2 : List (Nat × Md) := [(2, .b [.d, .d, .d, .d, .d, .d]), (3, .b [.d, .d, .d, .d]), (23, .one .d), (24, .one .d), (25, .one .d)]
def i_WithinLimits_y1 : TCode :=
  (.seq (.reg [.op (some 4) (.mov (.k (.c .bool true)))])
 .ret)
def i_WithinLimits_c : TCode :=
  (.seq (.reg [.op (some 2) (.box 83 (.s 0) 6),
    .op (some 3) (.box 123 (.s 1) 4),
    .op (some 4) (.mov (.k (.c .bool false)))])
 (.seq (.reg [.op (some 8) (.load (.s 2) 6 true),
     .op (some 9) (.call 70 [(.s 8)]),
     .op (some 5) (.mov (.s 9))])
  (.seq (.seq (.reg [.op (some 10) (.fad (.s 3) 1),
       .op (some 11) (.load (.s 10) 1 false),
       .op (some 12) (.len (.s 11)),
       .op (some 13) (.mov (.s 5)),
       .op (some 14) (.bin .neq (.s 12) (.s 13)),
       .op (some 15) (.mov (.s 14)),
       .grp 15 false [.op (some 16) (.fad (.s 2) 5), .op (some 17) (.load (.s 16) 1 false), .op (some 18) (.len (.s 17)), .op (some 19) (.mov (.s 5)), .op (some 20) (.bin .neq (.s 18) (.s 19))] 21 (.s 20)])
    (.cond (.s 21) (.seq (.reg [.op (some 4) (.mov (.k (.c .bool false)))])
      .ret) .skip))
   (.seq (.seq (.reg [.op (some 22) (.fad (.s 3) 1),
        .op (some 23) (.load (.s 22) 1 false),
        .op (some 24) (.len (.s 23)),
        .op (some 25) (.mov (.k (.c TI (0 : Int))))])
     (.block 0 (.loop i_WithinLimits_L2 i_WithinLimits_b2)))
    i_WithinLimits_y1))))
def i_WithinLimits_rs : List (ARv × Md) := [(.t 4, .one .d)]
theorem i_WithinLimits_st : compF Try.prog 113 = some (i_WithinLimits_c.er, i_WithinLimits_rs.map Prod.fst, 46) := by kernel_rfl
def i_WithinLimits_Q (K : TRes → Prop) : TPost := TQ 0 i_WithinLimits_rs K
def i_WithinLimits_q1 (K : TRes → Prop) : TPost := Qseq (tawp i_WithinLimits_G 0 i_WithinLimits_y1 (i_WithinLimits_Q K)) (i_WithinLimits_Q K)
def i_WithinLimits_q2 (K : TRes → Prop) : TPost := Qblk 0 (i_WithinLimits_q1 K)
def i_WithinLimits_A2 (K : TRes → Prop) (c : TConfig) (p : TPipe) (x : Int) : Prop := Loop i_WithinLimits_G 0 i_WithinLimits_L2 i_WithinLimits_b2 (i_WithinLimits_q2 K) ⟨[(2, (.p 0 0 0)), (3, (.p 1 0 0)), (23, (.c (.sl ctStage) p.2.1)), (24, (.c TI ((p.2.1).length : Int))), (25, (.c TI x))], [(0, (.box [(.c (.sl ctOp) c.1), (.c (.sl [TI]) c.2.1), (.c TI c.2.2.1), (.c (.sl [.bool]) c.2.2.2.1), (.c (.sl [TI]) c.2.2.2.2.1), (.c (.sl [TI]) c.2.2.2.2.2)])), (1, (.box [(.c (.sl ctPair) p.1), (.c (.sl ctStage) p.2.1), (.c (.sl ctQueue) p.2.2.1), (.c (.sl ctQueue) p.2.2.2)]))], 2⟩
theorem i_WithinLimits_v2 (K : TRes → Prop) (c : TConfig) (p : TPipe) (x : Int) (h :
  (((decide (x < ((p.2.1).length : Int))) = true → (((0 : Int) ≤ x ∧ Int.toNat x < (p.2.1).length) ∧ (((0 : Int) ≤ x ∧ Int.toNat x < (c.2.2.2.2.2).length) ∧ (((decide ((m_ledger (gtd dStage p.2.1 (Int.toNat x))) > (if (gtd (0 : Int) c.2.2.2.2.2 (Int.toNat x)) < (m_peakOf c x ((p.1).length : Int)) then (gtd (0 : Int) c.2.2.2.2.2 (Int.toNat x)) else (m_peakOf c x ((p.1).length : Int))))) = true → K (i_WithinLimits_R false)) ∧ ((decide ((m_ledger (gtd dStage p.2.1 (Int.toNat x))) > (if (gtd (0 : Int) c.2.2.2.2.2 (Int.toNat x)) < (m_peakOf c x ((p.1).length : Int)) then (gtd (0 : Int) c.2.2.2.2.2 (Int.toNat x)) else (m_peakOf c x ((p.1).length : Int))))) = false → (i_WithinLimits_A2 K c p (w64 (x + (1 : Int))))))))) ∧ ((decide (x < ((p.2.1).length : Int))) = false → K (i_WithinLimits_R true)))) : i_WithinLimits_A2 K c p x :=
  Loop.of (by kernel_rfl) h
theorem i_WithinLimits_v0 (K : TRes → Prop) (c : TConfig) (p : TPipe) (h :
  ((((((p.2.1).length : Int) != (m_stagesOf c)) || (((c.2.2.2.2.2).length : Int) != (m_stagesOf c))) = true → K (i_WithinLimits_R false)) ∧ (((((p.2.1).length : Int) != (m_stagesOf c)) || (((c.2.2.2.2.2).length : Int) != (m_stagesOf c))) = false → (i_WithinLimits_A2 K c p (0 : Int))))) : Hold (tawp i_WithinLimits_G 0 i_WithinLimits_c (TQ 0 i_WithinLimits_rs K) (tstart [(.a (Tup.cells ctConfig c)), (.a (Tup.cells ctPipe p))])) :=
  Hold.of (by kernel_rfl) h
theorem i_WithinLimits_t (c : TConfig) (p : TPipe) (r : TRes) (h : Hold (tawp i_WithinLimits_G 0 i_WithinLimits_c (TQ 0 i_WithinLimits_rs fun r' => r' = r) (tstart [(.a (Tup.cells ctConfig c)), (.a (Tup.cells ctPipe p))]))) : TCon Try.prog 113 [(.a (Tup.cells ctConfig c)), (.a (Tup.cells ctPipe p))] r :=
  tcon_gen (sg := [(.a ctConfig), (.a ctPipe)]) mixed (TOk.cons i_StagesOf_ok (TOk.cons i_Ledger_ok (TOk.cons i_PeakOf_ok TOk.nil))) i_WithinLimits_st (by kernel_rfl) (by kernel_rfl) (by kernel_rfl) h
theorem i_WithinLimits_h : i_WithinLimits_C := by
  intro c p
  refine tcon_bd rfl fun hb => i_WithinLimits_t c p _ (i_WithinLimits_v0 _ c p ?_)
  have hl_c_0 : (c.1).length ≤ 9223372036854775807 := hb.1.1.1
  have hl_c_1 : (c.2.1).length ≤ 9223372036854775807 := hb.1.2.1.1
  have hl_c_3 : (c.2.2.2.1).length ≤ 9223372036854775807 := hb.1.2.2.2.1.1
  have hl_c_4 : (c.2.2.2.2.1).length ≤ 9223372036854775807 := hb.1.2.2.2.2.1.1
  have hl_c_5 : (c.2.2.2.2.2).length ≤ 9223372036854775807 := hb.1.2.2.2.2.2.1.1
  have hl_p_0 : (p.1).length ≤ 9223372036854775807 := hb.2.1.1.1
  have hl_p_1 : (p.2.1).length ≤ 9223372036854775807 := hb.2.1.2.1.1
  have hl_p_2 : (p.2.2.1).length ≤ 9223372036854775807 := hb.2.1.2.2.1.1
  have hl_p_3 : (p.2.2.2).length ≤ 9223372036854775807 := hb.2.1.2.2.2.1.1
  refine ⟨fun h => R_eq (by grind [m_withinLimits]), fun h => ?_⟩
  have h1 : ((p.2.1.length : Int) = m_stagesOf c) ∧ ((c.2.2.2.2.2.length : Int) = m_stagesOf c) := by grind
  refine listLoop p.2.1 (fun r k => withinGo c p.1.length r k = withinGo c p.1.length p.2.1 0 → i_WithinLimits_A2 (fun r' => r' = i_WithinLimits_R (m_withinLimits c p)) c p k) ?_ ?_ rfl
  · intro he
    refine i_WithinLimits_v2 (fun r' => r' = i_WithinLimits_R (m_withinLimits c p)) c p _ ⟨fun h => by simp at h, fun _ => R_eq ?_⟩
    grind [m_withinLimits, withinGo]
  · intro k x r hk hlt hg ih he
    refine i_WithinLimits_v2 (fun r' => r' = i_WithinLimits_R (m_withinLimits c p)) c p _ ⟨fun _ => ?_, fun h => by simp at h; omega⟩
    rw [Int.toNat_natCast, hg, w64_ok (x := (k : Int) + 1) (by omega) (by omega)]
    rw [withinGo, Int.toNat_natCast] at he
    refine ⟨⟨by omega, hlt⟩, ⟨by omega, by omega⟩, fun h => R_eq ?_, fun h => ih ?_⟩
    · grind [m_withinLimits, iMin]
    · grind [iMin]

theorem i_WithinLimits_ok : TRowOk Try.prog i_WithinLimits_row := rowOk fun x _ => i_WithinLimits_h x.1 x.2.1

end
end Go.Proofs.Ytpnblnkggeopkaa.Am
