/-
  Written by program: the code of functions, what it asks, and that it comes to what the models say.
-/
import Derived.Test.YtpnblnkggeopkaaP5
import Derived.Test.YtpnblnkggeopkaaP6
import Derived.Test.YtpnblnkggeopkaaP4
import Derived.Test.YtpnblnkggeopkaaP1
namespace Go.Proofs.Ytpnblnkggeopkaa.Am
open Go Go.RowKit Go.Proofs.Ytpnblnkggeopkaa
set_option linter.unusedVariables false
set_option linter.unusedSimpArgs false
noncomputable section

def i_capsOk_R (t : Bool) : TRes := ⟨(.c .bool t), [], [], false⟩
def i_capsOk_row : TRow := mkRow 163 [(.a ctConfig)] fun x => (none, i_capsOk_R (m_capsOk x.1))
def i_capsOk_C : Prop := ∀ (x0 : TConfig), TCon Try.prog 163 [(.a (Tup.cells ctConfig x0))] (i_capsOk_R (m_capsOk x0))

/-! impl.capsOk -/
def i_capsOk_G : List TRow := []
def i_capsOk_b2 : TCode :=
  (.seq (.reg [.op (some 16) (.bin .lss (.s 15) (.s 14))])
 (.seq (.cond (.s 16) .skip (.exit 0))
  (.seq (.block 1 (.seq (.reg [.op (some 17) (.iad (.s 13) (.s 15) [TI]),
        .op (some 18) (.load (.s 17) 1 false),
        .op (some 4) (.mov (.s 18))])
     (.seq (.reg [.op (some 19) (.mov (.s 4)),
         .op (some 20) (.bin .lss (.s 19) (.k (.c TI (1 : Int)))),
         .op (some 21) (.mov (.s 20)),
         .grp 21 false [.op (some 22) (.mov (.s 4)), .op (some 23) (.bin .gtr (.s 22) (.k (.c TI (5 : Int))))] 24 (.s 23)])
      (.cond (.s 24) (.seq (.reg [.op (some 2) (.mov (.k (.c .bool false)))])
        .ret) .skip))))
   (.reg [.op (some 25) (.bin .add (.s 15) (.k (.c TI (1 : Int)))),
      .op (some 15) (.mov (.s 25))]))))
def i_capsOk_L2 : List (Nat × Md) := [(13, .one .d), (14, .one .d), (15, .one .d)]
def i_capsOk_y1 : TCode :=
  (.seq (.reg [.op (some 2) (.mov (.k (.c .bool true)))])
 .ret)
def i_capsOk_c : TCode :=
  (.seq (.reg [.op (some 1) (.box 83 (.s 0) 6),
    .op (some 2) (.mov (.k (.c .bool false)))])
 (.seq (.seq (.reg [.op (some 5) (.fad (.s 1) 4),
      .op (some 6) (.load (.s 5) 1 false),
      .op (some 7) (.len (.s 6)),
      .op (some 8) (.fad (.s 1) 1),
      .op (some 9) (.load (.s 8) 1 false),
      .op (some 10) (.len (.s 9)),
      .op (some 11) (.bin .neq (.s 7) (.s 10))])
   (.cond (.s 11) (.seq (.reg [.op (some 2) (.mov (.k (.c .bool false)))])
     .ret) .skip))
  (.seq (.seq (.reg [.op (some 12) (.fad (.s 1) 4),
       .op (some 13) (.load (.s 12) 1 false),
       .op (some 14) (.len (.s 13)),
       .op (some 15) (.mov (.k (.c TI (0 : Int))))])
    (.block 0 (.loop i_capsOk_L2 i_capsOk_b2)))
   i_capsOk_y1)))
def i_capsOk_rs : List (ARv × Md) := [(.t 2, .one .d)]
theorem i_capsOk_st : compF Try.prog 163 = some (i_capsOk_c.er, i_capsOk_rs.map Prod.fst, 26) := by kernel_rfl
def i_capsOk_Q (K : TRes → Prop) : TPost := TQ 0 i_capsOk_rs K
def i_capsOk_q1 (K : TRes → Prop) : TPost := Qseq (tawp i_capsOk_G 0 i_capsOk_y1 (i_capsOk_Q K)) (i_capsOk_Q K)
def i_capsOk_q2 (K : TRes → Prop) : TPost := Qblk 0 (i_capsOk_q1 K)
def i_capsOk_A2 (K : TRes → Prop) (c : TConfig) (x : Int) : Prop := Loop i_capsOk_G 0 i_capsOk_L2 i_capsOk_b2 (i_capsOk_q2 K) ⟨[(13, (.c (.sl [TI]) c.2.2.2.2.1)), (14, (.c TI ((c.2.2.2.2.1).length : Int))), (15, (.c TI x))], [], 0⟩
theorem i_capsOk_v2 (K : TRes → Prop) (c : TConfig) (x : Int) (h :
  (((decide (x < ((c.2.2.2.2.1).length : Int))) = true → (((0 : Int) ≤ x ∧ Int.toNat x < (c.2.2.2.2.1).length) ∧ ((((decide ((gtd (0 : Int) c.2.2.2.2.1 (Int.toNat x)) < (1 : Int))) || (decide ((gtd (0 : Int) c.2.2.2.2.1 (Int.toNat x)) > (5 : Int)))) = true → K (i_capsOk_R false)) ∧ (((decide ((gtd (0 : Int) c.2.2.2.2.1 (Int.toNat x)) < (1 : Int))) || (decide ((gtd (0 : Int) c.2.2.2.2.1 (Int.toNat x)) > (5 : Int)))) = false → (i_capsOk_A2 K c (w64 (x + (1 : Int)))))))) ∧ ((decide (x < ((c.2.2.2.2.1).length : Int))) = false → K (i_capsOk_R true)))) : i_capsOk_A2 K c x :=
  Loop.of (by kernel_rfl) h
theorem i_capsOk_v0 (K : TRes → Prop) (c : TConfig) (h :
  (((((c.2.2.2.2.1).length : Int) != ((c.2.1).length : Int)) = true → K (i_capsOk_R false)) ∧ ((((c.2.2.2.2.1).length : Int) != ((c.2.1).length : Int)) = false → (i_capsOk_A2 K c (0 : Int))))) : Hold (tawp i_capsOk_G 0 i_capsOk_c (TQ 0 i_capsOk_rs K) (tstart [(.a (Tup.cells ctConfig c))])) :=
  Hold.of (by kernel_rfl) h
theorem i_capsOk_t (c : TConfig) (r : TRes) (h : Hold (tawp i_capsOk_G 0 i_capsOk_c (TQ 0 i_capsOk_rs fun r' => r' = r) (tstart [(.a (Tup.cells ctConfig c))]))) : TCon Try.prog 163 [(.a (Tup.cells ctConfig c))] r :=
  tcon_gen (sg := [(.a ctConfig)]) mixed TOk.nil i_capsOk_st (by kernel_rfl) (by kernel_rfl) (by kernel_rfl) h
theorem i_capsOk_h : i_capsOk_C := by
  intro c
  refine tcon_bd rfl fun hb => i_capsOk_t c _ (i_capsOk_v0 _ c ?_)
  have hl_c_0 : (c.1).length ≤ 9223372036854775807 := hb.1.1.1
  have hl_c_1 : (c.2.1).length ≤ 9223372036854775807 := hb.1.2.1.1
  have hl_c_3 : (c.2.2.2.1).length ≤ 9223372036854775807 := hb.1.2.2.2.1.1
  have hl_c_4 : (c.2.2.2.2.1).length ≤ 9223372036854775807 := hb.1.2.2.2.2.1.1
  have hl_c_5 : (c.2.2.2.2.2).length ≤ 9223372036854775807 := hb.1.2.2.2.2.2.1.1
  refine ⟨fun h => R_eq (by grind [m_capsOk]), fun h => ?_⟩
  have hl : (c.2.2.2.2.1.length == c.2.1.length) = true := by
    have h : ((c.2.2.2.2.1.length : Int) == (c.2.1.length : Int)) = true := by simpa [bne] using h
    have := of_decide_eq_true (by simpa using h : decide ((c.2.2.2.2.1.length : Int) = c.2.1.length) = true)
    simp; omega
  exact allLoop (Q := fun x => i_capsOk_R x = i_capsOk_R (m_capsOk c)) (p := fun n => m_in n 1 5) (c := fun n => decide (n < 1) || decide (n > 5)) 0 hl_c_4 (by intro x; grind [m_in]) (fun i h => i_capsOk_v2 (fun r' => r' = i_capsOk_R (m_capsOk c)) c i h) (R_eq (by simp [m_capsOk]; intro _; simpa using hl))

theorem i_capsOk_ok : TRowOk Try.prog i_capsOk_row := rowOk fun x _ => i_capsOk_h x.1

def i_limitsOk_R (t : Bool) : TRes := ⟨(.c .bool t), [], [], false⟩
def i_limitsOk_row : TRow := mkRow 164 [(.a ctConfig), (.c TI)] fun x => (none, i_limitsOk_R (m_limitsOk x.1 x.2.1))
def i_limitsOk_C : Prop := ∀ (x0 : TConfig) (x1 : Int), TCon Try.prog 164 [(.a (Tup.cells ctConfig x0)), (.c TI x1)] (i_limitsOk_R (m_limitsOk x0 x1))

/-! impl.limitsOk -/
def i_limitsOk_G : List TRow := [i_StagesOf_row, i_PeakOf_row]
def i_limitsOk_b2 : TCode :=
  (.seq (.reg [.op (some 17) (.bin .lss (.s 16) (.s 15))])
 (.seq (.cond (.s 17) .skip (.exit 0))
  (.seq (.block 1 (.seq (.reg [.op (some 18) (.mov (.s 16)),
        .op (some 19) (.iad (.s 14) (.s 16) [TI]),
        .op (some 20) (.load (.s 19) 1 false),
        .op (some 5) (.mov (.s 18)),
        .op (some 6) (.mov (.s 20))])
     (.seq (.reg [.op (some 21) (.mov (.s 6)),
         .op (some 22) (.load (.s 2) 6 true),
         .op (some 23) (.mov (.s 5)),
         .op (some 24) (.mov (.s 1)),
         .op (some 25) (.call 82 [(.s 22), (.s 23), (.s 24)]),
         .op (some 26) (.bin .lss (.s 21) (.s 25)),
         .op (some 27) (.mov (.s 26)),
         .grp 27 false [.op (some 28) (.mov (.s 6)), .op (some 29) (.bin .gtr (.s 28) (.k (.c TI (100000 : Int))))] 30 (.s 29)])
      (.cond (.s 30) (.seq (.reg [.op (some 4) (.mov (.k (.c .bool false)))])
        .ret) .skip))))
   (.reg [.op (some 31) (.bin .add (.s 16) (.k (.c TI (1 : Int)))),
      .op (some 16) (.mov (.s 31))]))))
def i_limitsOk_L2 : List (Nat × Md) := [(1, .one .d), (2, .b [.d, .d, .d, .d, .d, .d]), (14, .one .d), (15, .one .d), (16, .one .d)]
def i_limitsOk_y1 : TCode :=
  (.seq (.reg [.op (some 4) (.mov (.k (.c .bool true)))])
 .ret)
def i_limitsOk_c : TCode :=
  (.seq (.reg [.op (some 2) (.box 83 (.s 0) 6),
    .op (some 4) (.mov (.k (.c .bool false)))])
 (.seq (.seq (.draw [.op (some 7) (.fad (.s 2) 5),
      .op (some 8) (.load (.s 7) 1 false),
      .op (some 9) (.len (.s 8)),
      .op (some 10) (.load (.s 2) 6 true),
      .op (some 11) (.call 70 [(.s 10)]),
      .op (some 12) (.bin .neq (.s 9) (.s 11))] [(0, 4), (1, 4), (2, 4)])
   (.cond (.s 12) (.seq (.reg [.op (some 4) (.mov (.k (.c .bool false)))])
     .ret) .skip))
  (.seq (.seq (.reg [.op (some 13) (.fad (.s 2) 5),
       .op (some 14) (.load (.s 13) 1 false),
       .op (some 15) (.len (.s 14)),
       .op (some 16) (.mov (.k (.c TI (0 : Int))))])
    (.block 0 (.loop i_limitsOk_L2 i_limitsOk_b2)))
   i_limitsOk_y1)))
def i_limitsOk_rs : List (ARv × Md) := [(.t 4, .one .d)]
theorem i_limitsOk_st : compF Try.prog 164 = some (i_limitsOk_c.er, i_limitsOk_rs.map Prod.fst, 32) := by kernel_rfl
def i_limitsOk_Q (K : TRes → Prop) : TPost := TQ 0 i_limitsOk_rs K
def i_limitsOk_q1 (K : TRes → Prop) : TPost := Qseq (tawp i_limitsOk_G 0 i_limitsOk_y1 (i_limitsOk_Q K)) (i_limitsOk_Q K)
def i_limitsOk_q2 (K : TRes → Prop) : TPost := Qblk 0 (i_limitsOk_q1 K)
def i_limitsOk_A2 (K : TRes → Prop) (c : TConfig) (micro : Int) (x : Int) : Prop := Loop i_limitsOk_G 0 i_limitsOk_L2 i_limitsOk_b2 (i_limitsOk_q2 K) ⟨[(1, (.c TI micro)), (2, (.p 0 0 0)), (14, (.c (.sl [TI]) c.2.2.2.2.2)), (15, (.c TI ((c.2.2.2.2.2).length : Int))), (16, (.c TI x))], [(0, (.box [(.c (.sl ctOp) c.1), (.c (.sl [TI]) c.2.1), (.c TI c.2.2.1), (.c (.sl [.bool]) c.2.2.2.1), (.c (.sl [TI]) c.2.2.2.2.1), (.c (.sl [TI]) c.2.2.2.2.2)]))], 1⟩
theorem i_limitsOk_v2 (K : TRes → Prop) (c : TConfig) (micro : Int) (x : Int) (h :
  (((decide (x < ((c.2.2.2.2.2).length : Int))) = true → (((0 : Int) ≤ x ∧ Int.toNat x < (c.2.2.2.2.2).length) ∧ ((((decide ((gtd (0 : Int) c.2.2.2.2.2 (Int.toNat x)) < (m_peakOf c x micro))) || (decide ((gtd (0 : Int) c.2.2.2.2.2 (Int.toNat x)) > (100000 : Int)))) = true → K (i_limitsOk_R false)) ∧ (((decide ((gtd (0 : Int) c.2.2.2.2.2 (Int.toNat x)) < (m_peakOf c x micro))) || (decide ((gtd (0 : Int) c.2.2.2.2.2 (Int.toNat x)) > (100000 : Int)))) = false → (i_limitsOk_A2 K c micro (w64 (x + (1 : Int)))))))) ∧ ((decide (x < ((c.2.2.2.2.2).length : Int))) = false → K (i_limitsOk_R true)))) : i_limitsOk_A2 K c micro x :=
  Loop.of (by kernel_rfl) h
theorem i_limitsOk_v0 (K : TRes → Prop) (c : TConfig) (micro : Int) (h :
  (((((c.2.2.2.2.2).length : Int) != (m_stagesOf c)) = true → K (i_limitsOk_R false)) ∧ ((((c.2.2.2.2.2).length : Int) != (m_stagesOf c)) = false → (i_limitsOk_A2 K c micro (0 : Int))))) : Hold (tawp i_limitsOk_G 0 i_limitsOk_c (TQ 0 i_limitsOk_rs K) (tstart [(.a (Tup.cells ctConfig c)), (.c TI micro)])) :=
  Hold.of (by kernel_rfl) h
theorem i_limitsOk_t (c : TConfig) (micro : Int) (r : TRes) (h : Hold (tawp i_limitsOk_G 0 i_limitsOk_c (TQ 0 i_limitsOk_rs fun r' => r' = r) (tstart [(.a (Tup.cells ctConfig c)), (.c TI micro)]))) : TCon Try.prog 164 [(.a (Tup.cells ctConfig c)), (.c TI micro)] r :=
  tcon_gen (sg := [(.a ctConfig), (.c TI)]) mixed (TOk.cons i_StagesOf_ok (TOk.cons i_PeakOf_ok TOk.nil)) i_limitsOk_st (by kernel_rfl) (by kernel_rfl) (by kernel_rfl) h
theorem i_limitsOk_h : i_limitsOk_C := by
  intro c micro
  refine tcon_bd rfl fun hb => i_limitsOk_t c micro _ (i_limitsOk_v0 _ c micro ?_)
  have hl_c_0 : (c.1).length ≤ 9223372036854775807 := hb.1.1.1
  have hl_c_1 : (c.2.1).length ≤ 9223372036854775807 := hb.1.2.1.1
  have hl_c_3 : (c.2.2.2.1).length ≤ 9223372036854775807 := hb.1.2.2.2.1.1
  have hl_c_4 : (c.2.2.2.2.1).length ≤ 9223372036854775807 := hb.1.2.2.2.2.1.1
  have hl_c_5 : (c.2.2.2.2.2).length ≤ 9223372036854775807 := hb.1.2.2.2.2.2.1.1
  refine ⟨fun h => R_eq (by grind [m_limitsOk]), fun h => ?_⟩
  refine listLoop c.2.2.2.2.2 (fun r k => m_limitsGo c micro r k = m_limitsGo c micro c.2.2.2.2.2 0 → i_limitsOk_A2 (fun r' => r' = i_limitsOk_R (m_limitsOk c micro)) c micro k) ?_ ?_ rfl
  · intro he
    refine i_limitsOk_v2 (fun r' => r' = i_limitsOk_R (m_limitsOk c micro)) c micro _ ⟨fun h => by simp at h, fun _ => R_eq ?_⟩
    grind [m_limitsOk, m_limitsGo]
  · intro k x r hk hlt hg ih he
    refine i_limitsOk_v2 (fun r' => r' = i_limitsOk_R (m_limitsOk c micro)) c micro _ ⟨fun _ => ?_, fun h => by simp at h; omega⟩
    rw [Int.toNat_natCast, hg, w64_ok (x := (k : Int) + 1) (by omega) (by omega)]
    rw [m_limitsGo] at he
    refine ⟨⟨by omega, hlt⟩, fun h => R_eq ?_, fun h => ih ?_⟩
    · grind [m_limitsOk, m_in]
    · grind [m_in]

theorem i_limitsOk_ok : TRowOk Try.prog i_limitsOk_row := rowOk fun x _ => i_limitsOk_h x.1 x.2.1

def i_Admit_R (t : Int) : TRes := ⟨(.c TI t), [], [], false⟩
def i_Admit_row : TRow := mkRow 90 [(.a ctConfig), (.c (.sl ctPair))] fun x => (none, i_Admit_R (m_admit x.1 x.2.1))
def i_Admit_C : Prop := ∀ (x0 : TConfig) (x1 : List TPair), TCon Try.prog 90 [(.a (Tup.cells ctConfig x0)), (.c (.sl ctPair) x1)] (i_Admit_R (m_admit x0 x1))

/-! impl.Admit -/
def i_Admit_G : List TRow := [i_StagesOf_row, i_ModelOk_row, i_BatchOk_row, i_capsOk_row, i_limitsOk_row]
def i_Admit_c : TCode :=
  (.seq (.reg [.op (some 2) (.box 83 (.s 0) 6),
    .op (some 4) (.mov (.k (.c TI (0 : Int))))])
 (.seq (.reg [.op (some 6) (.load (.s 2) 6 true),
     .op (some 7) (.call 70 [(.s 6)]),
     .op (some 5) (.mov (.s 7))])
  (.seq (.block 0 (.seq (.reg [.op (some 9) (.fad (.s 2) 0),
        .op (some 10) (.load (.s 9) 1 true),
        .op (some 11) (.call 134 [(.s 10)]),
        .op (some 12) (.not (.s 11)),
        .op (some 8) (.mov (.s 12))])
     (.cond (.s 8) (.seq (.reg [.op (some 4) (.mov (.k (.c TI (1 : Int))))])
       .ret) (.seq (.reg [.op (some 14) (.fad (.s 2) 0),
          .op (some 15) (.load (.s 14) 1 true),
          .op (some 16) (.mov (.s 1)),
          .op (some 17) (.call 162 [(.s 15), (.s 16)]),
          .op (some 18) (.not (.s 17)),
          .op (some 13) (.mov (.s 18))])
       (.cond (.s 13) (.seq (.reg [.op (some 4) (.mov (.k (.c TI (2 : Int))))])
         .ret) (.seq (.reg [.op (some 20) (.mov (.s 5)),
            .op (some 21) (.bin .eql (.s 20) (.k (.c TI (0 : Int)))),
            .op (some 22) (.mov (.s 21)),
            .grp 22 false [.op (some 23) (.mov (.s 5)), .op (some 24) (.bin .gtr (.s 23) (.k (.c TI (4 : Int))))] 25 (.s 24),
            .op (some 19) (.mov (.s 25))])
         (.cond (.s 19) (.seq (.reg [.op (some 4) (.mov (.k (.c TI (3 : Int))))])
           .ret) (.seq (.reg [.op (some 27) (.fad (.s 2) 2),
              .op (some 28) (.load (.s 27) 1 false),
              .op (some 29) (.bin .neq (.s 28) (.k (.c TI (1 : Int)))),
              .op (some 30) (.mov (.s 29)),
              .grp 30 true [.op (some 31) (.fad (.s 2) 2), .op (some 32) (.load (.s 31) 1 false), .op (some 33) (.bin .neq (.s 32) (.k (.c TI (2 : Int))))] 34 (.s 33),
              .op (some 26) (.mov (.s 34))])
           (.cond (.s 26) (.seq (.reg [.op (some 4) (.mov (.k (.c TI (4 : Int))))])
             .ret) (.seq (.reg [.op (some 36) (.fad (.s 2) 3),
                .op (some 37) (.load (.s 36) 1 false),
                .op (some 38) (.len (.s 37)),
                .op (some 39) (.mov (.s 5)),
                .op (some 40) (.bin .neq (.s 38) (.s 39)),
                .op (some 35) (.mov (.s 40))])
             (.cond (.s 35) (.seq (.reg [.op (some 4) (.mov (.k (.c TI (5 : Int))))])
               .ret) (.seq (.reg [.op (some 42) (.load (.s 2) 6 true),
                  .op (some 43) (.call 163 [(.s 42)]),
                  .op (some 44) (.not (.s 43)),
                  .op (some 41) (.mov (.s 44))])
               (.cond (.s 41) (.seq (.reg [.op (some 4) (.mov (.k (.c TI (6 : Int))))])
                 .ret) (.seq (.reg [.op (some 46) (.load (.s 2) 6 true),
                    .op (some 47) (.mov (.s 1)),
                    .op (some 48) (.len (.s 47)),
                    .op (some 49) (.call 164 [(.s 46), (.s 48)]),
                    .op (some 50) (.not (.s 49)),
                    .op (some 45) (.mov (.s 50))])
                 (.cond (.s 45) (.seq (.reg [.op (some 4) (.mov (.k (.c TI (7 : Int))))])
                   .ret) .skip)))))))))))))))
   (.seq (.reg [.op (some 4) (.mov (.k (.c TI (0 : Int))))])
    .ret))))
def i_Admit_rs : List (ARv × Md) := [(.t 4, .one .d)]
theorem i_Admit_st : compF Try.prog 90 = some (i_Admit_c.er, i_Admit_rs.map Prod.fst, 51) := by kernel_rfl
def i_Admit_Q (K : TRes → Prop) : TPost := TQ 0 i_Admit_rs K
theorem i_Admit_v0 (K : TRes → Prop) (c : TConfig) (b : List TPair) (h :
  (((!(m_modelOk c.1)) = true → K (i_Admit_R (1 : Int))) ∧ ((!(m_modelOk c.1)) = false → (((!(m_batchOk c.1 b)) = true → K (i_Admit_R (2 : Int))) ∧ ((!(m_batchOk c.1 b)) = false → (((((m_stagesOf c) == (0 : Int)) || (decide ((m_stagesOf c) > (4 : Int)))) = true → K (i_Admit_R (3 : Int))) ∧ ((((m_stagesOf c) == (0 : Int)) || (decide ((m_stagesOf c) > (4 : Int)))) = false → ((((c.2.2.1 != (1 : Int)) && (c.2.2.1 != (2 : Int))) = true → K (i_Admit_R (4 : Int))) ∧ (((c.2.2.1 != (1 : Int)) && (c.2.2.1 != (2 : Int))) = false → (((((c.2.2.2.1).length : Int) != (m_stagesOf c)) = true → K (i_Admit_R (5 : Int))) ∧ ((((c.2.2.2.1).length : Int) != (m_stagesOf c)) = false → (((!(m_capsOk c)) = true → K (i_Admit_R (6 : Int))) ∧ ((!(m_capsOk c)) = false → (((!(m_limitsOk c (b.length : Int))) = true → K (i_Admit_R (7 : Int))) ∧ ((!(m_limitsOk c (b.length : Int))) = false → K (i_Admit_R (0 : Int))))))))))))))))) : Hold (tawp i_Admit_G 0 i_Admit_c (TQ 0 i_Admit_rs K) (tstart [(.a (Tup.cells ctConfig c)), (.c (.sl ctPair) b)])) :=
  Hold.of (by kernel_rfl) h
theorem i_Admit_t (c : TConfig) (b : List TPair) (r : TRes) (h : Hold (tawp i_Admit_G 0 i_Admit_c (TQ 0 i_Admit_rs fun r' => r' = r) (tstart [(.a (Tup.cells ctConfig c)), (.c (.sl ctPair) b)]))) : TCon Try.prog 90 [(.a (Tup.cells ctConfig c)), (.c (.sl ctPair) b)] r :=
  tcon_gen (sg := [(.a ctConfig), (.c (.sl ctPair))]) mixed (TOk.cons i_StagesOf_ok (TOk.cons i_ModelOk_ok (TOk.cons i_BatchOk_ok (TOk.cons i_capsOk_ok (TOk.cons i_limitsOk_ok TOk.nil))))) i_Admit_st (by kernel_rfl) (by kernel_rfl) (by kernel_rfl) h
theorem i_Admit_h : i_Admit_C := by
  intro c b
  refine tcon_bd rfl fun hb => i_Admit_t c b _ (i_Admit_v0 _ c b ?_)
  have hl_c_0 : (c.1).length ≤ 9223372036854775807 := hb.1.1.1
  have hl_c_1 : (c.2.1).length ≤ 9223372036854775807 := hb.1.2.1.1
  have hl_c_3 : (c.2.2.2.1).length ≤ 9223372036854775807 := hb.1.2.2.2.1.1
  have hl_c_4 : (c.2.2.2.2.1).length ≤ 9223372036854775807 := hb.1.2.2.2.2.1.1
  have hl_c_5 : (c.2.2.2.2.2).length ≤ 9223372036854775807 := hb.1.2.2.2.2.2.1.1
  have hl_b : b.length ≤ 9223372036854775807 := hb.2.1.1
  have hs := stages_le (c := c)
  refine ⟨fun h => R_eq (by grind [m_admit]), fun h1 => ⟨fun h => R_eq (by grind [m_admit]), fun h2 => ⟨fun h => R_eq (by grind [m_admit]), fun h3 => ⟨fun h => R_eq ?_, fun h4 => ⟨fun h => R_eq ?_, fun h5 => ⟨fun h => R_eq ?_, fun h6 => ⟨fun h => R_eq ?_, fun h7 => R_eq ?_⟩⟩⟩⟩⟩⟩⟩
  all_goals
    have a1 : m_modelOk c.1 = true := by simpa using h1
    have a2 : m_batchOk c.1 b = true := by simpa using h2
    have a3 : ¬ (m_stagesOf c = 0 ∨ 4 < m_stagesOf c) := by grind
  · have : m_in c.2.2.1 1 2 = false := by simp at h; simp [m_in]; omega
    simp [m_admit, a1, a2, a3, this]
  · have : m_in c.2.2.1 1 2 = true := by simp at h4; simp [m_in]; omega
    have h : ¬ (c.2.2.2.1.length : Int) = m_stagesOf c := by grind
    simp [m_admit, a1, a2, a3, this, h]
  all_goals
    have a4 : m_in c.2.2.1 1 2 = true := by simp at h4; simp [m_in]; omega
    have a5 : (c.2.2.2.1.length : Int) = m_stagesOf c := by grind
  · have h : m_capsOk c = false := by simpa using h
    simp [m_admit, a1, a2, a3, a4, a5, h]
  · have h : m_limitsOk c b.length = false := by simpa using h
    have h6 : m_capsOk c = true := by simpa using h6
    simp [m_admit, a1, a2, a3, a4, a5, h6, h]
  · have h7 : m_limitsOk c b.length = true := by simpa using h7
    have h6 : m_capsOk c = true := by simpa using h6
    simp [m_admit, a1, a2, a3, a4, a5, h6, h7]

theorem i_Admit_ok : TRowOk Try.prog i_Admit_row := rowOk fun x _ => i_Admit_h x.1 x.2.1

def s_Admit_R (t : Int) : TRes := ⟨(.c TI t), [], [], false⟩
def s_Admit_row : TRow := mkRow 88 [(.a ctConfig), (.c (.sl ctPair))] fun x => (none, s_Admit_R (m_admit x.1 x.2.1))
def s_Admit_C : Prop := ∀ (x0 : TConfig) (x1 : List TPair), TCon Try.prog 88 [(.a (Tup.cells ctConfig x0)), (.c (.sl ctPair) x1)] (s_Admit_R (m_admit x0 x1))

/-! spec.Admit -/
def s_Admit_G : List TRow := [s_ModelOk_row, s_BatchOk_row, s_CutsOk_row, s_l1In_row, s_PeakOf_row]
def s_Admit_b2 : TCode :=
  (.seq (.seq (.reg [.op (some 48) (.mov (.s 5)),
     .op (some 49) (.fad (.s 2) 4),
     .op (some 50) (.load (.s 49) 1 false),
     .op (some 51) (.len (.s 50)),
     .op (some 52) (.bin .lss (.s 48) (.s 51))])
  (.cond (.s 52) .skip (.exit 0)))
 (.seq (.block 1 (.seq (.reg [.op (some 55) (.fad (.s 2) 4),
       .op (some 56) (.load (.s 55) 1 false),
       .op (some 57) (.mov (.s 5)),
       .op (some 58) (.iad (.s 56) (.s 57) [TI]),
       .op (some 59) (.load (.s 58) 1 false),
       .op (some 60) (.call 121 [(.s 59), (.k (.c TI (1 : Int))), (.k (.c TI (5 : Int)))]),
       .op (some 61) (.not (.s 60))])
    (.cond (.s 61) (.seq (.reg [.op (some 4) (.mov (.k (.c TI (6 : Int))))])
      .ret) .skip)))
  (.reg [.op (some 53) (.mov (.s 5)),
     .op (some 54) (.bin .add (.s 53) (.k (.c TI (1 : Int)))),
     .op (some 5) (.mov (.s 54))])))
def s_Admit_L2 : List (Nat × Md) := [(1, .one .d), (2, .b [.d, .d, .d, .d, .d, .d]), (5, .one .d)]
def s_Admit_b4 : TCode :=
  (.seq (.seq (.reg [.op (some 70) (.mov (.s 6)),
     .op (some 71) (.fad (.s 2) 5),
     .op (some 72) (.load (.s 71) 1 false),
     .op (some 73) (.len (.s 72)),
     .op (some 74) (.bin .lss (.s 70) (.s 73))])
  (.cond (.s 74) .skip (.exit 2)))
 (.seq (.block 3 (.seq (.draw [.op (some 77) (.fad (.s 2) 5),
       .op (some 78) (.load (.s 77) 1 false),
       .op (some 79) (.mov (.s 6)),
       .op (some 80) (.iad (.s 78) (.s 79) [TI]),
       .op (some 81) (.load (.s 80) 1 false),
       .op (some 82) (.load (.s 2) 6 true),
       .op (some 83) (.mov (.s 6)),
       .op (some 84) (.mov (.s 1)),
       .op (some 85) (.len (.s 84)),
       .op (some 86) (.call 81 [(.s 82), (.s 83), (.s 85)]),
       .op (some 87) (.call 121 [(.s 81), (.s 86), (.k (.c TI (100000 : Int)))]),
       .op (some 88) (.not (.s 87))] [(0, 9), (1, 9), (3, 9), (4, 9)])
    (.cond (.s 88) (.seq (.reg [.op (some 4) (.mov (.k (.c TI (7 : Int))))])
      .ret) .skip)))
  (.reg [.op (some 75) (.mov (.s 6)),
     .op (some 76) (.bin .add (.s 75) (.k (.c TI (1 : Int)))),
     .op (some 6) (.mov (.s 76))])))
def s_Admit_L4 : List (Nat × Md) := [(1, .one .d), (2, .b [.d, .d, .d, .d, .d, .d]), (6, .one .d)]
def s_Admit_y3 : TCode :=
  (.seq (.reg [.op (some 4) (.mov (.k (.c TI (0 : Int))))])
 .ret)
def s_Admit_y1 : TCode :=
  (.seq (.seq (.reg [.op (some 62) (.fad (.s 2) 5),
     .op (some 63) (.load (.s 62) 1 false),
     .op (some 64) (.len (.s 63)),
     .op (some 65) (.fad (.s 2) 1),
     .op (some 66) (.load (.s 65) 1 false),
     .op (some 67) (.len (.s 66)),
     .op (some 68) (.bin .add (.s 67) (.k (.c TI (1 : Int)))),
     .op (some 69) (.bin .neq (.s 64) (.s 68))])
  (.cond (.s 69) (.seq (.reg [.op (some 4) (.mov (.k (.c TI (7 : Int))))])
    .ret) .skip))
 (.seq (.seq (.reg [.op (some 6) (.mov (.k (.c TI (0 : Int))))])
   (.block 2 (.loop s_Admit_L4 s_Admit_b4)))
  s_Admit_y3))
def s_Admit_c : TCode :=
  (.seq (.reg [.op (some 2) (.box 83 (.s 0) 6),
    .op (some 4) (.mov (.k (.c TI (0 : Int))))])
 (.seq (.seq (.reg [.op (some 7) (.fad (.s 2) 0),
      .op (some 8) (.load (.s 7) 1 true),
      .op (some 9) (.call 132 [(.s 8)]),
      .op (some 10) (.not (.s 9))])
   (.cond (.s 10) (.seq (.reg [.op (some 4) (.mov (.k (.c TI (1 : Int))))])
     .ret) .skip))
  (.seq (.seq (.reg [.op (some 11) (.fad (.s 2) 0),
       .op (some 12) (.load (.s 11) 1 true),
       .op (some 13) (.mov (.s 1)),
       .op (some 14) (.call 160 [(.s 12), (.s 13)]),
       .op (some 15) (.not (.s 14))])
    (.cond (.s 15) (.seq (.reg [.op (some 4) (.mov (.k (.c TI (2 : Int))))])
      .ret) .skip))
   (.seq (.seq (.reg [.op (some 16) (.fad (.s 2) 0),
        .op (some 17) (.load (.s 16) 1 true),
        .op (some 18) (.fad (.s 2) 1),
        .op (some 19) (.load (.s 18) 1 false),
        .op (some 20) (.call 55 [(.s 17), (.s 19)]),
        .op (some 21) (.not (.s 20)),
        .op (some 22) (.mov (.s 21)),
        .grp 22 false [.op (some 23) (.fad (.s 2) 1), .op (some 24) (.load (.s 23) 1 false), .op (some 25) (.len (.s 24)), .op (some 26) (.bin .add (.s 25) (.k (.c TI (1 : Int)))), .op (some 27) (.bin .gtr (.s 26) (.k (.c TI (4 : Int))))] 28 (.s 27)])
     (.cond (.s 28) (.seq (.reg [.op (some 4) (.mov (.k (.c TI (3 : Int))))])
       .ret) .skip))
    (.seq (.seq (.reg [.op (some 29) (.fad (.s 2) 2),
         .op (some 30) (.load (.s 29) 1 false),
         .op (some 31) (.call 121 [(.s 30), (.k (.c TI (1 : Int))), (.k (.c TI (2 : Int)))]),
         .op (some 32) (.not (.s 31))])
      (.cond (.s 32) (.seq (.reg [.op (some 4) (.mov (.k (.c TI (4 : Int))))])
        .ret) .skip))
     (.seq (.seq (.reg [.op (some 33) (.fad (.s 2) 3),
          .op (some 34) (.load (.s 33) 1 false),
          .op (some 35) (.len (.s 34)),
          .op (some 36) (.fad (.s 2) 1),
          .op (some 37) (.load (.s 36) 1 false),
          .op (some 38) (.len (.s 37)),
          .op (some 39) (.bin .add (.s 38) (.k (.c TI (1 : Int)))),
          .op (some 40) (.bin .neq (.s 35) (.s 39))])
       (.cond (.s 40) (.seq (.reg [.op (some 4) (.mov (.k (.c TI (5 : Int))))])
         .ret) .skip))
      (.seq (.seq (.reg [.op (some 41) (.fad (.s 2) 4),
           .op (some 42) (.load (.s 41) 1 false),
           .op (some 43) (.len (.s 42)),
           .op (some 44) (.fad (.s 2) 1),
           .op (some 45) (.load (.s 44) 1 false),
           .op (some 46) (.len (.s 45)),
           .op (some 47) (.bin .neq (.s 43) (.s 46))])
        (.cond (.s 47) (.seq (.reg [.op (some 4) (.mov (.k (.c TI (6 : Int))))])
          .ret) .skip))
       (.seq (.seq (.reg [.op (some 5) (.mov (.k (.c TI (0 : Int))))])
         (.block 0 (.loop s_Admit_L2 s_Admit_b2)))
        s_Admit_y1))))))))
def s_Admit_rs : List (ARv × Md) := [(.t 4, .one .d)]
theorem s_Admit_st : compF Try.prog 88 = some (s_Admit_c.er, s_Admit_rs.map Prod.fst, 89) := by kernel_rfl
def s_Admit_Q (K : TRes → Prop) : TPost := TQ 0 s_Admit_rs K
def s_Admit_q1 (K : TRes → Prop) : TPost := Qseq (tawp s_Admit_G 0 s_Admit_y3 (s_Admit_Q K)) (s_Admit_Q K)
def s_Admit_q2 (K : TRes → Prop) : TPost := Qblk 2 (s_Admit_q1 K)
def s_Admit_A4 (K : TRes → Prop) (c : TConfig) (b : List TPair) (s : Int) : Prop := Loop s_Admit_G 0 s_Admit_L4 s_Admit_b4 (s_Admit_q2 K) ⟨[(1, (.c (.sl ctPair) b)), (2, (.p 0 0 0)), (6, (.c TI s))], [(0, (.box [(.c (.sl ctOp) c.1), (.c (.sl [TI]) c.2.1), (.c TI c.2.2.1), (.c (.sl [.bool]) c.2.2.2.1), (.c (.sl [TI]) c.2.2.2.2.1), (.c (.sl [TI]) c.2.2.2.2.2)]))], 1⟩
def s_Admit_q3 (K : TRes → Prop) : TPost := Qseq (tawp s_Admit_G 0 s_Admit_y1 (s_Admit_Q K)) (s_Admit_Q K)
def s_Admit_q4 (K : TRes → Prop) : TPost := Qblk 0 (s_Admit_q3 K)
def s_Admit_A2 (K : TRes → Prop) (c : TConfig) (b : List TPair) (i : Int) : Prop := Loop s_Admit_G 0 s_Admit_L2 s_Admit_b2 (s_Admit_q4 K) ⟨[(1, (.c (.sl ctPair) b)), (2, (.p 0 0 0)), (5, (.c TI i))], [(0, (.box [(.c (.sl ctOp) c.1), (.c (.sl [TI]) c.2.1), (.c TI c.2.2.1), (.c (.sl [.bool]) c.2.2.2.1), (.c (.sl [TI]) c.2.2.2.2.1), (.c (.sl [TI]) c.2.2.2.2.2)]))], 1⟩
theorem s_Admit_v4 (K : TRes → Prop) (c : TConfig) (b : List TPair) (s : Int) (h :
  (((decide (s < ((c.2.2.2.2.2).length : Int))) = true → (((0 : Int) ≤ s ∧ Int.toNat s < (c.2.2.2.2.2).length) ∧ (((!(m_in (gtd (0 : Int) c.2.2.2.2.2 (Int.toNat s)) (m_peakOf c s (b.length : Int)) (100000 : Int))) = true → K (s_Admit_R (7 : Int))) ∧ ((!(m_in (gtd (0 : Int) c.2.2.2.2.2 (Int.toNat s)) (m_peakOf c s (b.length : Int)) (100000 : Int))) = false → (s_Admit_A4 K c b (w64 (s + (1 : Int)))))))) ∧ ((decide (s < ((c.2.2.2.2.2).length : Int))) = false → K (s_Admit_R (0 : Int))))) : s_Admit_A4 K c b s :=
  Loop.of (by kernel_rfl) h
theorem s_Admit_v2 (K : TRes → Prop) (c : TConfig) (b : List TPair) (i : Int) (h :
  (((decide (i < ((c.2.2.2.2.1).length : Int))) = true → (((0 : Int) ≤ i ∧ Int.toNat i < (c.2.2.2.2.1).length) ∧ (((!(m_in (gtd (0 : Int) c.2.2.2.2.1 (Int.toNat i)) (1 : Int) (5 : Int))) = true → K (s_Admit_R (6 : Int))) ∧ ((!(m_in (gtd (0 : Int) c.2.2.2.2.1 (Int.toNat i)) (1 : Int) (5 : Int))) = false → (s_Admit_A2 K c b (w64 (i + (1 : Int)))))))) ∧ ((decide (i < ((c.2.2.2.2.1).length : Int))) = false → (((((c.2.2.2.2.2).length : Int) != (w64 (((c.2.1).length : Int) + (1 : Int)))) = true → K (s_Admit_R (7 : Int))) ∧ ((((c.2.2.2.2.2).length : Int) != (w64 (((c.2.1).length : Int) + (1 : Int)))) = false → (s_Admit_A4 K c b (0 : Int))))))) : s_Admit_A2 K c b i :=
  Loop.of (by kernel_rfl) h
theorem s_Admit_v0 (K : TRes → Prop) (c : TConfig) (b : List TPair) (h :
  (((!(m_modelOk c.1)) = true → K (s_Admit_R (1 : Int))) ∧ ((!(m_modelOk c.1)) = false → (((!(m_batchOk c.1 b)) = true → K (s_Admit_R (2 : Int))) ∧ ((!(m_batchOk c.1 b)) = false → ((((!(m_cutsOk c.1 c.2.1)) || (decide ((w64 (((c.2.1).length : Int) + (1 : Int))) > (4 : Int)))) = true → K (s_Admit_R (3 : Int))) ∧ (((!(m_cutsOk c.1 c.2.1)) || (decide ((w64 (((c.2.1).length : Int) + (1 : Int))) > (4 : Int)))) = false → (((!(m_in c.2.2.1 (1 : Int) (2 : Int))) = true → K (s_Admit_R (4 : Int))) ∧ ((!(m_in c.2.2.1 (1 : Int) (2 : Int))) = false → (((((c.2.2.2.1).length : Int) != (w64 (((c.2.1).length : Int) + (1 : Int)))) = true → K (s_Admit_R (5 : Int))) ∧ ((((c.2.2.2.1).length : Int) != (w64 (((c.2.1).length : Int) + (1 : Int)))) = false → (((((c.2.2.2.2.1).length : Int) != ((c.2.1).length : Int)) = true → K (s_Admit_R (6 : Int))) ∧ ((((c.2.2.2.2.1).length : Int) != ((c.2.1).length : Int)) = false → (s_Admit_A2 K c b (0 : Int))))))))))))))) : Hold (tawp s_Admit_G 0 s_Admit_c (TQ 0 s_Admit_rs K) (tstart [(.a (Tup.cells ctConfig c)), (.c (.sl ctPair) b)])) :=
  Hold.of (by kernel_rfl) h
theorem s_Admit_t (c : TConfig) (b : List TPair) (r : TRes) (h : Hold (tawp s_Admit_G 0 s_Admit_c (TQ 0 s_Admit_rs fun r' => r' = r) (tstart [(.a (Tup.cells ctConfig c)), (.c (.sl ctPair) b)]))) : TCon Try.prog 88 [(.a (Tup.cells ctConfig c)), (.c (.sl ctPair) b)] r :=
  tcon_gen (sg := [(.a ctConfig), (.c (.sl ctPair))]) mixed (TOk.cons s_ModelOk_ok (TOk.cons s_BatchOk_ok (TOk.cons s_CutsOk_ok (TOk.cons s_l1In_ok (TOk.cons s_PeakOf_ok TOk.nil))))) s_Admit_st (by kernel_rfl) (by kernel_rfl) (by kernel_rfl) h
theorem s_Admit_h : s_Admit_C := by
  intro c b
  refine tcon_bd rfl fun hb => s_Admit_t c b _ (s_Admit_v0 _ c b ?_)
  have hl_c_0 : (c.1).length ≤ 9223372036854775807 := hb.1.1.1
  have hl_c_1 : (c.2.1).length ≤ 9223372036854775807 := hb.1.2.1.1
  have hl_c_3 : (c.2.2.2.1).length ≤ 9223372036854775807 := hb.1.2.2.2.1.1
  have hl_c_4 : (c.2.2.2.2.1).length ≤ 9223372036854775807 := hb.1.2.2.2.2.1.1
  have hl_c_5 : (c.2.2.2.2.2).length ≤ 9223372036854775807 := hb.1.2.2.2.2.2.1.1
  have hl_b : b.length ≤ 9223372036854775807 := hb.2.1.1
  have hs := stages_le (c := c)
  refine ⟨fun h => R_eq (by grind [m_admit]), fun h1 => ⟨fun h => R_eq (by grind [m_admit]), fun h2 => ⟨fun h => R_eq ?_, fun h3 => ?_⟩⟩⟩
  · have a1 : m_modelOk c.1 = true := by simpa using h1
    have a2 : m_batchOk c.1 b = true := by simpa using h2
    have a3 : m_stagesOf c = 0 ∨ 4 < m_stagesOf c := by
      by_cases hc : m_cutsOk c.1 c.2.1 = true
      · have := hs.2.2.2 hc
        have hcl := cuts_len hc
        rw [← this, w64_ok (x := m_stagesOf c) (by omega) (by omega), hc] at h
        right; simpa using h
      · left
        exact Classical.byContradiction fun hn => hc (hs.2.2.1.1 hn)
    simp [m_admit, a1, a2, a3]
  have a1 : m_modelOk c.1 = true := by simpa using h1
  have a2 : m_batchOk c.1 b = true := by simpa using h2
  have hc : m_cutsOk c.1 c.2.1 = true := by grind
  have hst := hs.2.2.2 hc
  have hcl := cuts_len hc
  have e2 : w64 ((c.2.1.length : Int) + 1) = m_stagesOf c := by rw [hst]; exact w64_ok (by omega) (by omega)
  rw [e2] at h3 ⊢
  have a3 : ¬ (m_stagesOf c = 0 ∨ 4 < m_stagesOf c) := by grind
  refine ⟨fun h => R_eq ?_, fun h4 => ⟨fun h => R_eq ?_, fun h5 => ⟨fun h => R_eq ?_, fun h6 => ?_⟩⟩⟩
  · have h : m_in c.2.2.1 1 2 = false := by simpa using h
    simp [m_admit, a1, a2, a3, h]
  all_goals
    have a4 : m_in c.2.2.1 1 2 = true := by simpa using h4
  · have h : ¬ (c.2.2.2.1.length : Int) = m_stagesOf c := by grind
    simp [m_admit, a1, a2, a3, a4, h]
  all_goals
    have a5 : (c.2.2.2.1.length : Int) = m_stagesOf c := by grind
  · have h : m_capsOk c = false := by grind [m_capsOk]
    simp [m_admit, a1, a2, a3, a4, a5, h]
  have hl6 : (c.2.2.2.2.1.length == c.2.1.length) = true := by
    have h : ((c.2.2.2.2.1.length : Int) == (c.2.1.length : Int)) = true := by simpa [bne] using h6
    have := of_decide_eq_true (by simpa using h : decide ((c.2.2.2.2.1.length : Int) = c.2.1.length) = true)
    simp; omega
  have lims : m_capsOk c = true → (c.2.2.2.2.2.length : Int) = m_stagesOf c → s_Admit_A4 (fun r' => r' = s_Admit_R (m_admit c b)) c b ((0 : Nat) : Int) := by
    intro a6 a7
    refine listLoop c.2.2.2.2.2 (fun r k => m_limitsGo c b.length r k = m_limitsGo c b.length c.2.2.2.2.2 0 → s_Admit_A4 (fun r' => r' = s_Admit_R (m_admit c b)) c b k) ?_ ?_ rfl
    · intro he
      refine s_Admit_v4 (fun r' => r' = s_Admit_R (m_admit c b)) c b _ ⟨fun h => by simp at h, fun _ => R_eq ?_⟩
      have : m_limitsOk c b.length = true := by grind [m_limitsOk, m_limitsGo]
      simp [m_admit, a1, a2, a3, a4, a5, a6, this]
    · intro k x r hk hlt hg ih he
      refine s_Admit_v4 (fun r' => r' = s_Admit_R (m_admit c b)) c b _ ⟨fun _ => ?_, fun h => by simp at h; omega⟩
      rw [Int.toNat_natCast, hg, w64_ok (x := (k : Int) + 1) (by omega) (by omega)]
      rw [m_limitsGo] at he
      refine ⟨⟨by omega, hlt⟩, fun h => R_eq ?_, fun h => ih ?_⟩
      · have : m_limitsOk c b.length = false := by grind [m_limitsOk]
        simp [m_admit, a1, a2, a3, a4, a5, a6, this]
      · grind
  refine listLoop c.2.2.2.2.1 (fun r k => (r.all fun n => m_in n 1 5) = (c.2.2.2.2.1.all fun n => m_in n 1 5) → s_Admit_A2 (fun r' => r' = s_Admit_R (m_admit c b)) c b k) ?_ ?_ rfl
  · intro he
    have a6 : m_capsOk c = true := by grind [m_capsOk]
    refine s_Admit_v2 (fun r' => r' = s_Admit_R (m_admit c b)) c b _ ⟨fun h => by simp at h, fun _ => ⟨fun h => R_eq ?_, fun h => lims a6 ?_⟩⟩
    · have : m_limitsOk c b.length = false := by grind [m_limitsOk]
      simp [m_admit, a1, a2, a3, a4, a5, a6, this]
    · grind
  · intro k x r hk hlt hg ih he
    refine s_Admit_v2 (fun r' => r' = s_Admit_R (m_admit c b)) c b _ ⟨fun _ => ?_, fun h => by simp at h; omega⟩
    rw [Int.toNat_natCast, hg, w64_ok (x := (k : Int) + 1) (by omega) (by omega)]
    rw [List.all_cons] at he
    refine ⟨⟨by omega, hlt⟩, fun h => R_eq ?_, fun h => ih ?_⟩
    · have h : m_in x 1 5 = false := by simpa using h
      rw [h, Bool.false_and] at he
      have : m_capsOk c = false := by simp only [m_capsOk, ← he, Bool.and_false]
      simp [m_admit, a1, a2, a3, a4, a5, this]
    · have h : m_in x 1 5 = true := by simpa using h
      rw [h, Bool.true_and] at he
      exact he

theorem s_Admit_ok : TRowOk Try.prog s_Admit_row := rowOk fun x _ => s_Admit_h x.1 x.2.1

end
end Go.Proofs.Ytpnblnkggeopkaa.Am
