/-
  Written by program: the code of functions, what it asks, and that it comes to what the models say.
-/
import Derived.Test.YtephkbajoofeoaaP5
import Derived.Test.YtephkbajoofeoaaP1
namespace Go.Proofs.Ytephkbajoofeoaa.Am
open Go Go.RowKit Go.Proofs.Ytephkbajoofeoaa
set_option linter.unusedVariables false
set_option linter.unusedSimpArgs false
set_option maxHeartbeats 2000000
noncomputable section

def i_sizesOf_R (t : Int × Int) : TRes := ⟨(.tp [(.c TI t.1), (.c TI t.2)]), [], [], false, []⟩
def i_sizesOf_row : TRow := mkRow 142 [(.a ctConfig), (.c TI)] fun x => (none, i_sizesOf_R (m_sizesOf x.1 x.2.1))
def i_sizesOf_C : Prop := ∀ (x0 : TConfig) (x1 : Int), TCon Try.prog 142 [(.a (Tup.cells ctConfig x0)), (.c TI x1)] (i_sizesOf_R (m_sizesOf x0 x1))

/-! impl.sizesOf -/
def i_sizesOf_G : List TRow := [i_StageRange_row]
def i_sizesOf_c : TCode :=
  (.seq (.reg [.op (some 2) (.box 103 (.s 0) 6),
    .op (some 4) (.mov (.k (.c TI (0 : Int)))),
    .op (some 5) (.mov (.k (.c TI (0 : Int))))])
 (.seq (.reg [.op (some 9) (.fad (.s 2) 0),
     .op (some 10) (.load (.s 9) 1 true),
     .op (some 11) (.fad (.s 2) 1),
     .op (some 12) (.load (.s 11) 1 false),
     .op (some 13) (.mov (.s 1)),
     .op (some 14) (.call 49 [(.s 10), (.s 12), (.s 13)]),
     .op (some 8) (.mov (.s 14)),
     .op (some 15) (.ext (.s 8) 0),
     .op (some 16) (.ext (.s 8) 1),
     .op (some 6) (.mov (.s 15)),
     .op (some 7) (.mov (.s 16))])
  (.seq (.seq (.reg [.op (some 17) (.mov (.s 6)),
       .op (some 18) (.mov (.s 7)),
       .op (some 19) (.bin .eql (.s 17) (.s 18))])
    (.cond (.s 19) (.seq (.reg [.op (some 4) (.mov (.k (.c TI (0 : Int)))),
         .op (some 5) (.mov (.k (.c TI (0 : Int))))])
      .ret) .skip))
   (.seq (.draw [.op (some 20) (.fad (.s 2) 0),
       .op (some 21) (.fad (.s 20) 0),
       .op (some 22) (.load (.s 21) 1 false),
       .op (some 23) (.mov (.s 6)),
       .op (some 24) (.iad (.s 22) (.s 23) ctOp),
       .op (some 25) (.fad (.s 24) 1),
       .op (some 26) (.load (.s 25) 1 false),
       .op (some 27) (.fad (.s 2) 0),
       .op (some 28) (.fad (.s 27) 0),
       .op (some 29) (.load (.s 28) 1 false),
       .op (some 30) (.mov (.s 7)),
       .op (some 31) (.bin .sub (.s 30) (.k (.c TI (1 : Int)))),
       .op (some 32) (.iad (.s 29) (.s 31) ctOp),
       .op (some 33) (.fad (.s 32) 2),
       .op (some 34) (.load (.s 33) 1 false),
       .op (some 4) (.mov (.s 26)),
       .op (some 5) (.mov (.s 34))] [])
    .ret))))
def i_sizesOf_rs : List (ARv × Md) := [(.t 4, .one .d), (.t 5, .one .d)]
theorem i_sizesOf_st : compF Try.prog 142 = some (i_sizesOf_c.er, i_sizesOf_rs.map Prod.fst, 35) := by kernel_rfl
def i_sizesOf_Q (K : TRes → Prop) : TPost := TQ 0 0 i_sizesOf_rs K
theorem i_sizesOf_v0 (K : TRes → Prop) (c : TConfig) (s : Int) (h :
  (((((m_stageRange c.1 c.2.1 s).1) == ((m_stageRange c.1 c.2.1 s).2)) = true → K (i_sizesOf_R ((0 : Int), (0 : Int)))) ∧ ((((m_stageRange c.1 c.2.1 s).1) == ((m_stageRange c.1 c.2.1 s).2)) = false → ((((0 : Int) ≤ (m_stageRange c.1 c.2.1 s).1 ∧ Int.toNat ((m_stageRange c.1 c.2.1 s).1) < (c.1).length) ∧ ((0 : Int) ≤ w64 (((m_stageRange c.1 c.2.1 s).2) - (1 : Int)) ∧ Int.toNat (w64 (((m_stageRange c.1 c.2.1 s).2) - (1 : Int))) < (c.1).length)) ∧ K (i_sizesOf_R ((gtd dOp c.1 (Int.toNat ((m_stageRange c.1 c.2.1 s).1))).2.1, (gtd dOp c.1 (Int.toNat (w64 (((m_stageRange c.1 c.2.1 s).2) - (1 : Int))))).2.2.1)))))) : Hold (tawp i_sizesOf_G (0 + 0) i_sizesOf_c (TQ 0 0 i_sizesOf_rs K) (tstart [(.a (Tup.cells ctConfig c)), (.c TI s)])) :=
  Hold.of (by kernel_rfl) h
theorem i_sizesOf_t (c : TConfig) (s : Int) (r : TRes) (h : Hold (tawp i_sizesOf_G (0 + 0) i_sizesOf_c (TQ 0 0 i_sizesOf_rs fun r' => r' = r) (tstart [(.a (Tup.cells ctConfig c)), (.c TI s)]))) : TCon Try.prog 142 [(.a (Tup.cells ctConfig c)), (.c TI s)] r :=
  tcon_gen (sg := [(.a ctConfig), (.c TI)]) mixed (TOk.cons i_StageRange_ok TOk.nil) i_sizesOf_st (by kernel_rfl) (by kernel_rfl) (by kernel_rfl) (by kernel_rfl) h
theorem i_sizesOf_h : i_sizesOf_C := by
  intro c s
  refine tcon_bd rfl fun hb => i_sizesOf_t c s _ (i_sizesOf_v0 _ c s ?_)
  have hl_c_0 : (c.1).length ≤ 9223372036854775807 := hb.1.1.1
  have hl_c_1 : (c.2.1).length ≤ 9223372036854775807 := hb.1.2.1.1
  have hl_c_3 : (c.2.2.2.1).length ≤ 9223372036854775807 := hb.1.2.2.2.1.1
  have hl_c_4 : (c.2.2.2.2.1).length ≤ 9223372036854775807 := hb.1.2.2.2.2.1.1
  have hl_c_5 : (c.2.2.2.2.2).length ≤ 9223372036854775807 := hb.1.2.2.2.2.2.1.1
  have hr := range_ok c.1 c.2.1 s
  refine ⟨fun h => R_eq (by simp at h; simp [m_sizesOf, h]), fun h => ?_⟩
  have hne : ¬ (m_stageRange c.1 c.2.1 s).1 = (m_stageRange c.1 c.2.1 s).2 := by simpa using h
  have e1 : Int.toNat (w64 ((m_stageRange c.1 c.2.1 s).2 - 1)) = (m_stageRange c.1 c.2.1 s).2.toNat - 1 ∧ (0 : Int) ≤ w64 ((m_stageRange c.1 c.2.1 s).2 - 1) := by
    rw [w64_ok (by omega) (by omega)]; omega
  refine ⟨⟨⟨by omega, by omega⟩, e1.2, by rw [e1.1]; omega⟩, R_eq ?_⟩
  rw [e1.1]
  simp [m_sizesOf, hne]

theorem i_sizesOf_ok : TRowOk Try.prog i_sizesOf_row := rowOk fun x _ => i_sizesOf_h x.1 x.2.1

def i_redoOf_R (t : Bool) : TRes := ⟨(.c .bool t), [], [], false, []⟩
def i_redoOf_row : TRow := mkRow 143 [(.a ctConfig), (.c TI)] fun x => (none, i_redoOf_R (m_redoOf x.1 x.2.1))
def i_redoOf_C : Prop := ∀ (x0 : TConfig) (x1 : Int), TCon Try.prog 143 [(.a (Tup.cells ctConfig x0)), (.c TI x1)] (i_redoOf_R (m_redoOf x0 x1))

/-! impl.redoOf -/
def i_redoOf_G : List TRow := []
def i_redoOf_c : TCode :=
  (.seq (.reg [.op (some 2) (.box 103 (.s 0) 6),
    .op (some 4) (.mov (.k (.c .bool false)))])
 (.seq (.reg [.op (some 5) (.mov (.s 1)),
     .op (some 6) (.bin .geq (.s 5) (.k (.c TI (0 : Int)))),
     .op (some 7) (.mov (.s 6)),
     .grp 7 true [.op (some 8) (.mov (.s 1)), .op (some 9) (.fad (.s 2) 3), .op (some 10) (.load (.s 9) 1 false), .op (some 11) (.len (.s 10)), .op (some 12) (.bin .lss (.s 8) (.s 11))] 13 (.s 12),
     .op (some 14) (.mov (.s 13)),
     .grp 14 true [.op (some 15) (.fad (.s 2) 3), .op (some 16) (.load (.s 15) 1 false), .op (some 17) (.mov (.s 1)), .op (some 18) (.iad (.s 16) (.s 17) [.bool]), .op (some 19) (.load (.s 18) 1 false)] 20 (.s 19),
     .op (some 4) (.mov (.s 20))])
  .ret))
def i_redoOf_rs : List (ARv × Md) := [(.t 4, .one .d)]
theorem i_redoOf_st : compF Try.prog 143 = some (i_redoOf_c.er, i_redoOf_rs.map Prod.fst, 21) := by kernel_rfl
def i_redoOf_Q (K : TRes → Prop) : TPost := TQ 0 0 i_redoOf_rs K
theorem i_redoOf_v0 (K : TRes → Prop) (c : TConfig) (s : Int) (h :
  ((((decide (s ≥ (0 : Int))) && (decide (s < ((c.2.2.2.1).length : Int)))) = true → ((0 : Int) ≤ s ∧ Int.toNat s < (c.2.2.2.1).length)) ∧ K (i_redoOf_R (((decide (s ≥ (0 : Int))) && (decide (s < ((c.2.2.2.1).length : Int)))) && (gtd (false : Bool) c.2.2.2.1 (Int.toNat s)))))) : Hold (tawp i_redoOf_G (0 + 0) i_redoOf_c (TQ 0 0 i_redoOf_rs K) (tstart [(.a (Tup.cells ctConfig c)), (.c TI s)])) :=
  Hold.of (by kernel_rfl) h
theorem i_redoOf_t (c : TConfig) (s : Int) (r : TRes) (h : Hold (tawp i_redoOf_G (0 + 0) i_redoOf_c (TQ 0 0 i_redoOf_rs fun r' => r' = r) (tstart [(.a (Tup.cells ctConfig c)), (.c TI s)]))) : TCon Try.prog 143 [(.a (Tup.cells ctConfig c)), (.c TI s)] r :=
  tcon_gen (sg := [(.a ctConfig), (.c TI)]) mixed TOk.nil i_redoOf_st (by kernel_rfl) (by kernel_rfl) (by kernel_rfl) (by kernel_rfl) h
theorem i_redoOf_h : i_redoOf_C := by
  intro c s
  refine tcon_bd rfl fun hb => i_redoOf_t c s _ (i_redoOf_v0 _ c s ?_)
  have hl_c_0 : (c.1).length ≤ 9223372036854775807 := hb.1.1.1
  have hl_c_1 : (c.2.1).length ≤ 9223372036854775807 := hb.1.2.1.1
  have hl_c_3 : (c.2.2.2.1).length ≤ 9223372036854775807 := hb.1.2.2.2.1.1
  have hl_c_4 : (c.2.2.2.2.1).length ≤ 9223372036854775807 := hb.1.2.2.2.2.1.1
  have hl_c_5 : (c.2.2.2.2.2).length ≤ 9223372036854775807 := hb.1.2.2.2.2.2.1.1
  refine ⟨fun h => by simp at h; omega, R_eq (by simp [m_redoOf])⟩

theorem i_redoOf_ok : TRowOk Try.prog i_redoOf_row := rowOk fun x _ => i_redoOf_h x.1 x.2.1

def s_FullWords_R (t : Int) : TRes := ⟨(.c TI t), [], [], false, []⟩
def s_FullWords_row : TRow := mkRow 146 [(.a ctConfig), (.c TI)] fun x => (none, s_FullWords_R (m_fullWords x.1 x.2.1))
def s_FullWords_C : Prop := ∀ (x0 : TConfig) (x1 : Int), TCon Try.prog 146 [(.a (Tup.cells ctConfig x0)), (.c TI x1)] (s_FullWords_R (m_fullWords x0 x1))

/-! spec.FullWords -/
def s_FullWords_G : List TRow := [s_StageRange_row]
def s_FullWords_b2 : TCode :=
  (.seq (.seq (.reg [.op (some 19) (.mov (.s 8)),
     .op (some 20) (.mov (.s 6)),
     .op (some 21) (.bin .lss (.s 19) (.s 20))])
  (.cond (.s 21) .skip (.exit 0)))
 (.seq (.block 1 (.reg [.op (some 24) (.mov (.s 7)),
      .op (some 25) (.fad (.s 2) 0),
      .op (some 26) (.fad (.s 25) 0),
      .op (some 27) (.load (.s 26) 1 false),
      .op (some 28) (.mov (.s 8)),
      .op (some 29) (.iad (.s 27) (.s 28) ctOp),
      .op (some 30) (.fad (.s 29) 1),
      .op (some 31) (.load (.s 30) 1 false),
      .op (some 32) (.bin .add (.s 24) (.s 31)),
      .op (some 7) (.mov (.s 32))]))
  (.reg [.op (some 22) (.mov (.s 8)),
     .op (some 23) (.bin .add (.s 22) (.k (.c TI (1 : Int)))),
     .op (some 8) (.mov (.s 23))])))
def s_FullWords_L2 : List (Nat × Md) := [(2, .b [.d, .d, .d, .d, .d, .d]), (5, .one .d), (6, .one .d), (7, .one .d), (8, .one .d)]
def s_FullWords_y1 : TCode :=
  (.seq (.seq (.reg [.op (some 33) (.mov (.s 6)),
     .op (some 34) (.mov (.s 5)),
     .op (some 35) (.bin .gtr (.s 33) (.s 34))])
  (.cond (.s 35) (.reg [.op (some 36) (.mov (.s 7)),
      .op (some 37) (.fad (.s 2) 0),
      .op (some 38) (.fad (.s 37) 0),
      .op (some 39) (.load (.s 38) 1 false),
      .op (some 40) (.mov (.s 6)),
      .op (some 41) (.bin .sub (.s 40) (.k (.c TI (1 : Int)))),
      .op (some 42) (.iad (.s 39) (.s 41) ctOp),
      .op (some 43) (.fad (.s 42) 2),
      .op (some 44) (.load (.s 43) 1 false),
      .op (some 45) (.bin .add (.s 36) (.s 44)),
      .op (some 7) (.mov (.s 45))]) .skip))
 (.seq (.reg [.op (some 46) (.mov (.s 7)),
     .op (some 4) (.mov (.s 46))])
  .ret))
def s_FullWords_c : TCode :=
  (.seq (.reg [.op (some 2) (.box 103 (.s 0) 6),
    .op (some 4) (.mov (.k (.c TI (0 : Int))))])
 (.seq (.reg [.op (some 10) (.fad (.s 2) 0),
     .op (some 11) (.load (.s 10) 1 true),
     .op (some 12) (.fad (.s 2) 1),
     .op (some 13) (.load (.s 12) 1 false),
     .op (some 14) (.mov (.s 1)),
     .op (some 15) (.call 144 [(.s 11), (.s 13), (.s 14)]),
     .op (some 9) (.mov (.s 15)),
     .op (some 16) (.ext (.s 9) 0),
     .op (some 17) (.ext (.s 9) 1),
     .op (some 5) (.mov (.s 16)),
     .op (some 6) (.mov (.s 17))])
  (.seq (.reg [.op (some 7) (.mov (.k (.c TI (0 : Int))))])
   (.seq (.seq (.reg [.op (some 18) (.mov (.s 5)),
        .op (some 8) (.mov (.s 18))])
     (.block 0 (.loop s_FullWords_L2 s_FullWords_b2)))
    s_FullWords_y1))))
def s_FullWords_rs : List (ARv × Md) := [(.t 4, .one .d)]
theorem s_FullWords_st : compF Try.prog 146 = some (s_FullWords_c.er, s_FullWords_rs.map Prod.fst, 47) := by kernel_rfl
def s_FullWords_Q (K : TRes → Prop) : TPost := TQ 0 0 s_FullWords_rs K
def s_FullWords_q1 (K : TRes → Prop) : TPost := Qseq (tawp s_FullWords_G 0 s_FullWords_y1 (s_FullWords_Q K)) (s_FullWords_Q K)
def s_FullWords_q2 (K : TRes → Prop) : TPost := Qblk 0 (s_FullWords_q1 K)
def s_FullWords_A2 (K : TRes → Prop) (c : TConfig) (s : Int) (n : Int) (i : Int) : Prop := Loop s_FullWords_G 0 s_FullWords_L2 s_FullWords_b2 (s_FullWords_q2 K) ⟨[(2, (.p 0 0 0)), (5, (.c TI ((m_stageRange c.1 c.2.1 s).1))), (6, (.c TI ((m_stageRange c.1 c.2.1 s).2))), (7, (.c TI n)), (8, (.c TI i))], [(0, (.box [(.c (.sl ctOp) c.1), (.c (.sl [TI]) c.2.1), (.c TI c.2.2.1), (.c (.sl [.bool]) c.2.2.2.1), (.c (.sl [TI]) c.2.2.2.2.1), (.c (.sl [TI]) c.2.2.2.2.2)]))], 1⟩
theorem s_FullWords_v2 (K : TRes → Prop) (c : TConfig) (s : Int) (n : Int) (i : Int) (h :
  (((decide (i < ((m_stageRange c.1 c.2.1 s).2))) = true → (((0 : Int) ≤ i ∧ Int.toNat i < (c.1).length) ∧ (s_FullWords_A2 K c s (w64 (n + ((gtd dOp c.1 (Int.toNat i)).2.1))) (w64 (i + (1 : Int)))))) ∧ ((decide (i < ((m_stageRange c.1 c.2.1 s).2))) = false → (((decide (((m_stageRange c.1 c.2.1 s).2) > ((m_stageRange c.1 c.2.1 s).1))) = true → (((0 : Int) ≤ w64 (((m_stageRange c.1 c.2.1 s).2) - (1 : Int)) ∧ Int.toNat (w64 (((m_stageRange c.1 c.2.1 s).2) - (1 : Int))) < (c.1).length) ∧ K (s_FullWords_R (w64 (n + ((gtd dOp c.1 (Int.toNat (w64 (((m_stageRange c.1 c.2.1 s).2) - (1 : Int))))).2.2.1)))))) ∧ ((decide (((m_stageRange c.1 c.2.1 s).2) > ((m_stageRange c.1 c.2.1 s).1))) = false → K (s_FullWords_R n)))))) : s_FullWords_A2 K c s n i :=
  Loop.of (by kernel_rfl) h
theorem s_FullWords_v0 (K : TRes → Prop) (c : TConfig) (s : Int) (h :
  (s_FullWords_A2 K c s (0 : Int) ((m_stageRange c.1 c.2.1 s).1))) : Hold (tawp s_FullWords_G (0 + 0) s_FullWords_c (TQ 0 0 s_FullWords_rs K) (tstart [(.a (Tup.cells ctConfig c)), (.c TI s)])) :=
  Hold.of (by kernel_rfl) h
theorem s_FullWords_t (c : TConfig) (s : Int) (r : TRes) (h : Hold (tawp s_FullWords_G (0 + 0) s_FullWords_c (TQ 0 0 s_FullWords_rs fun r' => r' = r) (tstart [(.a (Tup.cells ctConfig c)), (.c TI s)]))) : TCon Try.prog 146 [(.a (Tup.cells ctConfig c)), (.c TI s)] r :=
  tcon_gen (sg := [(.a ctConfig), (.c TI)]) mixed (TOk.cons s_StageRange_ok TOk.nil) s_FullWords_st (by kernel_rfl) (by kernel_rfl) (by kernel_rfl) (by kernel_rfl) h
theorem s_FullWords_h : s_FullWords_C := by
  intro c s
  refine tcon_bd rfl fun hb => s_FullWords_t c s _ (s_FullWords_v0 _ c s ?_)
  have hl_c_0 : (c.1).length ≤ 9223372036854775807 := hb.1.1.1
  have hl_c_1 : (c.2.1).length ≤ 9223372036854775807 := hb.1.2.1.1
  have hl_c_3 : (c.2.2.2.1).length ≤ 9223372036854775807 := hb.1.2.2.2.1.1
  have hl_c_4 : (c.2.2.2.2.1).length ≤ 9223372036854775807 := hb.1.2.2.2.2.1.1
  have hl_c_5 : (c.2.2.2.2.2).length ≤ 9223372036854775807 := hb.1.2.2.2.2.2.1.1
  have hr := range_ok c.1 c.2.1 s
  generalize hz : (if (m_stageRange c.1 c.2.1 s).1 < (m_stageRange c.1 c.2.1 s).2 then (gtd dOp c.1 ((m_stageRange c.1 c.2.1 s).2.toNat - 1)).2.2.1 else 0) = z
  have := sliceLoop c.1 _ _ hr.1 hr.2.1 hr.2.2.1 (fun r k => ∀ y : Int, w64 (y + (r.map fun o => o.2.1).sum + z) = (m_fullWords c s) → s_FullWords_A2 (fun r' => r' = s_FullWords_R (m_fullWords c s)) c s (w64 y) k) ?_ ?_ 0 (by simp [m_fullWords, hz])
  · rw [show (((m_stageRange c.1 c.2.1 s).1.toNat : Nat) : Int) = (m_stageRange c.1 c.2.1 s).1 by omega] at this
    exact this
  · intro y he
    refine s_FullWords_v2 (fun r' => r' = s_FullWords_R (m_fullWords c s)) c s _ _ ⟨fun h => by simp at h; omega, fun _ => ⟨fun h => ?_, fun h => R_eq ?_⟩⟩
    · have hlt : (m_stageRange c.1 c.2.1 s).1 < (m_stageRange c.1 c.2.1 s).2 := by simpa using h
      have e1 : Int.toNat (w64 ((m_stageRange c.1 c.2.1 s).2 - 1)) = (m_stageRange c.1 c.2.1 s).2.toNat - 1 ∧ (0 : Int) ≤ w64 ((m_stageRange c.1 c.2.1 s).2 - 1) := by
        rw [w64_ok (by omega) (by omega)]; omega
      refine ⟨⟨e1.2, by rw [e1.1]; omega⟩, R_eq ?_⟩
      rw [if_pos hlt] at hz
      rw [e1.1, w64_add_l, ← he, ← hz]
      simp
    · rw [if_neg (by simpa using h)] at hz
      rw [← he, ← hz]
      simp
  · intro k x r h1 h2 hlt hg ih y he
    refine s_FullWords_v2 (fun r' => r' = s_FullWords_R (m_fullWords c s)) c s _ _ ⟨fun _ => ?_, fun h => by simp at h; omega⟩
    rw [Int.toNat_natCast, hg, w64_ok (x := (k : Int) + 1) (by omega) (by omega), w64_add_l]
    refine ⟨⟨by omega, hlt⟩, ih _ ?_⟩
    rw [← he, List.map_cons, List.sum_cons]
    congr 1
    omega

theorem s_FullWords_ok : TRowOk Try.prog s_FullWords_row := rowOk fun x _ => s_FullWords_h x.1 x.2.1

def i_FullWords_R (t : Int) : TRes := ⟨(.c TI t), [], [], false, []⟩
def i_FullWords_row : TRow := mkRow 74 [(.a ctConfig), (.c TI)] fun x => (none, i_FullWords_R (m_fullWords x.1 x.2.1))
def i_FullWords_C : Prop := ∀ (x0 : TConfig) (x1 : Int), TCon Try.prog 74 [(.a (Tup.cells ctConfig x0)), (.c TI x1)] (i_FullWords_R (m_fullWords x0 x1))

/-! impl.FullWords -/
def i_FullWords_G : List TRow := [i_StageRange_row, i_sizesOf_row]
def i_FullWords_b2 : TCode :=
  (.seq (.seq (.reg [.op (some 26) (.mov (.s 9)),
     .op (some 27) (.mov (.s 6)),
     .op (some 28) (.bin .lss (.s 26) (.s 27))])
  (.cond (.s 28) .skip (.exit 0)))
 (.seq (.block 1 (.reg [.op (some 31) (.mov (.s 8)),
      .op (some 32) (.fad (.s 2) 0),
      .op (some 33) (.fad (.s 32) 0),
      .op (some 34) (.load (.s 33) 1 false),
      .op (some 35) (.mov (.s 9)),
      .op (some 36) (.iad (.s 34) (.s 35) ctOp),
      .op (some 37) (.fad (.s 36) 1),
      .op (some 38) (.load (.s 37) 1 false),
      .op (some 39) (.bin .add (.s 31) (.s 38)),
      .op (some 8) (.mov (.s 39))]))
  (.reg [.op (some 29) (.mov (.s 9)),
     .op (some 30) (.bin .add (.s 29) (.k (.c TI (1 : Int)))),
     .op (some 9) (.mov (.s 30))])))
def i_FullWords_L2 : List (Nat × Md) := [(2, .b [.d, .d, .d, .d, .d, .d]), (6, .one .d), (8, .one .d), (9, .one .d)]
def i_FullWords_y1 : TCode :=
  (.seq (.reg [.op (some 40) (.mov (.s 8)),
    .op (some 4) (.mov (.s 40))])
 .ret)
def i_FullWords_c : TCode :=
  (.seq (.reg [.op (some 2) (.box 103 (.s 0) 6),
    .op (some 4) (.mov (.k (.c TI (0 : Int))))])
 (.seq (.reg [.op (some 11) (.fad (.s 2) 0),
     .op (some 12) (.load (.s 11) 1 true),
     .op (some 13) (.fad (.s 2) 1),
     .op (some 14) (.load (.s 13) 1 false),
     .op (some 15) (.mov (.s 1)),
     .op (some 16) (.call 49 [(.s 12), (.s 14), (.s 15)]),
     .op (some 10) (.mov (.s 16)),
     .op (some 17) (.ext (.s 10) 0),
     .op (some 18) (.ext (.s 10) 1),
     .op (some 5) (.mov (.s 17)),
     .op (some 6) (.mov (.s 18))])
  (.seq (.reg [.op (some 20) (.load (.s 2) 6 true),
      .op (some 21) (.mov (.s 1)),
      .op (some 22) (.call 142 [(.s 20), (.s 21)]),
      .op (some 19) (.mov (.s 22)),
      .op (some 23) (.ext (.s 19) 0),
      .op (some 24) (.ext (.s 19) 1),
      .op (some 7) (.mov (.s 23)),
      .op (some 8) (.mov (.s 24))])
   (.seq (.seq (.reg [.op (some 25) (.mov (.s 5)),
        .op (some 9) (.mov (.s 25))])
     (.block 0 (.loop i_FullWords_L2 i_FullWords_b2)))
    i_FullWords_y1))))
def i_FullWords_rs : List (ARv × Md) := [(.t 4, .one .d)]
theorem i_FullWords_st : compF Try.prog 74 = some (i_FullWords_c.er, i_FullWords_rs.map Prod.fst, 41) := by kernel_rfl
def i_FullWords_Q (K : TRes → Prop) : TPost := TQ 0 0 i_FullWords_rs K
def i_FullWords_q1 (K : TRes → Prop) : TPost := Qseq (tawp i_FullWords_G 0 i_FullWords_y1 (i_FullWords_Q K)) (i_FullWords_Q K)
def i_FullWords_q2 (K : TRes → Prop) : TPost := Qblk 0 (i_FullWords_q1 K)
def i_FullWords_A2 (K : TRes → Prop) (c : TConfig) (s : Int) (n : Int) (i : Int) : Prop := Loop i_FullWords_G 0 i_FullWords_L2 i_FullWords_b2 (i_FullWords_q2 K) ⟨[(2, (.p 0 0 0)), (6, (.c TI ((m_stageRange c.1 c.2.1 s).2))), (8, (.c TI n)), (9, (.c TI i))], [(0, (.box [(.c (.sl ctOp) c.1), (.c (.sl [TI]) c.2.1), (.c TI c.2.2.1), (.c (.sl [.bool]) c.2.2.2.1), (.c (.sl [TI]) c.2.2.2.2.1), (.c (.sl [TI]) c.2.2.2.2.2)]))], 1⟩
theorem i_FullWords_v2 (K : TRes → Prop) (c : TConfig) (s : Int) (n : Int) (i : Int) (h :
  (((decide (i < ((m_stageRange c.1 c.2.1 s).2))) = true → (((0 : Int) ≤ i ∧ Int.toNat i < (c.1).length) ∧ (i_FullWords_A2 K c s (w64 (n + ((gtd dOp c.1 (Int.toNat i)).2.1))) (w64 (i + (1 : Int)))))) ∧ ((decide (i < ((m_stageRange c.1 c.2.1 s).2))) = false → K (i_FullWords_R n)))) : i_FullWords_A2 K c s n i :=
  Loop.of (by kernel_rfl) h
theorem i_FullWords_v0 (K : TRes → Prop) (c : TConfig) (s : Int) (h :
  (i_FullWords_A2 K c s ((m_sizesOf c s).2) ((m_stageRange c.1 c.2.1 s).1))) : Hold (tawp i_FullWords_G (0 + 0) i_FullWords_c (TQ 0 0 i_FullWords_rs K) (tstart [(.a (Tup.cells ctConfig c)), (.c TI s)])) :=
  Hold.of (by kernel_rfl) h
theorem i_FullWords_t (c : TConfig) (s : Int) (r : TRes) (h : Hold (tawp i_FullWords_G (0 + 0) i_FullWords_c (TQ 0 0 i_FullWords_rs fun r' => r' = r) (tstart [(.a (Tup.cells ctConfig c)), (.c TI s)]))) : TCon Try.prog 74 [(.a (Tup.cells ctConfig c)), (.c TI s)] r :=
  tcon_gen (sg := [(.a ctConfig), (.c TI)]) mixed (TOk.cons i_StageRange_ok (TOk.cons i_sizesOf_ok TOk.nil)) i_FullWords_st (by kernel_rfl) (by kernel_rfl) (by kernel_rfl) (by kernel_rfl) h
theorem i_FullWords_h : i_FullWords_C := by
  intro c s
  refine tcon_bd rfl fun hb => i_FullWords_t c s _ (i_FullWords_v0 _ c s ?_)
  have hl_c_0 : (c.1).length ≤ 9223372036854775807 := hb.1.1.1
  have hl_c_1 : (c.2.1).length ≤ 9223372036854775807 := hb.1.2.1.1
  have hl_c_3 : (c.2.2.2.1).length ≤ 9223372036854775807 := hb.1.2.2.2.1.1
  have hl_c_4 : (c.2.2.2.2.1).length ≤ 9223372036854775807 := hb.1.2.2.2.2.1.1
  have hl_c_5 : (c.2.2.2.2.2).length ≤ 9223372036854775807 := hb.1.2.2.2.2.2.1.1
  have hr := range_ok c.1 c.2.1 s
  generalize hz : (if (m_stageRange c.1 c.2.1 s).1 < (m_stageRange c.1 c.2.1 s).2 then (gtd dOp c.1 ((m_stageRange c.1 c.2.1 s).2.toNat - 1)).2.2.1 else 0) = z
  have ez : (m_sizesOf c s).2 = z := by
    rw [← hz]
    unfold m_sizesOf
    by_cases h : (m_stageRange c.1 c.2.1 s).1 = (m_stageRange c.1 c.2.1 s).2
    · simp [h]
    · simp only [if_neg h]; rw [if_pos (by omega)]
  have hzm : 0 ≤ z ∧ z ≤ 6 := by
    rw [← hz]
    split
    · rename_i h
      have hc := (hr.2.2.2.1 h).1
      simp only [m_cutsOk, m_modelOk, Bool.and_eq_true] at hc
      have := opOk_in (chain_get hc.1.2 _ _ (gtd_get (i := (m_stageRange c.1 c.2.1 s).2.toNat - 1) (by omega) dOp)).1
      omega
    · omega
  have := sliceLoop c.1 _ _ hr.1 hr.2.1 hr.2.2.1 (fun r k => ∀ y : Int, w64 (y + (r.map fun o => o.2.1).sum) = (m_fullWords c s) → i_FullWords_A2 (fun r' => r' = i_FullWords_R (m_fullWords c s)) c s (w64 y) k) ?_ ?_ z (by simp only [m_fullWords, hz]; rw [Int.add_comm])
  · rw [show (((m_stageRange c.1 c.2.1 s).1.toNat : Nat) : Int) = (m_stageRange c.1 c.2.1 s).1 by omega, w64_ok (x := z) (by omega) (by omega), ← ez] at this
    exact this
  · intro y he
    refine i_FullWords_v2 (fun r' => r' = i_FullWords_R (m_fullWords c s)) c s _ _ ⟨fun h => by simp at h; omega, fun _ => R_eq ?_⟩
    simpa using he
  · intro k x r h1 h2 hlt hg ih y he
    refine i_FullWords_v2 (fun r' => r' = i_FullWords_R (m_fullWords c s)) c s _ _ ⟨fun _ => ?_, fun h => by simp at h; omega⟩
    rw [Int.toNat_natCast, hg, w64_ok (x := (k : Int) + 1) (by omega) (by omega), w64_add_l]
    refine ⟨⟨by omega, hlt⟩, ih _ ?_⟩
    rw [← he, List.map_cons, List.sum_cons, Int.add_assoc]

theorem i_FullWords_ok : TRowOk Try.prog i_FullWords_row := rowOk fun x _ => i_FullWords_h x.1 x.2.1

def i_SavedWords_R (t : Int) : TRes := ⟨(.c TI t), [], [], false, []⟩
def i_SavedWords_row : TRow := mkRow 75 [(.a ctConfig), (.c TI)] fun x => (none, i_SavedWords_R (m_savedWords x.1 x.2.1))
def i_SavedWords_C : Prop := ∀ (x0 : TConfig) (x1 : Int), TCon Try.prog 75 [(.a (Tup.cells ctConfig x0)), (.c TI x1)] (i_SavedWords_R (m_savedWords x0 x1))

/-! impl.SavedWords -/
def i_SavedWords_G : List TRow := [i_redoOf_row, i_sizesOf_row, i_FullWords_row]
def i_SavedWords_c : TCode :=
  (.seq (.reg [.op (some 2) (.box 103 (.s 0) 6),
    .op (some 4) (.mov (.k (.c TI (0 : Int))))])
 (.seq (.seq (.reg [.op (some 7) (.load (.s 2) 6 true),
      .op (some 8) (.mov (.s 1)),
      .op (some 9) (.call 143 [(.s 7), (.s 8)])])
   (.cond (.s 9) (.seq (.reg [.op (some 11) (.load (.s 2) 6 true),
        .op (some 12) (.mov (.s 1)),
        .op (some 13) (.call 142 [(.s 11), (.s 12)]),
        .op (some 10) (.mov (.s 13)),
        .op (some 14) (.ext (.s 10) 0),
        .op (some 15) (.ext (.s 10) 1),
        .op (some 5) (.mov (.s 14)),
        .op (some 6) (.mov (.s 15))])
     (.seq (.reg [.op (some 16) (.mov (.s 5)),
         .op (some 4) (.mov (.s 16))])
      .ret)) .skip))
  (.seq (.reg [.op (some 17) (.load (.s 2) 6 true),
      .op (some 18) (.mov (.s 1)),
      .op (some 19) (.call 74 [(.s 17), (.s 18)]),
      .op (some 4) (.mov (.s 19))])
   .ret)))
def i_SavedWords_rs : List (ARv × Md) := [(.t 4, .one .d)]
theorem i_SavedWords_st : compF Try.prog 75 = some (i_SavedWords_c.er, i_SavedWords_rs.map Prod.fst, 20) := by kernel_rfl
def i_SavedWords_Q (K : TRes → Prop) : TPost := TQ 0 0 i_SavedWords_rs K
theorem i_SavedWords_v0 (K : TRes → Prop) (c : TConfig) (s : Int) (h :
  (((m_redoOf c s) = true → K (i_SavedWords_R ((m_sizesOf c s).1))) ∧ ((m_redoOf c s) = false → K (i_SavedWords_R (m_fullWords c s))))) : Hold (tawp i_SavedWords_G (0 + 0) i_SavedWords_c (TQ 0 0 i_SavedWords_rs K) (tstart [(.a (Tup.cells ctConfig c)), (.c TI s)])) :=
  Hold.of (by kernel_rfl) h
theorem i_SavedWords_t (c : TConfig) (s : Int) (r : TRes) (h : Hold (tawp i_SavedWords_G (0 + 0) i_SavedWords_c (TQ 0 0 i_SavedWords_rs fun r' => r' = r) (tstart [(.a (Tup.cells ctConfig c)), (.c TI s)]))) : TCon Try.prog 75 [(.a (Tup.cells ctConfig c)), (.c TI s)] r :=
  tcon_gen (sg := [(.a ctConfig), (.c TI)]) mixed (TOk.cons i_redoOf_ok (TOk.cons i_sizesOf_ok (TOk.cons i_FullWords_ok TOk.nil))) i_SavedWords_st (by kernel_rfl) (by kernel_rfl) (by kernel_rfl) (by kernel_rfl) h
theorem i_SavedWords_h : i_SavedWords_C := by
  intro c s
  refine tcon_bd rfl fun hb => i_SavedWords_t c s _ (i_SavedWords_v0 _ c s ?_)
  have hl_c_0 : (c.1).length ≤ 9223372036854775807 := hb.1.1.1
  have hl_c_1 : (c.2.1).length ≤ 9223372036854775807 := hb.1.2.1.1
  have hl_c_3 : (c.2.2.2.1).length ≤ 9223372036854775807 := hb.1.2.2.2.1.1
  have hl_c_4 : (c.2.2.2.2.1).length ≤ 9223372036854775807 := hb.1.2.2.2.2.1.1
  have hl_c_5 : (c.2.2.2.2.2).length ≤ 9223372036854775807 := hb.1.2.2.2.2.2.1.1
  refine ⟨fun h => R_eq (by simp [m_savedWords, h]), fun h => R_eq (by simp [m_savedWords, h])⟩

theorem i_SavedWords_ok : TRowOk Try.prog i_SavedWords_row := rowOk fun x _ => i_SavedWords_h x.1 x.2.1

def s_SavedWords_R (t : Int) : TRes := ⟨(.c TI t), [], [], false, []⟩
def s_SavedWords_row : TRow := mkRow 145 [(.a ctConfig), (.c TI)] fun x => (none, s_SavedWords_R (m_savedWords x.1 x.2.1))
def s_SavedWords_C : Prop := ∀ (x0 : TConfig) (x1 : Int), TCon Try.prog 145 [(.a (Tup.cells ctConfig x0)), (.c TI x1)] (s_SavedWords_R (m_savedWords x0 x1))

/-! spec.SavedWords -/
def s_SavedWords_G : List TRow := [s_StageRange_row, s_FullWords_row]
def s_SavedWords_c : TCode :=
  (.seq (.reg [.op (some 2) (.box 103 (.s 0) 6),
    .op (some 4) (.mov (.k (.c TI (0 : Int))))])
 (.seq (.reg [.op (some 8) (.fad (.s 2) 0),
     .op (some 9) (.load (.s 8) 1 true),
     .op (some 10) (.fad (.s 2) 1),
     .op (some 11) (.load (.s 10) 1 false),
     .op (some 12) (.mov (.s 1)),
     .op (some 13) (.call 144 [(.s 9), (.s 11), (.s 12)]),
     .op (some 7) (.mov (.s 13)),
     .op (some 14) (.ext (.s 7) 0),
     .op (some 15) (.ext (.s 7) 1),
     .op (some 5) (.mov (.s 14)),
     .op (some 6) (.mov (.s 15))])
  (.seq (.seq (.reg [.op (some 16) (.mov (.s 6)),
       .op (some 17) (.mov (.s 5)),
       .op (some 18) (.bin .gtr (.s 16) (.s 17)),
       .op (some 19) (.mov (.s 18)),
       .grp 19 true [.op (some 20) (.mov (.s 1)), .op (some 21) (.fad (.s 2) 3), .op (some 22) (.load (.s 21) 1 false), .op (some 23) (.len (.s 22)), .op (some 24) (.bin .lss (.s 20) (.s 23))] 25 (.s 24),
       .op (some 26) (.mov (.s 25)),
       .grp 26 true [.op (some 27) (.fad (.s 2) 3), .op (some 28) (.load (.s 27) 1 false), .op (some 29) (.mov (.s 1)), .op (some 30) (.iad (.s 28) (.s 29) [.bool]), .op (some 31) (.load (.s 30) 1 false)] 32 (.s 31)])
    (.cond (.s 32) (.seq (.reg [.op (some 33) (.fad (.s 2) 0),
         .op (some 34) (.fad (.s 33) 0),
         .op (some 35) (.load (.s 34) 1 false),
         .op (some 36) (.mov (.s 5)),
         .op (some 37) (.iad (.s 35) (.s 36) ctOp),
         .op (some 38) (.fad (.s 37) 1),
         .op (some 39) (.load (.s 38) 1 false),
         .op (some 4) (.mov (.s 39))])
      .ret) .skip))
   (.seq (.reg [.op (some 40) (.load (.s 2) 6 true),
       .op (some 41) (.mov (.s 1)),
       .op (some 42) (.call 146 [(.s 40), (.s 41)]),
       .op (some 4) (.mov (.s 42))])
    .ret))))
def s_SavedWords_rs : List (ARv × Md) := [(.t 4, .one .d)]
theorem s_SavedWords_st : compF Try.prog 145 = some (s_SavedWords_c.er, s_SavedWords_rs.map Prod.fst, 43) := by kernel_rfl
def s_SavedWords_Q (K : TRes → Prop) : TPost := TQ 0 0 s_SavedWords_rs K
theorem s_SavedWords_v0 (K : TRes → Prop) (c : TConfig) (s : Int) (h :
  ((((decide (((m_stageRange c.1 c.2.1 s).2) > ((m_stageRange c.1 c.2.1 s).1))) && (decide (s < ((c.2.2.2.1).length : Int)))) = true → ((0 : Int) ≤ s ∧ Int.toNat s < (c.2.2.2.1).length)) ∧ (((((decide (((m_stageRange c.1 c.2.1 s).2) > ((m_stageRange c.1 c.2.1 s).1))) && (decide (s < ((c.2.2.2.1).length : Int)))) && (gtd (false : Bool) c.2.2.2.1 (Int.toNat s))) = true → (((0 : Int) ≤ (m_stageRange c.1 c.2.1 s).1 ∧ Int.toNat ((m_stageRange c.1 c.2.1 s).1) < (c.1).length) ∧ K (s_SavedWords_R ((gtd dOp c.1 (Int.toNat ((m_stageRange c.1 c.2.1 s).1))).2.1)))) ∧ ((((decide (((m_stageRange c.1 c.2.1 s).2) > ((m_stageRange c.1 c.2.1 s).1))) && (decide (s < ((c.2.2.2.1).length : Int)))) && (gtd (false : Bool) c.2.2.2.1 (Int.toNat s))) = false → K (s_SavedWords_R (m_fullWords c s)))))) : Hold (tawp s_SavedWords_G (0 + 0) s_SavedWords_c (TQ 0 0 s_SavedWords_rs K) (tstart [(.a (Tup.cells ctConfig c)), (.c TI s)])) :=
  Hold.of (by kernel_rfl) h
theorem s_SavedWords_t (c : TConfig) (s : Int) (r : TRes) (h : Hold (tawp s_SavedWords_G (0 + 0) s_SavedWords_c (TQ 0 0 s_SavedWords_rs fun r' => r' = r) (tstart [(.a (Tup.cells ctConfig c)), (.c TI s)]))) : TCon Try.prog 145 [(.a (Tup.cells ctConfig c)), (.c TI s)] r :=
  tcon_gen (sg := [(.a ctConfig), (.c TI)]) mixed (TOk.cons s_StageRange_ok (TOk.cons s_FullWords_ok TOk.nil)) s_SavedWords_st (by kernel_rfl) (by kernel_rfl) (by kernel_rfl) (by kernel_rfl) h
theorem s_SavedWords_h : s_SavedWords_C := by
  intro c s
  refine tcon_bd rfl fun hb => s_SavedWords_t c s _ (s_SavedWords_v0 _ c s ?_)
  have hl_c_0 : (c.1).length ≤ 9223372036854775807 := hb.1.1.1
  have hl_c_1 : (c.2.1).length ≤ 9223372036854775807 := hb.1.2.1.1
  have hl_c_3 : (c.2.2.2.1).length ≤ 9223372036854775807 := hb.1.2.2.2.1.1
  have hl_c_4 : (c.2.2.2.2.1).length ≤ 9223372036854775807 := hb.1.2.2.2.2.1.1
  have hl_c_5 : (c.2.2.2.2.2).length ≤ 9223372036854775807 := hb.1.2.2.2.2.2.1.1
  have hr := range_ok c.1 c.2.1 s
  refine ⟨fun h => ?_, fun h => ⟨⟨by omega, ?_⟩, R_eq ?_⟩, fun h => R_eq ?_⟩
  · simp at h
    have := hr.2.2.2.1 h.1
    omega
  · simp at h; omega
  · simp at h
    have h1 := hr.2.2.2.1 h.1.1
    have e1 : m_redoOf c s = true := by simp [m_redoOf, h]; omega
    simp [m_savedWords, e1, m_sizesOf, Int.ne_of_lt h.1.1]
  · by_cases e1 : m_redoOf c s = true
    · simp only [m_redoOf, Bool.and_eq_true, decide_eq_true_eq] at e1
      have hn : ¬ (m_stageRange c.1 c.2.1 s).1 < (m_stageRange c.1 c.2.1 s).2 := by
        intro hlt
        simp [hlt, e1] at h
      have e2 : (m_stageRange c.1 c.2.1 s).1 = (m_stageRange c.1 c.2.1 s).2 := by omega
      simp [m_savedWords, m_redoOf, e1, m_sizesOf, e2, m_fullWords, slice, w64_0]
    · simp [m_savedWords, e1]

theorem s_SavedWords_ok : TRowOk Try.prog s_SavedWords_row := rowOk fun x _ => s_SavedWords_h x.1 x.2.1

def s_PeakOf_R (t : Int) : TRes := ⟨(.c TI t), [], [], false, []⟩
def s_PeakOf_row : TRow := mkRow 76 [(.a ctConfig), (.c TI), (.c TI)] fun x => (none, s_PeakOf_R (m_peakOf x.1 x.2.1 x.2.2.1))
def s_PeakOf_C : Prop := ∀ (x0 : TConfig) (x1 : Int) (x2 : Int), TCon Try.prog 76 [(.a (Tup.cells ctConfig x0)), (.c TI x1), (.c TI x2)] (s_PeakOf_R (m_peakOf x0 x1 x2))

/-! spec.PeakOf -/
def s_PeakOf_G : List TRow := [s_StageRange_row, s_l1In_row, s_SavedWords_row, s_FullWords_row]
def s_PeakOf_y1 : TCode :=
  (.seq (.draw [.op (some 48) (.mov (.s 9)),
    .op (some 49) (.load (.s 3) 6 true),
    .op (some 50) (.mov (.s 1)),
    .op (some 51) (.call 145 [(.s 49), (.s 50)]),
    .op (some 52) (.bin .mul (.s 48) (.s 51)),
    .op (some 53) (.fad (.s 3) 0),
    .op (some 54) (.fad (.s 53) 0),
    .op (some 55) (.load (.s 54) 1 false),
    .op (some 56) (.mov (.s 7)),
    .op (some 57) (.iad (.s 55) (.s 56) ctOp),
    .op (some 58) (.fad (.s 57) 1),
    .op (some 59) (.load (.s 58) 1 false),
    .op (some 60) (.fad (.s 3) 0),
    .op (some 61) (.fad (.s 60) 0),
    .op (some 62) (.load (.s 61) 1 false),
    .op (some 63) (.mov (.s 8)),
    .op (some 64) (.bin .sub (.s 63) (.k (.c TI (1 : Int)))),
    .op (some 65) (.iad (.s 62) (.s 64) ctOp),
    .op (some 66) (.fad (.s 65) 2),
    .op (some 67) (.load (.s 66) 1 false),
    .op (some 68) (.mm true (.s 59) (.s 67)),
    .op (some 69) (.bin .add (.s 52) (.s 68)),
    .op (some 10) (.mov (.s 69))] [(3, 5), (3, 6), (3, 7), (3, 9), (3, 10), (3, 11), (3, 12), (3, 13), (3, 14), (3, 17), (3, 18), (3, 19)])
 (.seq (.seq (.reg [.op (some 70) (.mov (.s 1)),
      .op (some 71) (.fad (.s 3) 3),
      .op (some 72) (.load (.s 71) 1 false),
      .op (some 73) (.len (.s 72)),
      .op (some 74) (.bin .lss (.s 70) (.s 73)),
      .op (some 75) (.mov (.s 74)),
      .grp 75 true [.op (some 76) (.fad (.s 3) 3), .op (some 77) (.load (.s 76) 1 false), .op (some 78) (.mov (.s 1)), .op (some 79) (.iad (.s 77) (.s 78) [.bool]), .op (some 80) (.load (.s 79) 1 false)] 81 (.s 80)])
   (.cond (.s 81) (.reg [.op (some 82) (.mov (.s 10)),
       .op (some 83) (.load (.s 3) 6 true),
       .op (some 84) (.mov (.s 1)),
       .op (some 85) (.call 146 [(.s 83), (.s 84)]),
       .op (some 86) (.bin .add (.s 82) (.s 85)),
       .op (some 10) (.mov (.s 86))]) .skip))
  (.seq (.reg [.op (some 87) (.mov (.s 10)),
      .op (some 6) (.mov (.s 87))])
   .ret)))
def s_PeakOf_L1 : List (Nat × Md) := [(1, .one .d), (3, .b [.d, .d, .d, .d, .d, .d]), (7, .one .d), (8, .one .d), (9, .one .d)]
def s_PeakOf_y1w : TCode := .wk s_PeakOf_L1 s_PeakOf_y1
def s_PeakOf_c : TCode :=
  (.seq (.reg [.op (some 3) (.box 103 (.s 0) 6),
    .op (some 6) (.mov (.k (.c TI (0 : Int))))])
 (.seq (.reg [.op (some 12) (.fad (.s 3) 0),
     .op (some 13) (.load (.s 12) 1 true),
     .op (some 14) (.fad (.s 3) 1),
     .op (some 15) (.load (.s 14) 1 false),
     .op (some 16) (.mov (.s 1)),
     .op (some 17) (.call 144 [(.s 13), (.s 15), (.s 16)]),
     .op (some 11) (.mov (.s 17)),
     .op (some 18) (.ext (.s 11) 0),
     .op (some 19) (.ext (.s 11) 1),
     .op (some 7) (.mov (.s 18)),
     .op (some 8) (.mov (.s 19))])
  (.seq (.seq (.reg [.op (some 20) (.mov (.s 8)),
       .op (some 21) (.mov (.s 7)),
       .op (some 22) (.bin .leq (.s 20) (.s 21)),
       .op (some 23) (.mov (.s 22)),
       .grp 23 false [.op (some 24) (.mov (.s 2)), .op (some 25) (.call 102 [(.s 24), (.k (.c TI (1 : Int))), (.k (.c TI (5 : Int)))]), .op (some 26) (.not (.s 25))] 27 (.s 26),
       .op (some 28) (.mov (.s 27)),
       .grp 28 false [.op (some 29) (.fad (.s 3) 1), .op (some 30) (.load (.s 29) 1 false), .op (some 31) (.len (.s 30)), .op (some 32) (.bin .add (.s 31) (.k (.c TI (1 : Int)))), .op (some 33) (.call 102 [(.s 32), (.k (.c TI (1 : Int))), (.k (.c TI (4 : Int)))]), .op (some 34) (.not (.s 33))] 35 (.s 34)])
    (.cond (.s 35) (.seq (.reg [.op (some 6) (.mov (.k (.c TI (0 : Int))))])
      .ret) .skip))
   (.seq (.reg [.op (some 36) (.mov (.s 2)),
       .op (some 9) (.mov (.s 36))])
    (.seq (.seq (.reg [.op (some 37) (.fad (.s 3) 2),
         .op (some 38) (.load (.s 37) 1 false),
         .op (some 39) (.bin .eql (.s 38) (.k (.c TI (2 : Int))))])
      (.cond (.s 39) (.reg [.op (some 40) (.mov (.s 2)),
          .op (some 41) (.fad (.s 3) 1),
          .op (some 42) (.load (.s 41) 1 false),
          .op (some 43) (.len (.s 42)),
          .op (some 44) (.bin .add (.s 43) (.k (.c TI (1 : Int)))),
          .op (some 45) (.mov (.s 1)),
          .op (some 46) (.bin .sub (.s 44) (.s 45)),
          .op (some 47) (.mm false (.s 40) (.s 46)),
          .op (some 9) (.mov (.s 47))]) .skip))
     s_PeakOf_y1w)))))
def s_PeakOf_rs : List (ARv × Md) := [(.t 6, .one .d)]
theorem s_PeakOf_st : compF Try.prog 76 = some (s_PeakOf_c.er, s_PeakOf_rs.map Prod.fst, 88) := by kernel_rfl
def s_PeakOf_Q (K : TRes → Prop) : TPost := TQ 0 0 s_PeakOf_rs K
def s_PeakOf_A1 (K : TRes → Prop) (c : TConfig) (s : Int) (k : Int) : Prop := tawp s_PeakOf_G 0 s_PeakOf_y1 (s_PeakOf_Q K) ⟨[(1, (.c TI s)), (3, (.p 0 0 0)), (7, (.c TI ((m_stageRange c.1 c.2.1 s).1))), (8, (.c TI ((m_stageRange c.1 c.2.1 s).2))), (9, (.c TI k))], [(0, (.box [(.c (.sl ctOp) c.1), (.c (.sl [TI]) c.2.1), (.c TI c.2.2.1), (.c (.sl [.bool]) c.2.2.2.1), (.c (.sl [TI]) c.2.2.2.2.1), (.c (.sl [TI]) c.2.2.2.2.2)]))], 1⟩
theorem s_PeakOf_v1 (K : TRes → Prop) (c : TConfig) (s : Int) (k : Int) (h :
  ((((0 : Int) ≤ (m_stageRange c.1 c.2.1 s).1 ∧ Int.toNat ((m_stageRange c.1 c.2.1 s).1) < (c.1).length) ∧ ((0 : Int) ≤ w64 (((m_stageRange c.1 c.2.1 s).2) - (1 : Int)) ∧ Int.toNat (w64 (((m_stageRange c.1 c.2.1 s).2) - (1 : Int))) < (c.1).length)) ∧ (((decide (s < ((c.2.2.2.1).length : Int))) = true → ((0 : Int) ≤ s ∧ Int.toNat s < (c.2.2.2.1).length)) ∧ ((((decide (s < ((c.2.2.2.1).length : Int))) && (gtd (false : Bool) c.2.2.2.1 (Int.toNat s))) = true → K (s_PeakOf_R (w64 ((w64 ((w64 (k * (m_savedWords c s))) + (if ((gtd dOp c.1 (Int.toNat ((m_stageRange c.1 c.2.1 s).1))).2.1) < ((gtd dOp c.1 (Int.toNat (w64 (((m_stageRange c.1 c.2.1 s).2) - (1 : Int))))).2.2.1) then ((gtd dOp c.1 (Int.toNat (w64 (((m_stageRange c.1 c.2.1 s).2) - (1 : Int))))).2.2.1) else ((gtd dOp c.1 (Int.toNat ((m_stageRange c.1 c.2.1 s).1))).2.1)))) + (m_fullWords c s))))) ∧ (((decide (s < ((c.2.2.2.1).length : Int))) && (gtd (false : Bool) c.2.2.2.1 (Int.toNat s))) = false → K (s_PeakOf_R (w64 ((w64 (k * (m_savedWords c s))) + (if ((gtd dOp c.1 (Int.toNat ((m_stageRange c.1 c.2.1 s).1))).2.1) < ((gtd dOp c.1 (Int.toNat (w64 (((m_stageRange c.1 c.2.1 s).2) - (1 : Int))))).2.2.1) then ((gtd dOp c.1 (Int.toNat (w64 (((m_stageRange c.1 c.2.1 s).2) - (1 : Int))))).2.2.1) else ((gtd dOp c.1 (Int.toNat ((m_stageRange c.1 c.2.1 s).1))).2.1)))))))))) : Hold (s_PeakOf_A1 K c s k) :=
  Hold.of (by kernel_rfl) h
theorem s_PeakOf_v0 (K : TRes → Prop) (c : TConfig) (s : Int) (micro : Int) (h :
  (((((decide (((m_stageRange c.1 c.2.1 s).2) ≤ ((m_stageRange c.1 c.2.1 s).1))) || (!(m_in micro (1 : Int) (5 : Int)))) || (!(m_in (w64 (((c.2.1).length : Int) + (1 : Int))) (1 : Int) (4 : Int)))) = true → K (s_PeakOf_R (0 : Int))) ∧ ((((decide (((m_stageRange c.1 c.2.1 s).2) ≤ ((m_stageRange c.1 c.2.1 s).1))) || (!(m_in micro (1 : Int) (5 : Int)))) || (!(m_in (w64 (((c.2.1).length : Int) + (1 : Int))) (1 : Int) (4 : Int)))) = false → (((c.2.2.1 == (2 : Int)) = true → (s_PeakOf_A1 K c s (if (w64 ((w64 (((c.2.1).length : Int) + (1 : Int))) - s)) < micro then (w64 ((w64 (((c.2.1).length : Int) + (1 : Int))) - s)) else micro))) ∧ ((c.2.2.1 == (2 : Int)) = false → (s_PeakOf_A1 K c s micro)))))) : Hold (tawp s_PeakOf_G (0 + 0) s_PeakOf_c (TQ 0 0 s_PeakOf_rs K) (tstart [(.a (Tup.cells ctConfig c)), (.c TI s), (.c TI micro)])) :=
  Hold.of (by kernel_rfl) h
theorem s_PeakOf_t (c : TConfig) (s : Int) (micro : Int) (r : TRes) (h : Hold (tawp s_PeakOf_G (0 + 0) s_PeakOf_c (TQ 0 0 s_PeakOf_rs fun r' => r' = r) (tstart [(.a (Tup.cells ctConfig c)), (.c TI s), (.c TI micro)]))) : TCon Try.prog 76 [(.a (Tup.cells ctConfig c)), (.c TI s), (.c TI micro)] r :=
  tcon_gen (sg := [(.a ctConfig), (.c TI), (.c TI)]) mixed (TOk.cons s_StageRange_ok (TOk.cons s_l1In_ok (TOk.cons s_SavedWords_ok (TOk.cons s_FullWords_ok TOk.nil)))) s_PeakOf_st (by kernel_rfl) (by kernel_rfl) (by kernel_rfl) (by kernel_rfl) h
theorem s_PeakOf_h : s_PeakOf_C := by
  intro c s micro
  refine tcon_bd rfl fun hb => s_PeakOf_t c s micro _ (s_PeakOf_v0 _ c s micro ?_)
  have hl_c_0 : (c.1).length ≤ 9223372036854775807 := hb.1.1.1
  have hl_c_1 : (c.2.1).length ≤ 9223372036854775807 := hb.1.2.1.1
  have hl_c_3 : (c.2.2.2.1).length ≤ 9223372036854775807 := hb.1.2.2.2.1.1
  have hl_c_4 : (c.2.2.2.2.1).length ≤ 9223372036854775807 := hb.1.2.2.2.2.1.1
  have hl_c_5 : (c.2.2.2.2.2).length ≤ 9223372036854775807 := hb.1.2.2.2.2.2.1.1
  have hr := range_ok c.1 c.2.1 s
  have hs := stages_le (c := c)
  refine ⟨fun h => R_eq ?_, fun h => ?_⟩
  · unfold m_peakOf
    rw [if_neg]
    intro h2
    simp only [Bool.and_eq_true, m_in_iff, decide_eq_true_eq] at h2
    have hc := hs.2.2.1.1 (by omega)
    have hst := hs.2.2.2 hc
    have := hr.2.2.2.2 ⟨hc, by omega, by omega⟩
    rw [← hst] at h
    have e := w64_ok (x := m_stagesOf c) (by omega) (by omega)
    rw [e] at h
    grind [m_in]
  · have hlt : (m_stageRange c.1 c.2.1 s).1 < (m_stageRange c.1 c.2.1 s).2 := by grind
    have hc := hr.2.2.2.1 hlt
    have hst := hs.2.2.2 hc.1
    have hz : m_sizesOf c s = ((gtd dOp c.1 (m_stageRange c.1 c.2.1 s).1.toNat).2.1, (gtd dOp c.1 ((m_stageRange c.1 c.2.1 s).2.toNat - 1)).2.2.1) := by
      unfold m_sizesOf; simp only [if_neg (Int.ne_of_lt hlt)]
    have e1 : Int.toNat (w64 ((m_stageRange c.1 c.2.1 s).2 - 1)) = (m_stageRange c.1 c.2.1 s).2.toNat - 1 ∧ (0 : Int) ≤ w64 ((m_stageRange c.1 c.2.1 s).2 - 1) := by
      rw [w64_ok (by omega) (by omega)]; omega
    have e2 : w64 ((c.2.1.length : Int) + 1) = m_stagesOf c := by rw [hst]; exact w64_ok (by omega) (by omega)
    have e3 : w64 (m_stagesOf c - s) = m_stagesOf c - s := w64_ok (by omega) (by omega)
    have hred : m_redoOf c s = (decide (s < (c.2.2.2.1.length : Int)) && gtd false c.2.2.2.1 s.toNat) := by
      unfold m_redoOf; rw [decide_eq_true hc.2.1, Bool.true_and]
    rw [e2] at h ⊢
    have hin : (m_in s 0 (m_stagesOf c - 1) && m_in micro 1 5 && decide (m_stagesOf c ≤ 4)) = true := by grind [m_in]
    have key : ∀ k : Int, m_peakOf c s micro = w64 (w64 (w64 (k * m_savedWords c s) + iMax (m_sizesOf c s).1 (m_sizesOf c s).2) + if m_redoOf c s then m_fullWords c s else 0) → s_PeakOf_A1 (fun r' => r' = s_PeakOf_R (m_peakOf c s micro)) c s k := by
      intro k hk
      refine (s_PeakOf_v1 (fun r' => r' = s_PeakOf_R (m_peakOf c s micro)) c s _ ⟨⟨⟨by omega, by omega⟩, e1.2, by rw [e1.1]; omega⟩, fun h => ⟨by omega, by simp at h; omega⟩, fun h => R_eq ?_, fun h => R_eq ?_⟩).h
      · rw [hk, hred, h, e1.1, hz]; rfl
      · rw [hk, hred, h, e1.1, hz]; simp [w64_w64]; rfl
    rw [e3]
    refine ⟨fun h1 => key _ ?_, fun h1 => key _ ?_⟩
    · simp only [m_peakOf, hin, if_true]
      simp at h1
      rw [if_pos h1]; rfl
    · simp only [m_peakOf, hin, if_true]
      simp at h1
      rw [if_neg h1]

theorem s_PeakOf_ok : TRowOk Try.prog s_PeakOf_row := rowOk fun x _ => s_PeakOf_h x.1 x.2.1 x.2.2.1

def i_PeakOf_R (t : Int) : TRes := ⟨(.c TI t), [], [], false, []⟩
def i_PeakOf_row : TRow := mkRow 73 [(.a ctConfig), (.c TI), (.c TI)] fun x => (none, i_PeakOf_R (m_peakOf x.1 x.2.1 x.2.2.1))
def i_PeakOf_C : Prop := ∀ (x0 : TConfig) (x1 : Int) (x2 : Int), TCon Try.prog 73 [(.a (Tup.cells ctConfig x0)), (.c TI x1), (.c TI x2)] (i_PeakOf_R (m_peakOf x0 x1 x2))

/-! impl.PeakOf -/
def i_PeakOf_G : List TRow := [i_StagesOf_row, i_sizesOf_row, i_SavedWords_row, i_redoOf_row, i_FullWords_row]
def i_PeakOf_y1 : TCode :=
  (.seq (.reg [.op (some 43) (.load (.s 3) 6 true),
    .op (some 44) (.mov (.s 1)),
    .op (some 45) (.call 142 [(.s 43), (.s 44)]),
    .op (some 42) (.mov (.s 45)),
    .op (some 46) (.ext (.s 42) 0),
    .op (some 47) (.ext (.s 42) 1),
    .op (some 9) (.mov (.s 46)),
    .op (some 10) (.mov (.s 47))])
 (.seq (.reg [.op (some 48) (.mov (.s 8)),
     .op (some 49) (.load (.s 3) 6 true),
     .op (some 50) (.mov (.s 1)),
     .op (some 51) (.call 75 [(.s 49), (.s 50)]),
     .op (some 52) (.bin .mul (.s 48) (.s 51)),
     .op (some 53) (.mov (.s 9)),
     .op (some 54) (.mov (.s 10)),
     .op (some 55) (.mm true (.s 53) (.s 54)),
     .op (some 56) (.bin .add (.s 52) (.s 55)),
     .op (some 11) (.mov (.s 56))])
  (.seq (.seq (.reg [.op (some 57) (.load (.s 3) 6 true),
       .op (some 58) (.mov (.s 1)),
       .op (some 59) (.call 143 [(.s 57), (.s 58)])])
    (.cond (.s 59) (.reg [.op (some 60) (.mov (.s 11)),
        .op (some 61) (.load (.s 3) 6 true),
        .op (some 62) (.mov (.s 1)),
        .op (some 63) (.call 74 [(.s 61), (.s 62)]),
        .op (some 64) (.bin .add (.s 60) (.s 63)),
        .op (some 11) (.mov (.s 64))]) .skip))
   (.seq (.reg [.op (some 65) (.mov (.s 11)),
       .op (some 6) (.mov (.s 65))])
    .ret))))
def i_PeakOf_L1 : List (Nat × Md) := [(1, .one .d), (3, .b [.d, .d, .d, .d, .d, .d]), (8, .one .d)]
def i_PeakOf_y1w : TCode := .wk i_PeakOf_L1 i_PeakOf_y1
def i_PeakOf_c : TCode :=
  (.seq (.reg [.op (some 3) (.box 103 (.s 0) 6),
    .op (some 6) (.mov (.k (.c TI (0 : Int))))])
 (.seq (.reg [.op (some 12) (.load (.s 3) 6 true),
     .op (some 13) (.call 141 [(.s 12)]),
     .op (some 7) (.mov (.s 13))])
  (.seq (.seq (.reg [.op (some 14) (.mov (.s 1)),
       .op (some 15) (.bin .lss (.s 14) (.k (.c TI (0 : Int)))),
       .op (some 16) (.mov (.s 15)),
       .grp 16 false [.op (some 17) (.mov (.s 1)), .op (some 18) (.mov (.s 7)), .op (some 19) (.bin .geq (.s 17) (.s 18))] 20 (.s 19),
       .op (some 21) (.mov (.s 20)),
       .grp 21 false [.op (some 22) (.mov (.s 2)), .op (some 23) (.bin .lss (.s 22) (.k (.c TI (1 : Int))))] 24 (.s 23),
       .op (some 25) (.mov (.s 24)),
       .grp 25 false [.op (some 26) (.mov (.s 2)), .op (some 27) (.bin .gtr (.s 26) (.k (.c TI (5 : Int))))] 28 (.s 27),
       .op (some 29) (.mov (.s 28)),
       .grp 29 false [.op (some 30) (.mov (.s 7)), .op (some 31) (.bin .gtr (.s 30) (.k (.c TI (4 : Int))))] 32 (.s 31)])
    (.cond (.s 32) (.seq (.reg [.op (some 6) (.mov (.k (.c TI (0 : Int))))])
      .ret) .skip))
   (.seq (.reg [.op (some 33) (.mov (.s 2)),
       .op (some 8) (.mov (.s 33))])
    (.seq (.seq (.reg [.op (some 34) (.fad (.s 3) 2),
         .op (some 35) (.load (.s 34) 1 false),
         .op (some 36) (.bin .eql (.s 35) (.k (.c TI (2 : Int))))])
      (.cond (.s 36) (.reg [.op (some 37) (.mov (.s 2)),
          .op (some 38) (.mov (.s 7)),
          .op (some 39) (.mov (.s 1)),
          .op (some 40) (.bin .sub (.s 38) (.s 39)),
          .op (some 41) (.mm false (.s 37) (.s 40)),
          .op (some 8) (.mov (.s 41))]) .skip))
     i_PeakOf_y1w)))))
def i_PeakOf_rs : List (ARv × Md) := [(.t 6, .one .d)]
theorem i_PeakOf_st : compF Try.prog 73 = some (i_PeakOf_c.er, i_PeakOf_rs.map Prod.fst, 66) := by kernel_rfl
def i_PeakOf_Q (K : TRes → Prop) : TPost := TQ 0 0 i_PeakOf_rs K
def i_PeakOf_A1 (K : TRes → Prop) (c : TConfig) (s : Int) (count : Int) : Prop := tawp i_PeakOf_G 0 i_PeakOf_y1 (i_PeakOf_Q K) ⟨[(1, (.c TI s)), (3, (.p 0 0 0)), (8, (.c TI count))], [(0, (.box [(.c (.sl ctOp) c.1), (.c (.sl [TI]) c.2.1), (.c TI c.2.2.1), (.c (.sl [.bool]) c.2.2.2.1), (.c (.sl [TI]) c.2.2.2.2.1), (.c (.sl [TI]) c.2.2.2.2.2)]))], 1⟩
theorem i_PeakOf_v1 (K : TRes → Prop) (c : TConfig) (s : Int) (count : Int) (h :
  (((m_redoOf c s) = true → K (i_PeakOf_R (w64 ((w64 ((w64 (count * (m_savedWords c s))) + (if ((m_sizesOf c s).1) < ((m_sizesOf c s).2) then ((m_sizesOf c s).2) else ((m_sizesOf c s).1)))) + (m_fullWords c s))))) ∧ ((m_redoOf c s) = false → K (i_PeakOf_R (w64 ((w64 (count * (m_savedWords c s))) + (if ((m_sizesOf c s).1) < ((m_sizesOf c s).2) then ((m_sizesOf c s).2) else ((m_sizesOf c s).1)))))))) : Hold (i_PeakOf_A1 K c s count) :=
  Hold.of (by kernel_rfl) h
theorem i_PeakOf_v0 (K : TRes → Prop) (c : TConfig) (s : Int) (micro : Int) (h :
  (((((((decide (s < (0 : Int))) || (decide (s ≥ (m_stagesOf c)))) || (decide (micro < (1 : Int)))) || (decide (micro > (5 : Int)))) || (decide ((m_stagesOf c) > (4 : Int)))) = true → K (i_PeakOf_R (0 : Int))) ∧ ((((((decide (s < (0 : Int))) || (decide (s ≥ (m_stagesOf c)))) || (decide (micro < (1 : Int)))) || (decide (micro > (5 : Int)))) || (decide ((m_stagesOf c) > (4 : Int)))) = false → (((c.2.2.1 == (2 : Int)) = true → (i_PeakOf_A1 K c s (if (w64 ((m_stagesOf c) - s)) < micro then (w64 ((m_stagesOf c) - s)) else micro))) ∧ ((c.2.2.1 == (2 : Int)) = false → (i_PeakOf_A1 K c s micro)))))) : Hold (tawp i_PeakOf_G (0 + 0) i_PeakOf_c (TQ 0 0 i_PeakOf_rs K) (tstart [(.a (Tup.cells ctConfig c)), (.c TI s), (.c TI micro)])) :=
  Hold.of (by kernel_rfl) h
theorem i_PeakOf_t (c : TConfig) (s : Int) (micro : Int) (r : TRes) (h : Hold (tawp i_PeakOf_G (0 + 0) i_PeakOf_c (TQ 0 0 i_PeakOf_rs fun r' => r' = r) (tstart [(.a (Tup.cells ctConfig c)), (.c TI s), (.c TI micro)]))) : TCon Try.prog 73 [(.a (Tup.cells ctConfig c)), (.c TI s), (.c TI micro)] r :=
  tcon_gen (sg := [(.a ctConfig), (.c TI), (.c TI)]) mixed (TOk.cons i_StagesOf_ok (TOk.cons i_sizesOf_ok (TOk.cons i_SavedWords_ok (TOk.cons i_redoOf_ok (TOk.cons i_FullWords_ok TOk.nil))))) i_PeakOf_st (by kernel_rfl) (by kernel_rfl) (by kernel_rfl) (by kernel_rfl) h
theorem i_PeakOf_h : i_PeakOf_C := by
  intro c s micro
  refine tcon_bd rfl fun hb => i_PeakOf_t c s micro _ (i_PeakOf_v0 _ c s micro ?_)
  have hl_c_0 : (c.1).length ≤ 9223372036854775807 := hb.1.1.1
  have hl_c_1 : (c.2.1).length ≤ 9223372036854775807 := hb.1.2.1.1
  have hl_c_3 : (c.2.2.2.1).length ≤ 9223372036854775807 := hb.1.2.2.2.1.1
  have hl_c_4 : (c.2.2.2.2.1).length ≤ 9223372036854775807 := hb.1.2.2.2.2.1.1
  have hl_c_5 : (c.2.2.2.2.2).length ≤ 9223372036854775807 := hb.1.2.2.2.2.2.1.1
  have hs := stages_le (c := c)
  refine ⟨fun h => R_eq (by unfold m_peakOf; rw [if_neg]; grind [m_in]), fun h => ?_⟩
  have hin : (m_in s 0 (m_stagesOf c - 1) && m_in micro 1 5 && decide (m_stagesOf c ≤ 4)) = true := by grind [m_in]
  have hin2 := hin
  simp only [Bool.and_eq_true, m_in_iff, decide_eq_true_eq] at hin2
  have e3 : w64 (m_stagesOf c - s) = m_stagesOf c - s := w64_ok (by omega) (by omega)
  have key : ∀ k : Int, m_peakOf c s micro = w64 (w64 (w64 (k * m_savedWords c s) + iMax (m_sizesOf c s).1 (m_sizesOf c s).2) + if m_redoOf c s then m_fullWords c s else 0) → i_PeakOf_A1 (fun r' => r' = i_PeakOf_R (m_peakOf c s micro)) c s k := by
    intro k hk
    refine (i_PeakOf_v1 (fun r' => r' = i_PeakOf_R (m_peakOf c s micro)) c s _ ⟨fun h => R_eq ?_, fun h => R_eq ?_⟩).h
    · rw [hk, h]; rfl
    · rw [hk, h]; simp [w64_w64]; rfl
  rw [e3]
  refine ⟨fun h1 => key _ ?_, fun h1 => key _ ?_⟩
  · simp only [m_peakOf, hin, if_true]
    simp at h1
    rw [if_pos h1]; rfl
  · simp only [m_peakOf, hin, if_true]
    simp at h1
    rw [if_neg h1]

theorem i_PeakOf_ok : TRowOk Try.prog i_PeakOf_row := rowOk fun x _ => i_PeakOf_h x.1 x.2.1 x.2.2.1

end
end Go.Proofs.Ytephkbajoofeoaa.Am
