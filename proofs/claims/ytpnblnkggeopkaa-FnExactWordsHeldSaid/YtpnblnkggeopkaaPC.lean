/-
  Written by program: the code of functions, what it asks, and that it comes to what the models say.
-/
import Derived.Test.YtpnblnkggeopkaaP3
import Derived.Test.YtpnblnkggeopkaaP2
namespace Go.Proofs.Ytpnblnkggeopkaa.Am
open Go Go.RowKit Go.Proofs.Ytpnblnkggeopkaa
set_option linter.unusedVariables false
set_option linter.unusedSimpArgs false
noncomputable section

def i_PastFlush_R (t : Int) : TRes := ⟨(.c TI t), [], [], false⟩
def i_PastFlush_row : TRow := mkRow 103 [(.a ctPipe)] fun x => (none, i_PastFlush_R (m_pastFlush x.1))
def i_PastFlush_C : Prop := ∀ (x0 : TPipe), TCon Try.prog 103 [(.a (Tup.cells ctPipe x0))] (i_PastFlush_R (m_pastFlush x0))

/-! impl.PastFlush -/
def i_PastFlush_G : List TRow := []
def i_PastFlush_b2 : TCode :=
  (.seq (.reg [.op (some 10) (.bin .lss (.s 9) (.s 8))])
 (.seq (.cond (.s 10) .skip (.exit 0))
  (.seq (.block 1 (.seq (.reg [.op (some 11) (.iad (.s 7) (.s 9) ctStage),
        .op (some 12) (.load (.s 11) 14 true),
        .op (some 5) (.new 100 [(.c TI (0 : Int)), (.n ctIns), (.n ctOp), (.c .bool false), (.c .bool false), (.n ctSaved), (.n [(.sl [TI])]), (.n [TI]), (.n [TI]), (.n [TI]), (.n [TI]), (.n [(.sl [TI])]), (.c TI (0 : Int)), (.c .bool false)]),
        .op none (.store (.s 5) (.s 12) 14)])
     (.seq (.reg [.op (some 13) (.fad (.s 5) 0),
         .op (some 14) (.load (.s 13) 1 false),
         .op (some 15) (.fad (.s 5) 1),
         .op (some 16) (.load (.s 15) 1 false),
         .op (some 17) (.len (.s 16)),
         .op (some 18) (.bin .geq (.s 14) (.s 17))])
      (.cond (.s 18) (.reg [.op (some 19) (.mov (.s 3)),
          .op (some 20) (.bin .add (.s 19) (.k (.c TI (1 : Int)))),
          .op (some 3) (.mov (.s 20))]) .skip))))
   (.reg [.op (some 21) (.bin .add (.s 9) (.k (.c TI (1 : Int)))),
      .op (some 9) (.mov (.s 21))]))))
def i_PastFlush_L2 : List (Nat × Md) := [(3, .one .d), (7, .one .d), (8, .one .d), (9, .one .d)]
def i_PastFlush_y1 : TCode :=
  (.seq (.reg [.op (some 22) (.mov (.s 3)),
    .op (some 2) (.mov (.s 22))])
 .ret)
def i_PastFlush_c : TCode :=
  (.seq (.reg [.op (some 1) (.box 123 (.s 0) 4),
    .op (some 2) (.mov (.k (.c TI (0 : Int))))])
 (.seq (.reg [.op (some 3) (.mov (.k (.c TI (0 : Int))))])
  (.seq (.seq (.reg [.op (some 6) (.fad (.s 1) 1),
       .op (some 7) (.load (.s 6) 1 false),
       .op (some 8) (.len (.s 7)),
       .op (some 9) (.mov (.k (.c TI (0 : Int))))])
    (.block 0 (.loop i_PastFlush_L2 i_PastFlush_b2)))
   i_PastFlush_y1)))
def i_PastFlush_rs : List (ARv × Md) := [(.t 2, .one .d)]
theorem i_PastFlush_st : compF Try.prog 103 = some (i_PastFlush_c.er, i_PastFlush_rs.map Prod.fst, 23) := by kernel_rfl
def i_PastFlush_Q (K : TRes → Prop) : TPost := TQ 0 i_PastFlush_rs K
def i_PastFlush_q1 (K : TRes → Prop) : TPost := Qseq (tawp i_PastFlush_G 0 i_PastFlush_y1 (i_PastFlush_Q K)) (i_PastFlush_Q K)
def i_PastFlush_q2 (K : TRes → Prop) : TPost := Qblk 0 (i_PastFlush_q1 K)
def i_PastFlush_A2 (K : TRes → Prop) (p : TPipe) (n : Int) (x : Int) : Prop := Loop i_PastFlush_G 0 i_PastFlush_L2 i_PastFlush_b2 (i_PastFlush_q2 K) ⟨[(3, (.c TI n)), (7, (.c (.sl ctStage) p.2.1)), (8, (.c TI ((p.2.1).length : Int))), (9, (.c TI x))], [], 0⟩
theorem i_PastFlush_v2 (K : TRes → Prop) (p : TPipe) (n : Int) (x : Int) (h :
  (((decide (x < ((p.2.1).length : Int))) = true → (((0 : Int) ≤ x ∧ Int.toNat x < (p.2.1).length) ∧ (((decide (((gtd dStage p.2.1 (Int.toNat x)).1) ≥ (((gtd dStage p.2.1 (Int.toNat x)).2.1).length : Int))) = true → (i_PastFlush_A2 K p (w64 (n + (1 : Int))) (w64 (x + (1 : Int))))) ∧ ((decide (((gtd dStage p.2.1 (Int.toNat x)).1) ≥ (((gtd dStage p.2.1 (Int.toNat x)).2.1).length : Int))) = false → (i_PastFlush_A2 K p n (w64 (x + (1 : Int)))))))) ∧ ((decide (x < ((p.2.1).length : Int))) = false → K (i_PastFlush_R n)))) : i_PastFlush_A2 K p n x :=
  Loop.of (by kernel_rfl) h
theorem i_PastFlush_v0 (K : TRes → Prop) (p : TPipe) (h :
  (i_PastFlush_A2 K p (0 : Int) (0 : Int))) : Hold (tawp i_PastFlush_G 0 i_PastFlush_c (TQ 0 i_PastFlush_rs K) (tstart [(.a (Tup.cells ctPipe p))])) :=
  Hold.of (by kernel_rfl) h
theorem i_PastFlush_t (p : TPipe) (r : TRes) (h : Hold (tawp i_PastFlush_G 0 i_PastFlush_c (TQ 0 i_PastFlush_rs fun r' => r' = r) (tstart [(.a (Tup.cells ctPipe p))]))) : TCon Try.prog 103 [(.a (Tup.cells ctPipe p))] r :=
  tcon_gen (sg := [(.a ctPipe)]) mixed TOk.nil i_PastFlush_st (by kernel_rfl) (by kernel_rfl) (by kernel_rfl) h
theorem i_PastFlush_h : i_PastFlush_C := by
  intro p
  refine tcon_bd rfl fun hb => i_PastFlush_t p _ (i_PastFlush_v0 _ p ?_)
  have hl_p_0 : (p.1).length ≤ 9223372036854775807 := hb.1.1.1
  have hl_p_1 : (p.2.1).length ≤ 9223372036854775807 := hb.1.2.1.1
  have hl_p_2 : (p.2.2.1).length ≤ 9223372036854775807 := hb.1.2.2.1.1
  have hl_p_3 : (p.2.2.2).length ≤ 9223372036854775807 := hb.1.2.2.2.1.1
  refine listLoop p.2.1 (fun r k => ∀ y : Int, w64 (y + (r.map fun s => if m_past1 s then (1 : Int) else 0).sum) = (m_pastFlush p) → i_PastFlush_A2 (fun r' => r' = i_PastFlush_R (m_pastFlush p)) p (w64 y) k) ?_ ?_ 0 (by simp [m_pastFlush])
  · intro y he
    refine i_PastFlush_v2 (fun r' => r' = i_PastFlush_R (m_pastFlush p)) p _ _ ⟨fun h => by simp at h, fun _ => R_eq ?_⟩
    simpa using he
  · intro k x r hk hlt hg ih y he
    refine i_PastFlush_v2 (fun r' => r' = i_PastFlush_R (m_pastFlush p)) p _ _ ⟨fun _ => ?_, fun h => by simp at h; omega⟩
    rw [Int.toNat_natCast, hg, w64_ok (x := (k : Int) + 1) (by omega) (by omega), w64_add_l]
    rw [List.map_cons, List.sum_cons] at he
    refine ⟨⟨by omega, hlt⟩, fun h => ih _ ?_, fun h => ih _ ?_⟩
    · have : m_past1 x = true := by simpa [m_past1] using h
      rw [this] at he
      rw [← he, Int.add_assoc]; rfl
    · have : m_past1 x = false := by simpa [m_past1] using h
      rw [this] at he
      simpa using he

theorem i_PastFlush_ok : TRowOk Try.prog i_PastFlush_row := rowOk fun x _ => i_PastFlush_h x.1

def s_PastFlush_R (t : Int) : TRes := ⟨(.c TI t), [], [], false⟩
def s_PastFlush_row : TRow := mkRow 102 [(.a ctPipe)] fun x => (none, s_PastFlush_R (m_pastFlush x.1))
def s_PastFlush_C : Prop := ∀ (x0 : TPipe), TCon Try.prog 102 [(.a (Tup.cells ctPipe x0))] (s_PastFlush_R (m_pastFlush x0))

/-! spec.PastFlush -/
def s_PastFlush_G : List TRow := []
def s_PastFlush_b2 : TCode :=
  (.seq (.seq (.reg [.op (some 5) (.mov (.s 4)),
     .op (some 6) (.fad (.s 1) 1),
     .op (some 7) (.load (.s 6) 1 false),
     .op (some 8) (.len (.s 7)),
     .op (some 9) (.bin .lss (.s 5) (.s 8))])
  (.cond (.s 9) .skip (.exit 0)))
 (.seq (.block 1 (.seq (.draw [.op (some 12) (.fad (.s 1) 1),
       .op (some 13) (.load (.s 12) 1 false),
       .op (some 14) (.mov (.s 4)),
       .op (some 15) (.iad (.s 13) (.s 14) ctStage),
       .op (some 16) (.fad (.s 15) 0),
       .op (some 17) (.load (.s 16) 1 false),
       .op (some 18) (.fad (.s 1) 1),
       .op (some 19) (.load (.s 18) 1 false),
       .op (some 20) (.mov (.s 4)),
       .op (some 21) (.iad (.s 19) (.s 20) ctStage),
       .op (some 22) (.fad (.s 21) 1),
       .op (some 23) (.load (.s 22) 1 false),
       .op (some 24) (.len (.s 23)),
       .op (some 25) (.bin .geq (.s 17) (.s 24))] [])
    (.cond (.s 25) (.reg [.op (some 26) (.mov (.s 3)),
        .op (some 27) (.bin .add (.s 26) (.k (.c TI (1 : Int)))),
        .op (some 3) (.mov (.s 27))]) .skip)))
  (.reg [.op (some 10) (.mov (.s 4)),
     .op (some 11) (.bin .add (.s 10) (.k (.c TI (1 : Int)))),
     .op (some 4) (.mov (.s 11))])))
def s_PastFlush_L2 : List (Nat × Md) := [(1, .b [.d, .d, .d, .d]), (3, .one .d), (4, .one .d)]
def s_PastFlush_y1 : TCode :=
  (.seq (.reg [.op (some 28) (.mov (.s 3)),
    .op (some 2) (.mov (.s 28))])
 .ret)
def s_PastFlush_c : TCode :=
  (.seq (.reg [.op (some 1) (.box 123 (.s 0) 4),
    .op (some 2) (.mov (.k (.c TI (0 : Int))))])
 (.seq (.reg [.op (some 3) (.mov (.k (.c TI (0 : Int))))])
  (.seq (.seq (.reg [.op (some 4) (.mov (.k (.c TI (0 : Int))))])
    (.block 0 (.loop s_PastFlush_L2 s_PastFlush_b2)))
   s_PastFlush_y1)))
def s_PastFlush_rs : List (ARv × Md) := [(.t 2, .one .d)]
theorem s_PastFlush_st : compF Try.prog 102 = some (s_PastFlush_c.er, s_PastFlush_rs.map Prod.fst, 29) := by kernel_rfl
def s_PastFlush_Q (K : TRes → Prop) : TPost := TQ 0 s_PastFlush_rs K
def s_PastFlush_q1 (K : TRes → Prop) : TPost := Qseq (tawp s_PastFlush_G 0 s_PastFlush_y1 (s_PastFlush_Q K)) (s_PastFlush_Q K)
def s_PastFlush_q2 (K : TRes → Prop) : TPost := Qblk 0 (s_PastFlush_q1 K)
def s_PastFlush_A2 (K : TRes → Prop) (p : TPipe) (n : Int) (s : Int) : Prop := Loop s_PastFlush_G 0 s_PastFlush_L2 s_PastFlush_b2 (s_PastFlush_q2 K) ⟨[(1, (.p 0 0 0)), (3, (.c TI n)), (4, (.c TI s))], [(0, (.box [(.c (.sl ctPair) p.1), (.c (.sl ctStage) p.2.1), (.c (.sl ctQueue) p.2.2.1), (.c (.sl ctQueue) p.2.2.2)]))], 1⟩
theorem s_PastFlush_v2 (K : TRes → Prop) (p : TPipe) (n : Int) (s : Int) (h :
  (((decide (s < ((p.2.1).length : Int))) = true → ((((0 : Int) ≤ s ∧ Int.toNat s < (p.2.1).length) ∧ ((0 : Int) ≤ s ∧ Int.toNat s < (p.2.1).length)) ∧ (((decide (((gtd dStage p.2.1 (Int.toNat s)).1) ≥ (((gtd dStage p.2.1 (Int.toNat s)).2.1).length : Int))) = true → (s_PastFlush_A2 K p (w64 (n + (1 : Int))) (w64 (s + (1 : Int))))) ∧ ((decide (((gtd dStage p.2.1 (Int.toNat s)).1) ≥ (((gtd dStage p.2.1 (Int.toNat s)).2.1).length : Int))) = false → (s_PastFlush_A2 K p n (w64 (s + (1 : Int)))))))) ∧ ((decide (s < ((p.2.1).length : Int))) = false → K (s_PastFlush_R n)))) : s_PastFlush_A2 K p n s :=
  Loop.of (by kernel_rfl) h
theorem s_PastFlush_v0 (K : TRes → Prop) (p : TPipe) (h :
  (s_PastFlush_A2 K p (0 : Int) (0 : Int))) : Hold (tawp s_PastFlush_G 0 s_PastFlush_c (TQ 0 s_PastFlush_rs K) (tstart [(.a (Tup.cells ctPipe p))])) :=
  Hold.of (by kernel_rfl) h
theorem s_PastFlush_t (p : TPipe) (r : TRes) (h : Hold (tawp s_PastFlush_G 0 s_PastFlush_c (TQ 0 s_PastFlush_rs fun r' => r' = r) (tstart [(.a (Tup.cells ctPipe p))]))) : TCon Try.prog 102 [(.a (Tup.cells ctPipe p))] r :=
  tcon_gen (sg := [(.a ctPipe)]) mixed TOk.nil s_PastFlush_st (by kernel_rfl) (by kernel_rfl) (by kernel_rfl) h
theorem s_PastFlush_h : s_PastFlush_C := by
  intro p
  refine tcon_bd rfl fun hb => s_PastFlush_t p _ (s_PastFlush_v0 _ p ?_)
  have hl_p_0 : (p.1).length ≤ 9223372036854775807 := hb.1.1.1
  have hl_p_1 : (p.2.1).length ≤ 9223372036854775807 := hb.1.2.1.1
  have hl_p_2 : (p.2.2.1).length ≤ 9223372036854775807 := hb.1.2.2.1.1
  have hl_p_3 : (p.2.2.2).length ≤ 9223372036854775807 := hb.1.2.2.2.1.1
  refine listLoop p.2.1 (fun r k => ∀ y : Int, w64 (y + (r.map fun s => if m_past1 s then (1 : Int) else 0).sum) = (m_pastFlush p) → s_PastFlush_A2 (fun r' => r' = s_PastFlush_R (m_pastFlush p)) p (w64 y) k) ?_ ?_ 0 (by simp [m_pastFlush])
  · intro y he
    refine s_PastFlush_v2 (fun r' => r' = s_PastFlush_R (m_pastFlush p)) p _ _ ⟨fun h => by simp at h, fun _ => R_eq ?_⟩
    simpa using he
  · intro k x r hk hlt hg ih y he
    refine s_PastFlush_v2 (fun r' => r' = s_PastFlush_R (m_pastFlush p)) p _ _ ⟨fun _ => ?_, fun h => by simp at h; omega⟩
    rw [Int.toNat_natCast, hg, w64_ok (x := (k : Int) + 1) (by omega) (by omega), w64_add_l]
    rw [List.map_cons, List.sum_cons] at he
    refine ⟨⟨⟨by omega, hlt⟩, by omega, hlt⟩, fun h => ih _ ?_, fun h => ih _ ?_⟩
    · have : m_past1 x = true := by simpa [m_past1] using h
      rw [this] at he
      rw [← he, Int.add_assoc]; rfl
    · have : m_past1 x = false := by simpa [m_past1] using h
      rw [this] at he
      simpa using he

theorem s_PastFlush_ok : TRowOk Try.prog s_PastFlush_row := rowOk fun x _ => s_PastFlush_h x.1

def s_QueuesWithin_R (t : Bool) : TRes := ⟨(.c .bool t), [], [], false⟩
def s_QueuesWithin_row : TRow := mkRow 104 [(.a ctPipe)] fun x => (none, s_QueuesWithin_R (m_queuesWithin x.1))
def s_QueuesWithin_C : Prop := ∀ (x0 : TPipe), TCon Try.prog 104 [(.a (Tup.cells ctPipe x0))] (s_QueuesWithin_R (m_queuesWithin x0))

/-! spec.QueuesWithin -/
def s_QueuesWithin_G : List TRow := []
def s_QueuesWithin_b2 : TCode :=
  (.seq (.seq (.reg [.op (some 5) (.mov (.s 3)),
     .op (some 6) (.fad (.s 1) 2),
     .op (some 7) (.load (.s 6) 1 false),
     .op (some 8) (.len (.s 7)),
     .op (some 9) (.bin .lss (.s 5) (.s 8))])
  (.cond (.s 9) .skip (.exit 0)))
 (.seq (.block 1 (.seq (.draw [.op (some 12) (.fad (.s 1) 2),
       .op (some 13) (.load (.s 12) 1 false),
       .op (some 14) (.mov (.s 3)),
       .op (some 15) (.iad (.s 13) (.s 14) ctQueue),
       .op (some 16) (.fad (.s 15) 1),
       .op (some 17) (.load (.s 16) 1 false),
       .op (some 18) (.len (.s 17)),
       .op (some 19) (.fad (.s 1) 2),
       .op (some 20) (.load (.s 19) 1 false),
       .op (some 21) (.mov (.s 3)),
       .op (some 22) (.iad (.s 20) (.s 21) ctQueue),
       .op (some 23) (.fad (.s 22) 0),
       .op (some 24) (.load (.s 23) 1 false),
       .op (some 25) (.bin .gtr (.s 18) (.s 24))] [])
    (.cond (.s 25) (.seq (.reg [.op (some 2) (.mov (.k (.c .bool false)))])
      .ret) .skip)))
  (.reg [.op (some 10) (.mov (.s 3)),
     .op (some 11) (.bin .add (.s 10) (.k (.c TI (1 : Int)))),
     .op (some 3) (.mov (.s 11))])))
def s_QueuesWithin_L2 : List (Nat × Md) := [(1, .b [.d, .d, .d, .d]), (3, .one .d)]
def s_QueuesWithin_b4 : TCode :=
  (.seq (.seq (.reg [.op (some 26) (.mov (.s 4)),
     .op (some 27) (.fad (.s 1) 3),
     .op (some 28) (.load (.s 27) 1 false),
     .op (some 29) (.len (.s 28)),
     .op (some 30) (.bin .lss (.s 26) (.s 29))])
  (.cond (.s 30) .skip (.exit 2)))
 (.seq (.block 3 (.seq (.draw [.op (some 33) (.fad (.s 1) 3),
       .op (some 34) (.load (.s 33) 1 false),
       .op (some 35) (.mov (.s 4)),
       .op (some 36) (.iad (.s 34) (.s 35) ctQueue),
       .op (some 37) (.fad (.s 36) 1),
       .op (some 38) (.load (.s 37) 1 false),
       .op (some 39) (.len (.s 38)),
       .op (some 40) (.fad (.s 1) 3),
       .op (some 41) (.load (.s 40) 1 false),
       .op (some 42) (.mov (.s 4)),
       .op (some 43) (.iad (.s 41) (.s 42) ctQueue),
       .op (some 44) (.fad (.s 43) 0),
       .op (some 45) (.load (.s 44) 1 false),
       .op (some 46) (.bin .gtr (.s 39) (.s 45))] [])
    (.cond (.s 46) (.seq (.reg [.op (some 2) (.mov (.k (.c .bool false)))])
      .ret) .skip)))
  (.reg [.op (some 31) (.mov (.s 4)),
     .op (some 32) (.bin .add (.s 31) (.k (.c TI (1 : Int)))),
     .op (some 4) (.mov (.s 32))])))
def s_QueuesWithin_L4 : List (Nat × Md) := [(1, .b [.d, .d, .d, .d]), (4, .one .d)]
def s_QueuesWithin_y3 : TCode :=
  (.seq (.reg [.op (some 2) (.mov (.k (.c .bool true)))])
 .ret)
def s_QueuesWithin_y1 : TCode :=
  (.seq (.seq (.reg [.op (some 4) (.mov (.k (.c TI (0 : Int))))])
  (.block 2 (.loop s_QueuesWithin_L4 s_QueuesWithin_b4)))
 s_QueuesWithin_y3)
def s_QueuesWithin_c : TCode :=
  (.seq (.reg [.op (some 1) (.box 123 (.s 0) 4),
    .op (some 2) (.mov (.k (.c .bool false)))])
 (.seq (.seq (.reg [.op (some 3) (.mov (.k (.c TI (0 : Int))))])
   (.block 0 (.loop s_QueuesWithin_L2 s_QueuesWithin_b2)))
  s_QueuesWithin_y1))
def s_QueuesWithin_rs : List (ARv × Md) := [(.t 2, .one .d)]
theorem s_QueuesWithin_st : compF Try.prog 104 = some (s_QueuesWithin_c.er, s_QueuesWithin_rs.map Prod.fst, 47) := by kernel_rfl
def s_QueuesWithin_Q (K : TRes → Prop) : TPost := TQ 0 s_QueuesWithin_rs K
def s_QueuesWithin_q1 (K : TRes → Prop) : TPost := Qseq (tawp s_QueuesWithin_G 0 s_QueuesWithin_y3 (s_QueuesWithin_Q K)) (s_QueuesWithin_Q K)
def s_QueuesWithin_q2 (K : TRes → Prop) : TPost := Qblk 2 (s_QueuesWithin_q1 K)
def s_QueuesWithin_A4 (K : TRes → Prop) (p : TPipe) (i1 : Int) : Prop := Loop s_QueuesWithin_G 0 s_QueuesWithin_L4 s_QueuesWithin_b4 (s_QueuesWithin_q2 K) ⟨[(1, (.p 0 0 0)), (4, (.c TI i1))], [(0, (.box [(.c (.sl ctPair) p.1), (.c (.sl ctStage) p.2.1), (.c (.sl ctQueue) p.2.2.1), (.c (.sl ctQueue) p.2.2.2)]))], 1⟩
def s_QueuesWithin_q3 (K : TRes → Prop) : TPost := Qseq (tawp s_QueuesWithin_G 0 s_QueuesWithin_y1 (s_QueuesWithin_Q K)) (s_QueuesWithin_Q K)
def s_QueuesWithin_q4 (K : TRes → Prop) : TPost := Qblk 0 (s_QueuesWithin_q3 K)
def s_QueuesWithin_A2 (K : TRes → Prop) (p : TPipe) (i : Int) : Prop := Loop s_QueuesWithin_G 0 s_QueuesWithin_L2 s_QueuesWithin_b2 (s_QueuesWithin_q4 K) ⟨[(1, (.p 0 0 0)), (3, (.c TI i))], [(0, (.box [(.c (.sl ctPair) p.1), (.c (.sl ctStage) p.2.1), (.c (.sl ctQueue) p.2.2.1), (.c (.sl ctQueue) p.2.2.2)]))], 1⟩
theorem s_QueuesWithin_v4 (K : TRes → Prop) (p : TPipe) (i1 : Int) (h :
  (((decide (i1 < ((p.2.2.2).length : Int))) = true → ((((0 : Int) ≤ i1 ∧ Int.toNat i1 < (p.2.2.2).length) ∧ ((0 : Int) ≤ i1 ∧ Int.toNat i1 < (p.2.2.2).length)) ∧ (((decide ((((gtd dQueue p.2.2.2 (Int.toNat i1)).2).length : Int) > ((gtd dQueue p.2.2.2 (Int.toNat i1)).1))) = true → K (s_QueuesWithin_R false)) ∧ ((decide ((((gtd dQueue p.2.2.2 (Int.toNat i1)).2).length : Int) > ((gtd dQueue p.2.2.2 (Int.toNat i1)).1))) = false → (s_QueuesWithin_A4 K p (w64 (i1 + (1 : Int)))))))) ∧ ((decide (i1 < ((p.2.2.2).length : Int))) = false → K (s_QueuesWithin_R true)))) : s_QueuesWithin_A4 K p i1 :=
  Loop.of (by kernel_rfl) h
theorem s_QueuesWithin_v2 (K : TRes → Prop) (p : TPipe) (i : Int) (h :
  (((decide (i < ((p.2.2.1).length : Int))) = true → ((((0 : Int) ≤ i ∧ Int.toNat i < (p.2.2.1).length) ∧ ((0 : Int) ≤ i ∧ Int.toNat i < (p.2.2.1).length)) ∧ (((decide ((((gtd dQueue p.2.2.1 (Int.toNat i)).2).length : Int) > ((gtd dQueue p.2.2.1 (Int.toNat i)).1))) = true → K (s_QueuesWithin_R false)) ∧ ((decide ((((gtd dQueue p.2.2.1 (Int.toNat i)).2).length : Int) > ((gtd dQueue p.2.2.1 (Int.toNat i)).1))) = false → (s_QueuesWithin_A2 K p (w64 (i + (1 : Int)))))))) ∧ ((decide (i < ((p.2.2.1).length : Int))) = false → (s_QueuesWithin_A4 K p (0 : Int))))) : s_QueuesWithin_A2 K p i :=
  Loop.of (by kernel_rfl) h
theorem s_QueuesWithin_v0 (K : TRes → Prop) (p : TPipe) (h :
  (s_QueuesWithin_A2 K p (0 : Int))) : Hold (tawp s_QueuesWithin_G 0 s_QueuesWithin_c (TQ 0 s_QueuesWithin_rs K) (tstart [(.a (Tup.cells ctPipe p))])) :=
  Hold.of (by kernel_rfl) h
theorem s_QueuesWithin_t (p : TPipe) (r : TRes) (h : Hold (tawp s_QueuesWithin_G 0 s_QueuesWithin_c (TQ 0 s_QueuesWithin_rs fun r' => r' = r) (tstart [(.a (Tup.cells ctPipe p))]))) : TCon Try.prog 104 [(.a (Tup.cells ctPipe p))] r :=
  tcon_gen (sg := [(.a ctPipe)]) mixed TOk.nil s_QueuesWithin_st (by kernel_rfl) (by kernel_rfl) (by kernel_rfl) h
theorem s_QueuesWithin_h : s_QueuesWithin_C := by
  intro p
  refine tcon_bd rfl fun hb => s_QueuesWithin_t p _ (s_QueuesWithin_v0 _ p ?_)
  have hl_p_0 : (p.1).length ≤ 9223372036854775807 := hb.1.1.1
  have hl_p_1 : (p.2.1).length ≤ 9223372036854775807 := hb.1.2.1.1
  have hl_p_2 : (p.2.2.1).length ≤ 9223372036854775807 := hb.1.2.2.1.1
  have hl_p_3 : (p.2.2.2).length ≤ 9223372036854775807 := hb.1.2.2.2.1.1
  refine allLoop (Q := fun b => selP b (s_QueuesWithin_A4 (fun r' => r' = s_QueuesWithin_R (m_queuesWithin p)) p ((0 : Nat) : Int)) (s_QueuesWithin_R false = s_QueuesWithin_R (m_queuesWithin p))) (p := m_within1) (c := fun q => decide ((q.2.length : Int) > q.1)) (e := true) dQueue hl_p_2 (fun x => by grind [m_within1]) (fun i h => s_QueuesWithin_v2 (fun r' => r' = s_QueuesWithin_R (m_queuesWithin p)) p i ⟨fun hc => ⟨⟨(h.1 hc).1, (h.1 hc).1⟩, (h.1 hc).2⟩, h.2⟩) ?_
  cases h1 : p.2.2.1.all m_within1 with
  | false => exact R_eq (by simp [m_queuesWithin, h1])
  | true =>
    exact allLoop (Q := fun b => s_QueuesWithin_R b = s_QueuesWithin_R (m_queuesWithin p)) (p := m_within1) (c := fun q => decide ((q.2.length : Int) > q.1)) (e := true) dQueue hl_p_3 (fun x => by grind [m_within1]) (fun i h => s_QueuesWithin_v4 (fun r' => r' = s_QueuesWithin_R (m_queuesWithin p)) p i ⟨fun hc => ⟨⟨(h.1 hc).1, (h.1 hc).1⟩, (h.1 hc).2⟩, h.2⟩) (R_eq (by simp only [m_queuesWithin, h1]; simp))

theorem s_QueuesWithin_ok : TRowOk Try.prog s_QueuesWithin_row := rowOk fun x _ => s_QueuesWithin_h x.1

def i_QueuesWithin_R (t : Bool) : TRes := ⟨(.c .bool t), [], [], false⟩
def i_QueuesWithin_row : TRow := mkRow 105 [(.a ctPipe)] fun x => (none, i_QueuesWithin_R (m_queuesWithin x.1))
def i_QueuesWithin_C : Prop := ∀ (x0 : TPipe), TCon Try.prog 105 [(.a (Tup.cells ctPipe x0))] (i_QueuesWithin_R (m_queuesWithin x0))

/-! impl.QueuesWithin -/
def i_QueuesWithin_G : List TRow := []
def i_QueuesWithin_b4 : TCode :=
  (.seq (.reg [.op (some 20) (.bin .lss (.s 19) (.s 18))])
 (.seq (.cond (.s 20) .skip (.exit 2))
  (.seq (.block 3 (.seq (.reg [.op (some 21) (.iad (.s 17) (.s 19) ctQueue),
        .op (some 22) (.load (.s 21) 2 true),
        .op (some 6) (.new 52 [(.c TI (0 : Int)), (.n ctItem)]),
        .op none (.store (.s 6) (.s 22) 2)])
     (.seq (.reg [.op (some 23) (.fad (.s 6) 1),
         .op (some 24) (.load (.s 23) 1 false),
         .op (some 25) (.len (.s 24)),
         .op (some 26) (.fad (.s 6) 0),
         .op (some 27) (.load (.s 26) 1 false),
         .op (some 28) (.bin .gtr (.s 25) (.s 27))])
      (.cond (.s 28) (.seq (.reg [.op (some 2) (.mov (.k (.c .bool false)))])
        .ret) .skip))))
   (.reg [.op (some 29) (.bin .add (.s 19) (.k (.c TI (1 : Int)))),
      .op (some 19) (.mov (.s 29))]))))
def i_QueuesWithin_L4 : List (Nat × Md) := [(11, .one .d), (12, .one .d), (13, .one .d), (17, .one .d), (18, .one .d), (19, .one .d)]
def i_QueuesWithin_y3 : TCode :=
  (.reg [.op (some 30) (.bin .add (.s 13) (.k (.c TI (1 : Int)))),
   .op (some 13) (.mov (.s 30))])
def i_QueuesWithin_b2 : TCode :=
  (.seq (.reg [.op (some 14) (.bin .lss (.s 13) (.s 12))])
 (.seq (.cond (.s 14) .skip (.exit 0))
  (.seq (.block 1 (.seq (.reg [.op (some 15) (.iad (.s 11) (.s 13) [(.sl ctQueue)]),
        .op (some 16) (.load (.s 15) 1 false),
        .op (some 4) (.mov (.s 16))])
     (.seq (.reg [.op (some 17) (.mov (.s 4)),
         .op (some 18) (.len (.s 17)),
         .op (some 19) (.mov (.k (.c TI (0 : Int))))])
      (.block 2 (.loop i_QueuesWithin_L4 i_QueuesWithin_b4)))))
   i_QueuesWithin_y3)))
def i_QueuesWithin_L2 : List (Nat × Md) := [(11, .one .d), (12, .one .d), (13, .one .d)]
def i_QueuesWithin_y1 : TCode :=
  (.seq (.reg [.op (some 2) (.mov (.k (.c .bool true)))])
 .ret)
def i_QueuesWithin_c : TCode :=
  (.seq (.reg [.op (some 1) (.box 123 (.s 0) 4),
    .op (some 2) (.mov (.k (.c .bool false)))])
 (.seq (.seq (.reg [.op (some 7) (.fad (.s 1) 2),
      .op (some 8) (.load (.s 7) 1 false),
      .op (some 9) (.fad (.s 1) 3),
      .op (some 10) (.load (.s 9) 1 false),
      .op (some 11) (.bsl 121 [(.sl ctQueue)] [(.s 8), (.s 10)]),
      .op (some 12) (.len (.s 11)),
      .op (some 13) (.mov (.k (.c TI (0 : Int))))])
   (.block 0 (.loop i_QueuesWithin_L2 i_QueuesWithin_b2)))
  i_QueuesWithin_y1))
def i_QueuesWithin_rs : List (ARv × Md) := [(.t 2, .one .d)]
theorem i_QueuesWithin_st : compF Try.prog 105 = some (i_QueuesWithin_c.er, i_QueuesWithin_rs.map Prod.fst, 31) := by kernel_rfl
def i_QueuesWithin_Q (K : TRes → Prop) : TPost := TQ 0 i_QueuesWithin_rs K
def i_QueuesWithin_q1 (K : TRes → Prop) : TPost := Qseq (tawp i_QueuesWithin_G 0 i_QueuesWithin_y1 (i_QueuesWithin_Q K)) (i_QueuesWithin_Q K)
def i_QueuesWithin_q2 (K : TRes → Prop) : TPost := Qblk 0 (i_QueuesWithin_q1 K)
def i_QueuesWithin_q3 (K : TRes → Prop) : TPost := Qseq (fun s' => Loop i_QueuesWithin_G 0 i_QueuesWithin_L2 i_QueuesWithin_b2 (i_QueuesWithin_q2 K) (gc 0 i_QueuesWithin_L2 s')) (i_QueuesWithin_q2 K)
def i_QueuesWithin_q4 (K : TRes → Prop) : TPost := Qseq (tawp i_QueuesWithin_G 0 i_QueuesWithin_y3 (i_QueuesWithin_q3 K)) (i_QueuesWithin_q3 K)
def i_QueuesWithin_q5 (K : TRes → Prop) : TPost := Qblk 1 (i_QueuesWithin_q4 K)
def i_QueuesWithin_q6 (K : TRes → Prop) : TPost := Qblk 2 (i_QueuesWithin_q5 K)
def i_QueuesWithin_A4 (K : TRes → Prop) (p : TPipe) (x : Int) (x1 : Int) : Prop := Loop i_QueuesWithin_G 0 i_QueuesWithin_L4 i_QueuesWithin_b4 (i_QueuesWithin_q6 K) ⟨[(11, (.c (.sl [(.sl ctQueue)]) (List.take 2 (List.drop 0 ([p.2.2.1, p.2.2.2]))))), (12, (.c TI ((2 : Nat) : Int))), (13, (.c TI x1)), (17, (.c (.sl ctQueue) (gtd ([] : List TQueue) (List.take 2 (List.drop 0 ([p.2.2.1, p.2.2.2]))) (Int.toNat x1)))), (18, (.c TI ((gtd ([] : List TQueue) (List.take 2 (List.drop 0 ([p.2.2.1, p.2.2.2]))) (Int.toNat x1)).length : Int))), (19, (.c TI x))], [], 0⟩
def i_QueuesWithin_A2 (K : TRes → Prop) (p : TPipe) (x1 : Int) : Prop := Loop i_QueuesWithin_G 0 i_QueuesWithin_L2 i_QueuesWithin_b2 (i_QueuesWithin_q2 K) ⟨[(11, (.c (.sl [(.sl ctQueue)]) (List.take 2 (List.drop 0 ([p.2.2.1, p.2.2.2]))))), (12, (.c TI ((2 : Nat) : Int))), (13, (.c TI x1))], [], 0⟩
theorem i_QueuesWithin_v4 (K : TRes → Prop) (p : TPipe) (x : Int) (x1 : Int) (h :
  (((decide (x < ((gtd ([] : List TQueue) (List.take 2 (List.drop 0 ([p.2.2.1, p.2.2.2]))) (Int.toNat x1)).length : Int))) = true → (((0 : Int) ≤ x ∧ Int.toNat x < (gtd ([] : List TQueue) (List.take 2 (List.drop 0 ([p.2.2.1, p.2.2.2]))) (Int.toNat x1)).length) ∧ (((decide ((((gtd dQueue (gtd ([] : List TQueue) (List.take 2 (List.drop 0 ([p.2.2.1, p.2.2.2]))) (Int.toNat x1)) (Int.toNat x)).2).length : Int) > ((gtd dQueue (gtd ([] : List TQueue) (List.take 2 (List.drop 0 ([p.2.2.1, p.2.2.2]))) (Int.toNat x1)) (Int.toNat x)).1))) = true → K (i_QueuesWithin_R false)) ∧ ((decide ((((gtd dQueue (gtd ([] : List TQueue) (List.take 2 (List.drop 0 ([p.2.2.1, p.2.2.2]))) (Int.toNat x1)) (Int.toNat x)).2).length : Int) > ((gtd dQueue (gtd ([] : List TQueue) (List.take 2 (List.drop 0 ([p.2.2.1, p.2.2.2]))) (Int.toNat x1)) (Int.toNat x)).1))) = false → (i_QueuesWithin_A4 K p (w64 (x + (1 : Int))) x1))))) ∧ ((decide (x < ((gtd ([] : List TQueue) (List.take 2 (List.drop 0 ([p.2.2.1, p.2.2.2]))) (Int.toNat x1)).length : Int))) = false → (i_QueuesWithin_A2 K p (w64 (x1 + (1 : Int))))))) : i_QueuesWithin_A4 K p x x1 :=
  Loop.of (by kernel_rfl) h
theorem i_QueuesWithin_v2 (K : TRes → Prop) (p : TPipe) (x1 : Int) (h :
  (((decide (x1 < ((2 : Nat) : Int))) = true → (((0 : Int) ≤ x1 ∧ Int.toNat x1 < (List.take 2 (List.drop 0 ([p.2.2.1, p.2.2.2]))).length) ∧ (i_QueuesWithin_A4 K p (0 : Int) x1))) ∧ ((decide (x1 < ((2 : Nat) : Int))) = false → K (i_QueuesWithin_R true)))) : i_QueuesWithin_A2 K p x1 :=
  Loop.of (by kernel_rfl) h
theorem i_QueuesWithin_v0 (K : TRes → Prop) (p : TPipe) (h :
  (i_QueuesWithin_A2 K p (0 : Int))) : Hold (tawp i_QueuesWithin_G 0 i_QueuesWithin_c (TQ 0 i_QueuesWithin_rs K) (tstart [(.a (Tup.cells ctPipe p))])) :=
  Hold.of (by kernel_rfl) h
theorem i_QueuesWithin_t (p : TPipe) (r : TRes) (h : Hold (tawp i_QueuesWithin_G 0 i_QueuesWithin_c (TQ 0 i_QueuesWithin_rs fun r' => r' = r) (tstart [(.a (Tup.cells ctPipe p))]))) : TCon Try.prog 105 [(.a (Tup.cells ctPipe p))] r :=
  tcon_gen (sg := [(.a ctPipe)]) mixed TOk.nil i_QueuesWithin_st (by kernel_rfl) (by kernel_rfl) (by kernel_rfl) h
theorem i_QueuesWithin_h : i_QueuesWithin_C := by
  intro p
  refine tcon_bd rfl fun hb => i_QueuesWithin_t p _ (i_QueuesWithin_v0 _ p ?_)
  have hl_p_0 : (p.1).length ≤ 9223372036854775807 := hb.1.1.1
  have hl_p_1 : (p.2.1).length ≤ 9223372036854775807 := hb.1.2.1.1
  have hl_p_2 : (p.2.2.1).length ≤ 9223372036854775807 := hb.1.2.2.1.1
  have hl_p_3 : (p.2.2.2).length ≤ 9223372036854775807 := hb.1.2.2.2.1.1
  have two : p.2.2.1.all m_within1 = true → p.2.2.2.all m_within1 = true → i_QueuesWithin_A2 (fun r' => r' = i_QueuesWithin_R (m_queuesWithin p)) p 2 := fun h1 h2 => i_QueuesWithin_v2 (fun r' => r' = i_QueuesWithin_R (m_queuesWithin p)) p _ ⟨fun h => by simp at h, fun _ => R_eq (by simp [m_queuesWithin, h1, h2])⟩
  have loop : ∀ (l : List TQueue) (j : Int) (nxt : Int), gtd ([] : List TQueue) (List.take 2 (List.drop 0 ([p.2.2.1, p.2.2.2]))) (Int.toNat j) = l → l.length ≤ 9223372036854775807 → w64 (j + 1) = nxt → (l.all m_within1 = true → i_QueuesWithin_A2 (fun r' => r' = i_QueuesWithin_R (m_queuesWithin p)) p nxt) → (l.all m_within1 = false → i_QueuesWithin_R false = i_QueuesWithin_R (m_queuesWithin p)) → i_QueuesWithin_A4 (fun r' => r' = i_QueuesWithin_R (m_queuesWithin p)) p ((0 : Nat) : Int) j := by
    intro l j nxt hl hb2 hn h1 h2
    refine allLoop (l := l) (Q := fun b => selP b (i_QueuesWithin_A2 (fun r' => r' = i_QueuesWithin_R (m_queuesWithin p)) p nxt) (i_QueuesWithin_R false = i_QueuesWithin_R (m_queuesWithin p))) (p := m_within1) (c := fun q => decide ((q.2.length : Int) > q.1)) (e := true) dQueue hb2 (fun x => by grind [m_within1]) (fun i h => i_QueuesWithin_v4 (fun r' => r' = i_QueuesWithin_R (m_queuesWithin p)) p i j (by rw [hl, hn]; exact h)) ?_
    cases hx : l.all m_within1 with
    | false => exact h2 hx
    | true => exact h1 hx
  refine i_QueuesWithin_v2 (fun r' => r' = i_QueuesWithin_R (m_queuesWithin p)) p _ ⟨fun _ => ⟨⟨by omega, by simp⟩, ?_⟩, fun h => by simp at h⟩
  refine loop p.2.2.1 0 1 rfl hl_p_2 rfl (fun h1 => ?_) (fun h1 => R_eq (by simp [m_queuesWithin, h1]))
  refine i_QueuesWithin_v2 (fun r' => r' = i_QueuesWithin_R (m_queuesWithin p)) p _ ⟨fun _ => ⟨⟨by omega, by simp⟩, ?_⟩, fun h => by simp at h⟩
  exact loop p.2.2.2 1 2 rfl hl_p_3 rfl (fun h2 => two h1 h2) (fun h2 => R_eq (by simp [m_queuesWithin, h2]))

theorem i_QueuesWithin_ok : TRowOk Try.prog i_QueuesWithin_row := rowOk fun x _ => i_QueuesWithin_h x.1

def s_WordsHeld_R (t : Int) : TRes := ⟨(.c TI t), [], [], false⟩
def s_WordsHeld_row : TRow := mkRow 106 [(.a ctPipe)] fun x => (none, s_WordsHeld_R (m_wordsHeld x.1))
def s_WordsHeld_C : Prop := ∀ (x0 : TPipe), TCon Try.prog 106 [(.a (Tup.cells ctPipe x0))] (s_WordsHeld_R (m_wordsHeld x0))

/-! spec.WordsHeld -/
def s_WordsHeld_G : List TRow := [s_Ledger_row, s_QueueWords_row]
def s_WordsHeld_b2 : TCode :=
  (.seq (.seq (.reg [.op (some 7) (.mov (.s 4)),
     .op (some 8) (.fad (.s 1) 1),
     .op (some 9) (.load (.s 8) 1 false),
     .op (some 10) (.len (.s 9)),
     .op (some 11) (.bin .lss (.s 7) (.s 10))])
  (.cond (.s 11) .skip (.exit 0)))
 (.seq (.block 1 (.reg [.op (some 14) (.mov (.s 3)),
      .op (some 15) (.fad (.s 1) 1),
      .op (some 16) (.load (.s 15) 1 false),
      .op (some 17) (.mov (.s 4)),
      .op (some 18) (.iad (.s 16) (.s 17) ctStage),
      .op (some 19) (.load (.s 18) 14 true),
      .op (some 20) (.call 77 [(.s 19)]),
      .op (some 21) (.bin .add (.s 14) (.s 20)),
      .op (some 3) (.mov (.s 21))]))
  (.reg [.op (some 12) (.mov (.s 4)),
     .op (some 13) (.bin .add (.s 12) (.k (.c TI (1 : Int)))),
     .op (some 4) (.mov (.s 13))])))
def s_WordsHeld_L2 : List (Nat × Md) := [(1, .b [.d, .d, .d, .d]), (3, .one .d), (4, .one .d)]
def s_WordsHeld_b4 : TCode :=
  (.seq (.seq (.reg [.op (some 22) (.mov (.s 5)),
     .op (some 23) (.fad (.s 1) 2),
     .op (some 24) (.load (.s 23) 1 false),
     .op (some 25) (.len (.s 24)),
     .op (some 26) (.bin .lss (.s 22) (.s 25))])
  (.cond (.s 26) .skip (.exit 2)))
 (.seq (.block 3 (.reg [.op (some 29) (.mov (.s 3)),
      .op (some 30) (.fad (.s 1) 2),
      .op (some 31) (.load (.s 30) 1 false),
      .op (some 32) (.mov (.s 5)),
      .op (some 33) (.iad (.s 31) (.s 32) ctQueue),
      .op (some 34) (.load (.s 33) 2 true),
      .op (some 35) (.call 50 [(.s 34)]),
      .op (some 36) (.bin .add (.s 29) (.s 35)),
      .op (some 3) (.mov (.s 36))]))
  (.reg [.op (some 27) (.mov (.s 5)),
     .op (some 28) (.bin .add (.s 27) (.k (.c TI (1 : Int)))),
     .op (some 5) (.mov (.s 28))])))
def s_WordsHeld_L4 : List (Nat × Md) := [(1, .b [.d, .d, .d, .d]), (3, .one .d), (5, .one .d)]
def s_WordsHeld_b6 : TCode :=
  (.seq (.seq (.reg [.op (some 37) (.mov (.s 6)),
     .op (some 38) (.fad (.s 1) 3),
     .op (some 39) (.load (.s 38) 1 false),
     .op (some 40) (.len (.s 39)),
     .op (some 41) (.bin .lss (.s 37) (.s 40))])
  (.cond (.s 41) .skip (.exit 4)))
 (.seq (.block 5 (.reg [.op (some 44) (.mov (.s 3)),
      .op (some 45) (.fad (.s 1) 3),
      .op (some 46) (.load (.s 45) 1 false),
      .op (some 47) (.mov (.s 6)),
      .op (some 48) (.iad (.s 46) (.s 47) ctQueue),
      .op (some 49) (.load (.s 48) 2 true),
      .op (some 50) (.call 50 [(.s 49)]),
      .op (some 51) (.bin .add (.s 44) (.s 50)),
      .op (some 3) (.mov (.s 51))]))
  (.reg [.op (some 42) (.mov (.s 6)),
     .op (some 43) (.bin .add (.s 42) (.k (.c TI (1 : Int)))),
     .op (some 6) (.mov (.s 43))])))
def s_WordsHeld_L6 : List (Nat × Md) := [(1, .b [.d, .d, .d, .d]), (3, .one .d), (6, .one .d)]
def s_WordsHeld_y5 : TCode :=
  (.seq (.reg [.op (some 52) (.mov (.s 3)),
    .op (some 2) (.mov (.s 52))])
 .ret)
def s_WordsHeld_y3 : TCode :=
  (.seq (.seq (.reg [.op (some 6) (.mov (.k (.c TI (0 : Int))))])
  (.block 4 (.loop s_WordsHeld_L6 s_WordsHeld_b6)))
 s_WordsHeld_y5)
def s_WordsHeld_y1 : TCode :=
  (.seq (.seq (.reg [.op (some 5) (.mov (.k (.c TI (0 : Int))))])
  (.block 2 (.loop s_WordsHeld_L4 s_WordsHeld_b4)))
 s_WordsHeld_y3)
def s_WordsHeld_c : TCode :=
  (.seq (.reg [.op (some 1) (.box 123 (.s 0) 4),
    .op (some 2) (.mov (.k (.c TI (0 : Int))))])
 (.seq (.reg [.op (some 3) (.mov (.k (.c TI (0 : Int))))])
  (.seq (.seq (.reg [.op (some 4) (.mov (.k (.c TI (0 : Int))))])
    (.block 0 (.loop s_WordsHeld_L2 s_WordsHeld_b2)))
   s_WordsHeld_y1)))
def s_WordsHeld_rs : List (ARv × Md) := [(.t 2, .one .d)]
theorem s_WordsHeld_st : compF Try.prog 106 = some (s_WordsHeld_c.er, s_WordsHeld_rs.map Prod.fst, 53) := by kernel_rfl
def s_WordsHeld_Q (K : TRes → Prop) : TPost := TQ 0 s_WordsHeld_rs K
def s_WordsHeld_q1 (K : TRes → Prop) : TPost := Qseq (tawp s_WordsHeld_G 0 s_WordsHeld_y5 (s_WordsHeld_Q K)) (s_WordsHeld_Q K)
def s_WordsHeld_q2 (K : TRes → Prop) : TPost := Qblk 4 (s_WordsHeld_q1 K)
def s_WordsHeld_A6 (K : TRes → Prop) (p : TPipe) (n2 : Int) (i1 : Int) : Prop := Loop s_WordsHeld_G 0 s_WordsHeld_L6 s_WordsHeld_b6 (s_WordsHeld_q2 K) ⟨[(1, (.p 0 0 0)), (3, (.c TI n2)), (6, (.c TI i1))], [(0, (.box [(.c (.sl ctPair) p.1), (.c (.sl ctStage) p.2.1), (.c (.sl ctQueue) p.2.2.1), (.c (.sl ctQueue) p.2.2.2)]))], 1⟩
def s_WordsHeld_q3 (K : TRes → Prop) : TPost := Qseq (tawp s_WordsHeld_G 0 s_WordsHeld_y3 (s_WordsHeld_Q K)) (s_WordsHeld_Q K)
def s_WordsHeld_q4 (K : TRes → Prop) : TPost := Qblk 2 (s_WordsHeld_q3 K)
def s_WordsHeld_A4 (K : TRes → Prop) (p : TPipe) (n1 : Int) (i : Int) : Prop := Loop s_WordsHeld_G 0 s_WordsHeld_L4 s_WordsHeld_b4 (s_WordsHeld_q4 K) ⟨[(1, (.p 0 0 0)), (3, (.c TI n1)), (5, (.c TI i))], [(0, (.box [(.c (.sl ctPair) p.1), (.c (.sl ctStage) p.2.1), (.c (.sl ctQueue) p.2.2.1), (.c (.sl ctQueue) p.2.2.2)]))], 1⟩
def s_WordsHeld_q5 (K : TRes → Prop) : TPost := Qseq (tawp s_WordsHeld_G 0 s_WordsHeld_y1 (s_WordsHeld_Q K)) (s_WordsHeld_Q K)
def s_WordsHeld_q6 (K : TRes → Prop) : TPost := Qblk 0 (s_WordsHeld_q5 K)
def s_WordsHeld_A2 (K : TRes → Prop) (p : TPipe) (n : Int) (s : Int) : Prop := Loop s_WordsHeld_G 0 s_WordsHeld_L2 s_WordsHeld_b2 (s_WordsHeld_q6 K) ⟨[(1, (.p 0 0 0)), (3, (.c TI n)), (4, (.c TI s))], [(0, (.box [(.c (.sl ctPair) p.1), (.c (.sl ctStage) p.2.1), (.c (.sl ctQueue) p.2.2.1), (.c (.sl ctQueue) p.2.2.2)]))], 1⟩
theorem s_WordsHeld_v6 (K : TRes → Prop) (p : TPipe) (n2 : Int) (i1 : Int) (h :
  (((decide (i1 < ((p.2.2.2).length : Int))) = true → (((0 : Int) ≤ i1 ∧ Int.toNat i1 < (p.2.2.2).length) ∧ (s_WordsHeld_A6 K p (w64 (n2 + (m_queueWords (gtd dQueue p.2.2.2 (Int.toNat i1))))) (w64 (i1 + (1 : Int)))))) ∧ ((decide (i1 < ((p.2.2.2).length : Int))) = false → K (s_WordsHeld_R n2)))) : s_WordsHeld_A6 K p n2 i1 :=
  Loop.of (by kernel_rfl) h
theorem s_WordsHeld_v4 (K : TRes → Prop) (p : TPipe) (n1 : Int) (i : Int) (h :
  (((decide (i < ((p.2.2.1).length : Int))) = true → (((0 : Int) ≤ i ∧ Int.toNat i < (p.2.2.1).length) ∧ (s_WordsHeld_A4 K p (w64 (n1 + (m_queueWords (gtd dQueue p.2.2.1 (Int.toNat i))))) (w64 (i + (1 : Int)))))) ∧ ((decide (i < ((p.2.2.1).length : Int))) = false → (s_WordsHeld_A6 K p n1 (0 : Int))))) : s_WordsHeld_A4 K p n1 i :=
  Loop.of (by kernel_rfl) h
theorem s_WordsHeld_v2 (K : TRes → Prop) (p : TPipe) (n : Int) (s : Int) (h :
  (((decide (s < ((p.2.1).length : Int))) = true → (((0 : Int) ≤ s ∧ Int.toNat s < (p.2.1).length) ∧ (s_WordsHeld_A2 K p (w64 (n + (m_ledger (gtd dStage p.2.1 (Int.toNat s))))) (w64 (s + (1 : Int)))))) ∧ ((decide (s < ((p.2.1).length : Int))) = false → (s_WordsHeld_A4 K p n (0 : Int))))) : s_WordsHeld_A2 K p n s :=
  Loop.of (by kernel_rfl) h
theorem s_WordsHeld_v0 (K : TRes → Prop) (p : TPipe) (h :
  (s_WordsHeld_A2 K p (0 : Int) (0 : Int))) : Hold (tawp s_WordsHeld_G 0 s_WordsHeld_c (TQ 0 s_WordsHeld_rs K) (tstart [(.a (Tup.cells ctPipe p))])) :=
  Hold.of (by kernel_rfl) h
theorem s_WordsHeld_t (p : TPipe) (r : TRes) (h : Hold (tawp s_WordsHeld_G 0 s_WordsHeld_c (TQ 0 s_WordsHeld_rs fun r' => r' = r) (tstart [(.a (Tup.cells ctPipe p))]))) : TCon Try.prog 106 [(.a (Tup.cells ctPipe p))] r :=
  tcon_gen (sg := [(.a ctPipe)]) mixed (TOk.cons s_Ledger_ok (TOk.cons s_QueueWords_ok TOk.nil)) s_WordsHeld_st (by kernel_rfl) (by kernel_rfl) (by kernel_rfl) h
theorem s_WordsHeld_h : s_WordsHeld_C := by
  intro p
  refine tcon_bd rfl fun hb => s_WordsHeld_t p _ (s_WordsHeld_v0 _ p ?_)
  have hl_p_0 : (p.1).length ≤ 9223372036854775807 := hb.1.1.1
  have hl_p_1 : (p.2.1).length ≤ 9223372036854775807 := hb.1.2.1.1
  have hl_p_2 : (p.2.2.1).length ≤ 9223372036854775807 := hb.1.2.2.1.1
  have hl_p_3 : (p.2.2.2).length ≤ 9223372036854775807 := hb.1.2.2.2.1.1
  have backs : ∀ y : Int, w64 (y + (p.2.2.2.map m_queueWords).sum) = (m_wordsHeld p) → s_WordsHeld_A6 (fun r' => r' = s_WordsHeld_R (m_wordsHeld p)) p (w64 y) ((0 : Nat) : Int) := by
    refine listLoop p.2.2.2 (fun r k => ∀ y : Int, w64 (y + (r.map m_queueWords).sum) = (m_wordsHeld p) → s_WordsHeld_A6 (fun r' => r' = s_WordsHeld_R (m_wordsHeld p)) p (w64 y) k) ?_ ?_
    · intro y he
      refine s_WordsHeld_v6 (fun r' => r' = s_WordsHeld_R (m_wordsHeld p)) p _ _ ⟨fun h => by simp at h, fun _ => R_eq ?_⟩
      simpa using he
    · intro k x r hk hlt hg ih y he
      refine s_WordsHeld_v6 (fun r' => r' = s_WordsHeld_R (m_wordsHeld p)) p _ _ ⟨fun _ => ?_, fun h => by simp at h; omega⟩
      rw [Int.toNat_natCast, hg, w64_ok (x := (k : Int) + 1) (by omega) (by omega), w64_add_l]
      refine ⟨⟨by omega, hlt⟩, ih _ ?_⟩
      rw [← he, List.map_cons, List.sum_cons, Int.add_assoc]
  have acts : ∀ y : Int, w64 (y + (p.2.2.1.map m_queueWords).sum + (p.2.2.2.map m_queueWords).sum) = (m_wordsHeld p) → s_WordsHeld_A4 (fun r' => r' = s_WordsHeld_R (m_wordsHeld p)) p (w64 y) ((0 : Nat) : Int) := by
    refine listLoop p.2.2.1 (fun r k => ∀ y : Int, w64 (y + (r.map m_queueWords).sum + (p.2.2.2.map m_queueWords).sum) = (m_wordsHeld p) → s_WordsHeld_A4 (fun r' => r' = s_WordsHeld_R (m_wordsHeld p)) p (w64 y) k) ?_ ?_
    · intro y he
      refine s_WordsHeld_v4 (fun r' => r' = s_WordsHeld_R (m_wordsHeld p)) p _ _ ⟨fun h => by simp at h, fun _ => backs y ?_⟩
      simpa using he
    · intro k x r hk hlt hg ih y he
      refine s_WordsHeld_v4 (fun r' => r' = s_WordsHeld_R (m_wordsHeld p)) p _ _ ⟨fun _ => ?_, fun h => by simp at h; omega⟩
      rw [Int.toNat_natCast, hg, w64_ok (x := (k : Int) + 1) (by omega) (by omega), w64_add_l]
      refine ⟨⟨by omega, hlt⟩, ih _ ?_⟩
      rw [← he, List.map_cons, List.sum_cons]; congr 1; omega
  refine listLoop p.2.1 (fun r k => ∀ y : Int, w64 (y + (r.map m_ledger).sum + (p.2.2.1.map m_queueWords).sum + (p.2.2.2.map m_queueWords).sum) = (m_wordsHeld p) → s_WordsHeld_A2 (fun r' => r' = s_WordsHeld_R (m_wordsHeld p)) p (w64 y) k) ?_ ?_ 0 (by simp [m_wordsHeld])
  · intro y he
    refine s_WordsHeld_v2 (fun r' => r' = s_WordsHeld_R (m_wordsHeld p)) p _ _ ⟨fun h => by simp at h, fun _ => acts y ?_⟩
    simpa using he
  · intro k x r hk hlt hg ih y he
    refine s_WordsHeld_v2 (fun r' => r' = s_WordsHeld_R (m_wordsHeld p)) p _ _ ⟨fun _ => ?_, fun h => by simp at h; omega⟩
    rw [Int.toNat_natCast, hg, w64_ok (x := (k : Int) + 1) (by omega) (by omega), w64_add_l]
    refine ⟨⟨by omega, hlt⟩, ih _ ?_⟩
    rw [← he, List.map_cons, List.sum_cons]; congr 1; omega

theorem s_WordsHeld_ok : TRowOk Try.prog s_WordsHeld_row := rowOk fun x _ => s_WordsHeld_h x.1

def i_WordsHeld_R (t : Int) : TRes := ⟨(.c TI t), [], [], false⟩
def i_WordsHeld_row : TRow := mkRow 107 [(.a ctPipe)] fun x => (none, i_WordsHeld_R (m_wordsHeld x.1))
def i_WordsHeld_C : Prop := ∀ (x0 : TPipe), TCon Try.prog 107 [(.a (Tup.cells ctPipe x0))] (i_WordsHeld_R (m_wordsHeld x0))

/-! impl.WordsHeld -/
def i_WordsHeld_G : List TRow := [i_Ledger_row, i_QueueWords_row]
def i_WordsHeld_b2 : TCode :=
  (.seq (.reg [.op (some 14) (.bin .lss (.s 13) (.s 12))])
 (.seq (.cond (.s 14) .skip (.exit 0))
  (.seq (.block 1 (.seq (.reg [.op (some 15) (.iad (.s 11) (.s 13) ctStage),
        .op (some 16) (.load (.s 15) 14 true),
        .op (some 5) (.new 100 [(.c TI (0 : Int)), (.n ctIns), (.n ctOp), (.c .bool false), (.c .bool false), (.n ctSaved), (.n [(.sl [TI])]), (.n [TI]), (.n [TI]), (.n [TI]), (.n [TI]), (.n [(.sl [TI])]), (.c TI (0 : Int)), (.c .bool false)]),
        .op none (.store (.s 5) (.s 16) 14)])
     (.reg [.op (some 17) (.mov (.s 3)),
        .op (some 18) (.load (.s 5) 14 true),
        .op (some 19) (.call 79 [(.s 18)]),
        .op (some 20) (.bin .add (.s 17) (.s 19)),
        .op (some 3) (.mov (.s 20))])))
   (.reg [.op (some 21) (.bin .add (.s 13) (.k (.c TI (1 : Int)))),
      .op (some 13) (.mov (.s 21))]))))
def i_WordsHeld_L2 : List (Nat × Md) := [(1, .b [.d, .d, .d, .d]), (3, .one .d), (11, .one .d), (12, .one .d), (13, .one .d)]
def i_WordsHeld_b6 : TCode :=
  (.seq (.reg [.op (some 35) (.bin .lss (.s 34) (.s 33))])
 (.seq (.cond (.s 35) .skip (.exit 4))
  (.seq (.block 5 (.seq (.reg [.op (some 36) (.iad (.s 32) (.s 34) ctQueue),
        .op (some 37) (.load (.s 36) 2 true),
        .op (some 9) (.new 52 [(.c TI (0 : Int)), (.n ctItem)]),
        .op none (.store (.s 9) (.s 37) 2)])
     (.reg [.op (some 38) (.mov (.s 3)),
        .op (some 39) (.load (.s 9) 2 true),
        .op (some 40) (.call 51 [(.s 39)]),
        .op (some 41) (.bin .add (.s 38) (.s 40)),
        .op (some 3) (.mov (.s 41))])))
   (.reg [.op (some 42) (.bin .add (.s 34) (.k (.c TI (1 : Int)))),
      .op (some 34) (.mov (.s 42))]))))
def i_WordsHeld_L6 : List (Nat × Md) := [(3, .one .d), (26, .one .d), (27, .one .d), (28, .one .d), (32, .one .d), (33, .one .d), (34, .one .d)]
def i_WordsHeld_y5 : TCode :=
  (.reg [.op (some 43) (.bin .add (.s 28) (.k (.c TI (1 : Int)))),
   .op (some 28) (.mov (.s 43))])
def i_WordsHeld_b4 : TCode :=
  (.seq (.reg [.op (some 29) (.bin .lss (.s 28) (.s 27))])
 (.seq (.cond (.s 29) .skip (.exit 2))
  (.seq (.block 3 (.seq (.reg [.op (some 30) (.iad (.s 26) (.s 28) [(.sl ctQueue)]),
        .op (some 31) (.load (.s 30) 1 false),
        .op (some 7) (.mov (.s 31))])
     (.seq (.reg [.op (some 32) (.mov (.s 7)),
         .op (some 33) (.len (.s 32)),
         .op (some 34) (.mov (.k (.c TI (0 : Int))))])
      (.block 4 (.loop i_WordsHeld_L6 i_WordsHeld_b6)))))
   i_WordsHeld_y5)))
def i_WordsHeld_L4 : List (Nat × Md) := [(3, .one .d), (26, .one .d), (27, .one .d), (28, .one .d)]
def i_WordsHeld_y3 : TCode :=
  (.seq (.reg [.op (some 44) (.mov (.s 3)),
    .op (some 2) (.mov (.s 44))])
 .ret)
def i_WordsHeld_y1 : TCode :=
  (.seq (.seq (.reg [.op (some 22) (.fad (.s 1) 2),
     .op (some 23) (.load (.s 22) 1 false),
     .op (some 24) (.fad (.s 1) 3),
     .op (some 25) (.load (.s 24) 1 false),
     .op (some 26) (.bsl 121 [(.sl ctQueue)] [(.s 23), (.s 25)]),
     .op (some 27) (.len (.s 26)),
     .op (some 28) (.mov (.k (.c TI (0 : Int))))])
  (.block 2 (.loop i_WordsHeld_L4 i_WordsHeld_b4)))
 i_WordsHeld_y3)
def i_WordsHeld_c : TCode :=
  (.seq (.reg [.op (some 1) (.box 123 (.s 0) 4),
    .op (some 2) (.mov (.k (.c TI (0 : Int))))])
 (.seq (.reg [.op (some 3) (.mov (.k (.c TI (0 : Int))))])
  (.seq (.seq (.reg [.op (some 10) (.fad (.s 1) 1),
       .op (some 11) (.load (.s 10) 1 false),
       .op (some 12) (.len (.s 11)),
       .op (some 13) (.mov (.k (.c TI (0 : Int))))])
    (.block 0 (.loop i_WordsHeld_L2 i_WordsHeld_b2)))
   i_WordsHeld_y1)))
def i_WordsHeld_rs : List (ARv × Md) := [(.t 2, .one .d)]
theorem i_WordsHeld_st : compF Try.prog 107 = some (i_WordsHeld_c.er, i_WordsHeld_rs.map Prod.fst, 45) := by kernel_rfl
def i_WordsHeld_Q (K : TRes → Prop) : TPost := TQ 0 i_WordsHeld_rs K
def i_WordsHeld_q1 (K : TRes → Prop) : TPost := Qseq (tawp i_WordsHeld_G 0 i_WordsHeld_y3 (i_WordsHeld_Q K)) (i_WordsHeld_Q K)
def i_WordsHeld_q2 (K : TRes → Prop) : TPost := Qblk 2 (i_WordsHeld_q1 K)
def i_WordsHeld_q3 (K : TRes → Prop) : TPost := Qseq (fun s' => Loop i_WordsHeld_G 0 i_WordsHeld_L4 i_WordsHeld_b4 (i_WordsHeld_q2 K) (gc 0 i_WordsHeld_L4 s')) (i_WordsHeld_q2 K)
def i_WordsHeld_q4 (K : TRes → Prop) : TPost := Qseq (tawp i_WordsHeld_G 0 i_WordsHeld_y5 (i_WordsHeld_q3 K)) (i_WordsHeld_q3 K)
def i_WordsHeld_q5 (K : TRes → Prop) : TPost := Qblk 3 (i_WordsHeld_q4 K)
def i_WordsHeld_q6 (K : TRes → Prop) : TPost := Qblk 4 (i_WordsHeld_q5 K)
def i_WordsHeld_A6 (K : TRes → Prop) (p : TPipe) (n1 : Int) (x1 : Int) (x2 : Int) : Prop := Loop i_WordsHeld_G 0 i_WordsHeld_L6 i_WordsHeld_b6 (i_WordsHeld_q6 K) ⟨[(3, (.c TI n1)), (26, (.c (.sl [(.sl ctQueue)]) (List.take 2 (List.drop 0 ([p.2.2.1, p.2.2.2]))))), (27, (.c TI ((2 : Nat) : Int))), (28, (.c TI x2)), (32, (.c (.sl ctQueue) (gtd ([] : List TQueue) (List.take 2 (List.drop 0 ([p.2.2.1, p.2.2.2]))) (Int.toNat x2)))), (33, (.c TI ((gtd ([] : List TQueue) (List.take 2 (List.drop 0 ([p.2.2.1, p.2.2.2]))) (Int.toNat x2)).length : Int))), (34, (.c TI x1))], [], 0⟩
def i_WordsHeld_A4 (K : TRes → Prop) (p : TPipe) (n2 : Int) (x2 : Int) : Prop := Loop i_WordsHeld_G 0 i_WordsHeld_L4 i_WordsHeld_b4 (i_WordsHeld_q2 K) ⟨[(3, (.c TI n2)), (26, (.c (.sl [(.sl ctQueue)]) (List.take 2 (List.drop 0 ([p.2.2.1, p.2.2.2]))))), (27, (.c TI ((2 : Nat) : Int))), (28, (.c TI x2))], [], 0⟩
def i_WordsHeld_q7 (K : TRes → Prop) : TPost := Qseq (tawp i_WordsHeld_G 0 i_WordsHeld_y1 (i_WordsHeld_Q K)) (i_WordsHeld_Q K)
def i_WordsHeld_q8 (K : TRes → Prop) : TPost := Qblk 0 (i_WordsHeld_q7 K)
def i_WordsHeld_A2 (K : TRes → Prop) (p : TPipe) (n : Int) (x : Int) : Prop := Loop i_WordsHeld_G 0 i_WordsHeld_L2 i_WordsHeld_b2 (i_WordsHeld_q8 K) ⟨[(1, (.p 0 0 0)), (3, (.c TI n)), (11, (.c (.sl ctStage) p.2.1)), (12, (.c TI ((p.2.1).length : Int))), (13, (.c TI x))], [(0, (.box [(.c (.sl ctPair) p.1), (.c (.sl ctStage) p.2.1), (.c (.sl ctQueue) p.2.2.1), (.c (.sl ctQueue) p.2.2.2)]))], 1⟩
theorem i_WordsHeld_v6 (K : TRes → Prop) (p : TPipe) (n1 : Int) (x1 : Int) (x2 : Int) (h :
  (((decide (x1 < ((gtd ([] : List TQueue) (List.take 2 (List.drop 0 ([p.2.2.1, p.2.2.2]))) (Int.toNat x2)).length : Int))) = true → (((0 : Int) ≤ x1 ∧ Int.toNat x1 < (gtd ([] : List TQueue) (List.take 2 (List.drop 0 ([p.2.2.1, p.2.2.2]))) (Int.toNat x2)).length) ∧ (i_WordsHeld_A6 K p (w64 (n1 + (m_queueWords (gtd dQueue (gtd ([] : List TQueue) (List.take 2 (List.drop 0 ([p.2.2.1, p.2.2.2]))) (Int.toNat x2)) (Int.toNat x1))))) (w64 (x1 + (1 : Int))) x2))) ∧ ((decide (x1 < ((gtd ([] : List TQueue) (List.take 2 (List.drop 0 ([p.2.2.1, p.2.2.2]))) (Int.toNat x2)).length : Int))) = false → (i_WordsHeld_A4 K p n1 (w64 (x2 + (1 : Int))))))) : i_WordsHeld_A6 K p n1 x1 x2 :=
  Loop.of (by kernel_rfl) h
theorem i_WordsHeld_v4 (K : TRes → Prop) (p : TPipe) (n2 : Int) (x2 : Int) (h :
  (((decide (x2 < ((2 : Nat) : Int))) = true → (((0 : Int) ≤ x2 ∧ Int.toNat x2 < (List.take 2 (List.drop 0 ([p.2.2.1, p.2.2.2]))).length) ∧ (i_WordsHeld_A6 K p n2 (0 : Int) x2))) ∧ ((decide (x2 < ((2 : Nat) : Int))) = false → K (i_WordsHeld_R n2)))) : i_WordsHeld_A4 K p n2 x2 :=
  Loop.of (by kernel_rfl) h
theorem i_WordsHeld_v2 (K : TRes → Prop) (p : TPipe) (n : Int) (x : Int) (h :
  (((decide (x < ((p.2.1).length : Int))) = true → (((0 : Int) ≤ x ∧ Int.toNat x < (p.2.1).length) ∧ (i_WordsHeld_A2 K p (w64 (n + (m_ledger (gtd dStage p.2.1 (Int.toNat x))))) (w64 (x + (1 : Int)))))) ∧ ((decide (x < ((p.2.1).length : Int))) = false → (i_WordsHeld_A4 K p n (0 : Int))))) : i_WordsHeld_A2 K p n x :=
  Loop.of (by kernel_rfl) h
theorem i_WordsHeld_v0 (K : TRes → Prop) (p : TPipe) (h :
  (i_WordsHeld_A2 K p (0 : Int) (0 : Int))) : Hold (tawp i_WordsHeld_G 0 i_WordsHeld_c (TQ 0 i_WordsHeld_rs K) (tstart [(.a (Tup.cells ctPipe p))])) :=
  Hold.of (by kernel_rfl) h
theorem i_WordsHeld_t (p : TPipe) (r : TRes) (h : Hold (tawp i_WordsHeld_G 0 i_WordsHeld_c (TQ 0 i_WordsHeld_rs fun r' => r' = r) (tstart [(.a (Tup.cells ctPipe p))]))) : TCon Try.prog 107 [(.a (Tup.cells ctPipe p))] r :=
  tcon_gen (sg := [(.a ctPipe)]) mixed (TOk.cons i_Ledger_ok (TOk.cons i_QueueWords_ok TOk.nil)) i_WordsHeld_st (by kernel_rfl) (by kernel_rfl) (by kernel_rfl) h
theorem i_WordsHeld_h : i_WordsHeld_C := by
  intro p
  refine tcon_bd rfl fun hb => i_WordsHeld_t p _ (i_WordsHeld_v0 _ p ?_)
  have hl_p_0 : (p.1).length ≤ 9223372036854775807 := hb.1.1.1
  have hl_p_1 : (p.2.1).length ≤ 9223372036854775807 := hb.1.2.1.1
  have hl_p_2 : (p.2.2.1).length ≤ 9223372036854775807 := hb.1.2.2.1.1
  have hl_p_3 : (p.2.2.2).length ≤ 9223372036854775807 := hb.1.2.2.2.1.1
  have two : ∀ y : Int, w64 y = (m_wordsHeld p) → i_WordsHeld_A4 (fun r' => r' = i_WordsHeld_R (m_wordsHeld p)) p (w64 y) 2 := fun y h => i_WordsHeld_v4 (fun r' => r' = i_WordsHeld_R (m_wordsHeld p)) p _ _ ⟨fun h => by simp at h, fun _ => R_eq h⟩
  have loop : ∀ (l : List TQueue) (j : Int) (nxt : Int), gtd ([] : List TQueue) (List.take 2 (List.drop 0 ([p.2.2.1, p.2.2.2]))) (Int.toNat j) = l → l.length ≤ 9223372036854775807 → w64 (j + 1) = nxt → ∀ rest : Int, (∀ y : Int, w64 (y + rest) = (m_wordsHeld p) → i_WordsHeld_A4 (fun r' => r' = i_WordsHeld_R (m_wordsHeld p)) p (w64 y) nxt) →
      ∀ y : Int, w64 (y + (l.map m_queueWords).sum + rest) = (m_wordsHeld p) → i_WordsHeld_A6 (fun r' => r' = i_WordsHeld_R (m_wordsHeld p)) p (w64 y) ((0 : Nat) : Int) j := by
    intro l j nxt hl hb2 hn rest h1
    refine listLoop l (fun r k => ∀ y : Int, w64 (y + (r.map m_queueWords).sum + rest) = (m_wordsHeld p) → i_WordsHeld_A6 (fun r' => r' = i_WordsHeld_R (m_wordsHeld p)) p (w64 y) k j) ?_ ?_
    · intro y he
      refine i_WordsHeld_v6 (fun r' => r' = i_WordsHeld_R (m_wordsHeld p)) p _ _ _ ?_
      rw [hl, hn]
      exact ⟨fun h => by simp at h, fun _ => h1 y (by simpa using he)⟩
    · intro k x r hk hlt hg ih y he
      refine i_WordsHeld_v6 (fun r' => r' = i_WordsHeld_R (m_wordsHeld p)) p _ _ _ ?_
      rw [hl, hn]
      refine ⟨fun _ => ?_, fun h => by simp at h; omega⟩
      rw [Int.toNat_natCast, hg, w64_ok (x := (k : Int) + 1) (by omega) (by omega), w64_add_l]
      refine ⟨⟨by omega, hlt⟩, ih _ ?_⟩
      rw [← he, List.map_cons, List.sum_cons]; congr 1; omega
  have queues : ∀ y : Int, w64 (y + (p.2.2.1.map m_queueWords).sum + (p.2.2.2.map m_queueWords).sum) = (m_wordsHeld p) → i_WordsHeld_A4 (fun r' => r' = i_WordsHeld_R (m_wordsHeld p)) p (w64 y) 0 := by
    intro y he
    refine i_WordsHeld_v4 (fun r' => r' = i_WordsHeld_R (m_wordsHeld p)) p _ _ ⟨fun _ => ⟨⟨by omega, by simp⟩, ?_⟩, fun h => by simp at h⟩
    refine loop p.2.2.1 0 1 rfl hl_p_2 rfl (p.2.2.2.map m_queueWords).sum (fun y he => ?_) y he
    refine i_WordsHeld_v4 (fun r' => r' = i_WordsHeld_R (m_wordsHeld p)) p _ _ ⟨fun _ => ⟨⟨by omega, by simp⟩, ?_⟩, fun h => by simp at h⟩
    exact loop p.2.2.2 1 2 rfl hl_p_3 rfl 0 (fun y he => two y (by simpa using he)) y (by simpa using he)
  refine listLoop p.2.1 (fun r k => ∀ y : Int, w64 (y + (r.map m_ledger).sum + (p.2.2.1.map m_queueWords).sum + (p.2.2.2.map m_queueWords).sum) = (m_wordsHeld p) → i_WordsHeld_A2 (fun r' => r' = i_WordsHeld_R (m_wordsHeld p)) p (w64 y) k) ?_ ?_ 0 (by simp [m_wordsHeld])
  · intro y he
    refine i_WordsHeld_v2 (fun r' => r' = i_WordsHeld_R (m_wordsHeld p)) p _ _ ⟨fun h => by simp at h, fun _ => queues y ?_⟩
    simpa using he
  · intro k x r hk hlt hg ih y he
    refine i_WordsHeld_v2 (fun r' => r' = i_WordsHeld_R (m_wordsHeld p)) p _ _ ⟨fun _ => ?_, fun h => by simp at h; omega⟩
    rw [Int.toNat_natCast, hg, w64_ok (x := (k : Int) + 1) (by omega) (by omega), w64_add_l]
    refine ⟨⟨by omega, hlt⟩, ih _ ?_⟩
    rw [← he, List.map_cons, List.sum_cons]; congr 1; omega

theorem i_WordsHeld_ok : TRowOk Try.prog i_WordsHeld_row := rowOk fun x _ => i_WordsHeld_h x.1

end
end Go.Proofs.Ytpnblnkggeopkaa.Am
