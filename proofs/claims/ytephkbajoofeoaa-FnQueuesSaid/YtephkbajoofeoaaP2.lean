/-
  Written by program: the code of functions, what it asks, and that it comes to what the models say.
-/
import Derived.Test.YtephkbajoofeoaaP1
namespace Go.Proofs.Ytephkbajoofeoaa.Am
open Go Go.RowKit Go.Proofs.Ytephkbajoofeoaa
set_option linter.unusedVariables false
set_option linter.unusedSimpArgs false
noncomputable section

def i_itemOk_R (t : Bool) : TRes := ⟨(.c .bool t), [], [], false, []⟩
def i_itemOk_row : TRow := mkRow 120 [(.a ctItem)] fun x => (none, i_itemOk_R (m_itemOk x.1))
def i_itemOk_C : Prop := ∀ (x0 : TItem), TCon Try.prog 120 [(.a [(.c TI x0.1), (.c (.sl [TI]) x0.2)])] (i_itemOk_R (m_itemOk x0))

/-! impl.itemOk -/
def i_itemOk_G : List TRow := [i_VecOk_row]
def i_itemOk_c : TCode :=
  (.seq (.reg [.op (some 1) (.box 39 (.s 0) 2),
    .op (some 2) (.mov (.k (.c .bool false)))])
 (.seq (.reg [.op (some 3) (.fad (.s 1) 1),
     .op (some 4) (.load (.s 3) 1 false),
     .op (some 5) (.call 185 [(.s 4)]),
     .op (some 6) (.mov (.s 5)),
     .grp 6 true [.op (some 7) (.fad (.s 1) 0), .op (some 8) (.load (.s 7) 1 false), .op (some 9) (.bin .geq (.s 8) (.k (.c TI (0 : Int))))] 10 (.s 9),
     .op (some 11) (.mov (.s 10)),
     .grp 11 true [.op (some 12) (.fad (.s 1) 0), .op (some 13) (.load (.s 12) 1 false), .op (some 14) (.bin .lss (.s 13) (.k (.c TI (5 : Int))))] 15 (.s 14),
     .op (some 2) (.mov (.s 15))])
  .ret))
def i_itemOk_rs : List (ARv × Md) := [(.t 2, .one .d)]
theorem i_itemOk_st : compF Try.prog 120 = some (i_itemOk_c.er, i_itemOk_rs.map Prod.fst, 16) := by kernel_rfl
def i_itemOk_Q (K : TRes → Prop) : TPost := TQ 0 0 i_itemOk_rs K
theorem i_itemOk_v0 (K : TRes → Prop) (x : TItem) (h :
  K (i_itemOk_R (((m_vecOk x.2) && (decide (x.1 ≥ (0 : Int)))) && (decide (x.1 < (5 : Int)))))) : Hold (tawp i_itemOk_G (0 + 0) i_itemOk_c (TQ 0 0 i_itemOk_rs K) (tstart [(.a [(.c TI x.1), (.c (.sl [TI]) x.2)])])) :=
  Hold.of (by kernel_rfl) h
theorem i_itemOk_t (x : TItem) (r : TRes) (h : Hold (tawp i_itemOk_G (0 + 0) i_itemOk_c (TQ 0 0 i_itemOk_rs fun r' => r' = r) (tstart [(.a [(.c TI x.1), (.c (.sl [TI]) x.2)])]))) : TCon Try.prog 120 [(.a [(.c TI x.1), (.c (.sl [TI]) x.2)])] r :=
  tcon_gen (sg := [(.a ctItem)]) mixed (TOk.cons i_VecOk_ok TOk.nil) i_itemOk_st (by kernel_rfl) (by kernel_rfl) (by kernel_rfl) (by kernel_rfl) h
theorem i_itemOk_h : i_itemOk_C := by
  intro x
  refine tcon_bd rfl fun hb => i_itemOk_t x _ (i_itemOk_v0 _ x ?_)
  have hl_x_1 : (x.2).length ≤ 9223372036854775807 := hb.1.2.1.1
  exact R_eq (by grind [m_itemOk])

theorem i_itemOk_ok : TRowOk Try.prog i_itemOk_row := rowOk fun x _ => i_itemOk_h x.1

def s_QueueOk_R (t : Bool) : TRes := ⟨(.c .bool t), [], [], false, []⟩
def s_QueueOk_row : TRow := mkRow 29 [(.a ctQueue)] fun x => (none, s_QueueOk_R (m_queueOk x.1))
def s_QueueOk_C : Prop := ∀ (x0 : TQueue), TCon Try.prog 29 [(.a [(.c TI x0.1), (.c (.sl ctItem) x0.2)])] (s_QueueOk_R (m_queueOk x0))

/-! spec.QueueOk -/
def s_QueueOk_G : List TRow := [s_VecOk_row, s_l1In_row]
def s_QueueOk_b2 : TCode :=
  (.seq (.seq (.reg [.op (some 4) (.mov (.s 3)),
     .op (some 5) (.fad (.s 1) 1),
     .op (some 6) (.load (.s 5) 1 false),
     .op (some 7) (.len (.s 6)),
     .op (some 8) (.bin .lss (.s 4) (.s 7))])
  (.cond (.s 8) .skip (.exit 0)))
 (.seq (.block 1 (.seq (.reg [.op (some 11) (.fad (.s 1) 1),
       .op (some 12) (.load (.s 11) 1 false),
       .op (some 13) (.mov (.s 3)),
       .op (some 14) (.iad (.s 12) (.s 13) ctItem),
       .op (some 15) (.fad (.s 14) 1),
       .op (some 16) (.load (.s 15) 1 false),
       .op (some 17) (.call 31 [(.s 16)]),
       .op (some 18) (.not (.s 17)),
       .op (some 19) (.mov (.s 18)),
       .grp 19 false [.op (some 20) (.fad (.s 1) 1), .op (some 21) (.load (.s 20) 1 false), .op (some 22) (.mov (.s 3)), .op (some 23) (.iad (.s 21) (.s 22) ctItem), .op (some 24) (.fad (.s 23) 0), .op (some 25) (.load (.s 24) 1 false), .op (some 26) (.call 102 [(.s 25), (.k (.c TI (0 : Int))), (.k (.c TI (4 : Int)))]), .op (some 27) (.not (.s 26))] 28 (.s 27)])
    (.cond (.s 28) (.seq (.reg [.op (some 2) (.mov (.k (.c .bool false)))])
      .ret) .skip)))
  (.reg [.op (some 9) (.mov (.s 3)),
     .op (some 10) (.bin .add (.s 9) (.k (.c TI (1 : Int)))),
     .op (some 3) (.mov (.s 10))])))
def s_QueueOk_L2 : List (Nat × Md) := [(1, .b [.d, .d]), (3, .one .d)]
def s_QueueOk_y1 : TCode :=
  (.seq (.reg [.op (some 29) (.fad (.s 1) 0),
    .op (some 30) (.load (.s 29) 1 false),
    .op (some 31) (.call 102 [(.s 30), (.k (.c TI (1 : Int))), (.k (.c TI (5 : Int)))]),
    .op (some 32) (.mov (.s 31)),
    .grp 32 true [.op (some 33) (.fad (.s 1) 1), .op (some 34) (.load (.s 33) 1 false), .op (some 35) (.len (.s 34)), .op (some 36) (.fad (.s 1) 0), .op (some 37) (.load (.s 36) 1 false), .op (some 38) (.bin .leq (.s 35) (.s 37))] 39 (.s 38),
    .op (some 2) (.mov (.s 39))])
 .ret)
def s_QueueOk_c : TCode :=
  (.seq (.reg [.op (some 1) (.box 36 (.s 0) 2),
    .op (some 2) (.mov (.k (.c .bool false)))])
 (.seq (.seq (.reg [.op (some 3) (.mov (.k (.c TI (0 : Int))))])
   (.block 0 (.loop s_QueueOk_L2 s_QueueOk_b2)))
  s_QueueOk_y1))
def s_QueueOk_rs : List (ARv × Md) := [(.t 2, .one .d)]
theorem s_QueueOk_st : compF Try.prog 29 = some (s_QueueOk_c.er, s_QueueOk_rs.map Prod.fst, 40) := by kernel_rfl
def s_QueueOk_Q (K : TRes → Prop) : TPost := TQ 0 0 s_QueueOk_rs K
def s_QueueOk_q1 (K : TRes → Prop) : TPost := Qseq (tawp s_QueueOk_G 0 s_QueueOk_y1 (s_QueueOk_Q K)) (s_QueueOk_Q K)
def s_QueueOk_q2 (K : TRes → Prop) : TPost := Qblk 0 (s_QueueOk_q1 K)
def s_QueueOk_A2 (K : TRes → Prop) (q : TQueue) (i : Int) : Prop := Loop s_QueueOk_G 0 s_QueueOk_L2 s_QueueOk_b2 (s_QueueOk_q2 K) ⟨[(1, (.p 0 0 0)), (3, (.c TI i))], [(0, (.box [(.c TI q.1), (.c (.sl ctItem) q.2)]))], 1⟩
theorem s_QueueOk_v2 (K : TRes → Prop) (q : TQueue) (i : Int) (h :
  (((decide (i < ((q.2).length : Int))) = true → ((((0 : Int) ≤ i ∧ Int.toNat i < (q.2).length) ∧ ((!(!(m_vecOk ((gtd ((0, []) : TItem) q.2 (Int.toNat i)).2)))) = true → ((0 : Int) ≤ i ∧ Int.toNat i < (q.2).length))) ∧ ((((!(m_vecOk ((gtd ((0, []) : TItem) q.2 (Int.toNat i)).2))) || (!(m_in ((gtd ((0, []) : TItem) q.2 (Int.toNat i)).1) (0 : Int) (4 : Int)))) = true → K (s_QueueOk_R false)) ∧ (((!(m_vecOk ((gtd ((0, []) : TItem) q.2 (Int.toNat i)).2))) || (!(m_in ((gtd ((0, []) : TItem) q.2 (Int.toNat i)).1) (0 : Int) (4 : Int)))) = false → (s_QueueOk_A2 K q (w64 (i + (1 : Int)))))))) ∧ ((decide (i < ((q.2).length : Int))) = false → K (s_QueueOk_R ((m_in q.1 (1 : Int) (5 : Int)) && (decide (((q.2).length : Int) ≤ q.1))))))) : s_QueueOk_A2 K q i :=
  Loop.of (by kernel_rfl) h
theorem s_QueueOk_v0 (K : TRes → Prop) (q : TQueue) (h :
  (s_QueueOk_A2 K q (0 : Int))) : Hold (tawp s_QueueOk_G (0 + 0) s_QueueOk_c (TQ 0 0 s_QueueOk_rs K) (tstart [(.a [(.c TI q.1), (.c (.sl ctItem) q.2)])])) :=
  Hold.of (by kernel_rfl) h
theorem s_QueueOk_t (q : TQueue) (r : TRes) (h : Hold (tawp s_QueueOk_G (0 + 0) s_QueueOk_c (TQ 0 0 s_QueueOk_rs fun r' => r' = r) (tstart [(.a [(.c TI q.1), (.c (.sl ctItem) q.2)])]))) : TCon Try.prog 29 [(.a [(.c TI q.1), (.c (.sl ctItem) q.2)])] r :=
  tcon_gen (sg := [(.a ctQueue)]) mixed (TOk.cons s_VecOk_ok (TOk.cons s_l1In_ok TOk.nil)) s_QueueOk_st (by kernel_rfl) (by kernel_rfl) (by kernel_rfl) (by kernel_rfl) h
theorem s_QueueOk_h : s_QueueOk_C := by
  intro q
  refine tcon_bd rfl fun hb => s_QueueOk_t q _ (s_QueueOk_v0 _ q ?_)
  have hl_q_1 : (q.2).length ≤ 9223372036854775807 := hb.1.2.1.1
  refine listLoop q.2 (fun r k => r.all m_itemOk = q.2.all m_itemOk → s_QueueOk_A2 _ q k) ?_ ?_ rfl
  · intro he
    refine s_QueueOk_v2 _ q _ ⟨fun h => by simp at h, fun _ => ?_⟩
    grind [m_queueOk, m_in]
  · intro k x r hk hlt hg ih he
    refine s_QueueOk_v2 _ q _ ⟨fun _ => ?_, fun h => by simp at h; omega⟩
    rw [Int.toNat_natCast, hg, w64_ok (by omega) (by omega)]
    grind [m_queueOk, m_itemOk, m_in]

theorem s_QueueOk_ok : TRowOk Try.prog s_QueueOk_row := rowOk fun x _ => s_QueueOk_h x.1

def i_QueueOk_R (t : Bool) : TRes := ⟨(.c .bool t), [], [], false, []⟩
def i_QueueOk_row : TRow := mkRow 119 [(.a ctQueue)] fun x => (none, i_QueueOk_R (m_queueOk x.1))
def i_QueueOk_C : Prop := ∀ (x0 : TQueue), TCon Try.prog 119 [(.a [(.c TI x0.1), (.c (.sl ctItem) x0.2)])] (i_QueueOk_R (m_queueOk x0))

/-! impl.QueueOk -/
def i_QueueOk_G : List TRow := [i_itemOk_row]
def i_QueueOk_b2 : TCode :=
  (.seq (.reg [.op (some 25) (.bin .lss (.s 24) (.s 23))])
 (.seq (.cond (.s 25) .skip (.exit 0))
  (.seq (.block 1 (.seq (.reg [.op (some 26) (.iad (.s 22) (.s 24) ctItem),
        .op (some 27) (.load (.s 26) 2 true),
        .op (some 4) (.new 39 [(.c TI (0 : Int)), (.n [TI])]),
        .op none (.store (.s 4) (.s 27) 2)])
     (.seq (.reg [.op (some 28) (.load (.s 4) 2 true),
         .op (some 29) (.call 120 [(.s 28)]),
         .op (some 30) (.not (.s 29))])
      (.cond (.s 30) (.seq (.reg [.op (some 2) (.mov (.k (.c .bool false)))])
        .ret) .skip))))
   (.reg [.op (some 31) (.bin .add (.s 24) (.k (.c TI (1 : Int)))),
      .op (some 24) (.mov (.s 31))]))))
def i_QueueOk_L2 : List (Nat × Md) := [(22, .one .d), (23, .one .d), (24, .one .d)]
def i_QueueOk_y1 : TCode :=
  (.seq (.reg [.op (some 2) (.mov (.k (.c .bool true)))])
 .ret)
def i_QueueOk_c : TCode :=
  (.seq (.reg [.op (some 1) (.box 36 (.s 0) 2),
    .op (some 2) (.mov (.k (.c .bool false)))])
 (.seq (.seq (.reg [.op (some 5) (.fad (.s 1) 0),
      .op (some 6) (.load (.s 5) 1 false),
      .op (some 7) (.bin .lss (.s 6) (.k (.c TI (1 : Int)))),
      .op (some 8) (.mov (.s 7)),
      .grp 8 false [.op (some 9) (.fad (.s 1) 0), .op (some 10) (.load (.s 9) 1 false), .op (some 11) (.bin .gtr (.s 10) (.k (.c TI (5 : Int))))] 12 (.s 11),
      .op (some 13) (.mov (.s 12)),
      .grp 13 false [.op (some 14) (.fad (.s 1) 1), .op (some 15) (.load (.s 14) 1 false), .op (some 16) (.len (.s 15)), .op (some 17) (.fad (.s 1) 0), .op (some 18) (.load (.s 17) 1 false), .op (some 19) (.bin .gtr (.s 16) (.s 18))] 20 (.s 19)])
   (.cond (.s 20) (.seq (.reg [.op (some 2) (.mov (.k (.c .bool false)))])
     .ret) .skip))
  (.seq (.seq (.reg [.op (some 21) (.fad (.s 1) 1),
       .op (some 22) (.load (.s 21) 1 false),
       .op (some 23) (.len (.s 22)),
       .op (some 24) (.mov (.k (.c TI (0 : Int))))])
    (.block 0 (.loop i_QueueOk_L2 i_QueueOk_b2)))
   i_QueueOk_y1)))
def i_QueueOk_rs : List (ARv × Md) := [(.t 2, .one .d)]
theorem i_QueueOk_st : compF Try.prog 119 = some (i_QueueOk_c.er, i_QueueOk_rs.map Prod.fst, 32) := by kernel_rfl
def i_QueueOk_Q (K : TRes → Prop) : TPost := TQ 0 0 i_QueueOk_rs K
def i_QueueOk_q1 (K : TRes → Prop) : TPost := Qseq (tawp i_QueueOk_G 0 i_QueueOk_y1 (i_QueueOk_Q K)) (i_QueueOk_Q K)
def i_QueueOk_q2 (K : TRes → Prop) : TPost := Qblk 0 (i_QueueOk_q1 K)
def i_QueueOk_A2 (K : TRes → Prop) (q : TQueue) (x : Int) : Prop := Loop i_QueueOk_G 0 i_QueueOk_L2 i_QueueOk_b2 (i_QueueOk_q2 K) ⟨[(22, (.c (.sl ctItem) q.2)), (23, (.c TI ((q.2).length : Int))), (24, (.c TI x))], [], 0⟩
theorem i_QueueOk_v2 (K : TRes → Prop) (q : TQueue) (x : Int) (h :
  (((decide (x < ((q.2).length : Int))) = true → (((0 : Int) ≤ x ∧ Int.toNat x < (q.2).length) ∧ (((!(m_itemOk (gtd ((0, []) : TItem) q.2 (Int.toNat x)))) = true → K (i_QueueOk_R false)) ∧ ((!(m_itemOk (gtd ((0, []) : TItem) q.2 (Int.toNat x)))) = false → (i_QueueOk_A2 K q (w64 (x + (1 : Int)))))))) ∧ ((decide (x < ((q.2).length : Int))) = false → K (i_QueueOk_R true)))) : i_QueueOk_A2 K q x :=
  Loop.of (by kernel_rfl) h
theorem i_QueueOk_v0 (K : TRes → Prop) (q : TQueue) (h :
  (((((decide (q.1 < (1 : Int))) || (decide (q.1 > (5 : Int)))) || (decide (((q.2).length : Int) > q.1))) = true → K (i_QueueOk_R false)) ∧ ((((decide (q.1 < (1 : Int))) || (decide (q.1 > (5 : Int)))) || (decide (((q.2).length : Int) > q.1))) = false → (i_QueueOk_A2 K q (0 : Int))))) : Hold (tawp i_QueueOk_G (0 + 0) i_QueueOk_c (TQ 0 0 i_QueueOk_rs K) (tstart [(.a [(.c TI q.1), (.c (.sl ctItem) q.2)])])) :=
  Hold.of (by kernel_rfl) h
theorem i_QueueOk_t (q : TQueue) (r : TRes) (h : Hold (tawp i_QueueOk_G (0 + 0) i_QueueOk_c (TQ 0 0 i_QueueOk_rs fun r' => r' = r) (tstart [(.a [(.c TI q.1), (.c (.sl ctItem) q.2)])]))) : TCon Try.prog 119 [(.a [(.c TI q.1), (.c (.sl ctItem) q.2)])] r :=
  tcon_gen (sg := [(.a ctQueue)]) mixed (TOk.cons i_itemOk_ok TOk.nil) i_QueueOk_st (by kernel_rfl) (by kernel_rfl) (by kernel_rfl) (by kernel_rfl) h
theorem i_QueueOk_h : i_QueueOk_C := by
  intro q
  refine tcon_bd rfl fun hb => i_QueueOk_t q _ (i_QueueOk_v0 _ q ?_)
  have hl_q_1 : (q.2).length ≤ 9223372036854775807 := hb.1.2.1.1
  refine ⟨fun h => R_eq ?_, fun h => allLoop (Q := fun x => i_QueueOk_R x = i_QueueOk_R (m_queueOk q)) (p := m_itemOk) (c := fun x => !(m_itemOk x)) (0, []) hl_q_1 (fun _ => rfl) (fun i h => i_QueueOk_v2 _ q i h) (R_eq ?_)⟩
  · grind [m_queueOk]
  · grind [m_queueOk]

theorem i_QueueOk_ok : TRowOk Try.prog i_QueueOk_row := rowOk fun x _ => i_QueueOk_h x.1

def i_QueueWords_R (t : Int) : TRes := ⟨(.c TI t), [], [], false, []⟩
def i_QueueWords_row : TRow := mkRow 32 [(.a ctQueue)] fun x => (none, i_QueueWords_R (m_queueWords x.1))
def i_QueueWords_C : Prop := ∀ (x0 : TQueue), TCon Try.prog 32 [(.a [(.c TI x0.1), (.c (.sl ctItem) x0.2)])] (i_QueueWords_R (m_queueWords x0))

/-! impl.QueueWords -/
def i_QueueWords_G : List TRow := [i_QueueOk_row]
def i_QueueWords_b2 : TCode :=
  (.seq (.reg [.op (some 13) (.bin .lss (.s 12) (.s 11))])
 (.seq (.cond (.s 13) .skip (.exit 0))
  (.seq (.block 1 (.seq (.reg [.op (some 14) (.iad (.s 10) (.s 12) ctItem),
        .op (some 15) (.load (.s 14) 2 true),
        .op (some 5) (.new 39 [(.c TI (0 : Int)), (.n [TI])]),
        .op none (.store (.s 5) (.s 15) 2)])
     (.reg [.op (some 16) (.mov (.s 3)),
        .op (some 17) (.fad (.s 5) 1),
        .op (some 18) (.load (.s 17) 1 false),
        .op (some 19) (.len (.s 18)),
        .op (some 20) (.bin .add (.s 16) (.s 19)),
        .op (some 3) (.mov (.s 20))])))
   (.reg [.op (some 21) (.bin .add (.s 12) (.k (.c TI (1 : Int)))),
      .op (some 12) (.mov (.s 21))]))))
def i_QueueWords_L2 : List (Nat × Md) := [(3, .one .d), (10, .one .d), (11, .one .d), (12, .one .d)]
def i_QueueWords_y1 : TCode :=
  (.seq (.reg [.op (some 22) (.mov (.s 3)),
    .op (some 2) (.mov (.s 22))])
 .ret)
def i_QueueWords_c : TCode :=
  (.seq (.reg [.op (some 1) (.box 36 (.s 0) 2),
    .op (some 2) (.mov (.k (.c TI (0 : Int))))])
 (.seq (.seq (.reg [.op (some 6) (.load (.s 1) 2 true),
      .op (some 7) (.call 119 [(.s 6)]),
      .op (some 8) (.not (.s 7))])
   (.cond (.s 8) (.seq (.reg [.op (some 2) (.mov (.k (.c TI (0 : Int))))])
     .ret) .skip))
  (.seq (.reg [.op (some 3) (.mov (.k (.c TI (0 : Int))))])
   (.seq (.seq (.reg [.op (some 9) (.fad (.s 1) 1),
        .op (some 10) (.load (.s 9) 1 false),
        .op (some 11) (.len (.s 10)),
        .op (some 12) (.mov (.k (.c TI (0 : Int))))])
     (.block 0 (.loop i_QueueWords_L2 i_QueueWords_b2)))
    i_QueueWords_y1))))
def i_QueueWords_rs : List (ARv × Md) := [(.t 2, .one .d)]
theorem i_QueueWords_st : compF Try.prog 32 = some (i_QueueWords_c.er, i_QueueWords_rs.map Prod.fst, 23) := by kernel_rfl
def i_QueueWords_Q (K : TRes → Prop) : TPost := TQ 0 0 i_QueueWords_rs K
def i_QueueWords_q1 (K : TRes → Prop) : TPost := Qseq (tawp i_QueueWords_G 0 i_QueueWords_y1 (i_QueueWords_Q K)) (i_QueueWords_Q K)
def i_QueueWords_q2 (K : TRes → Prop) : TPost := Qblk 0 (i_QueueWords_q1 K)
def i_QueueWords_A2 (K : TRes → Prop) (q : TQueue) (n : Int) (x : Int) : Prop := Loop i_QueueWords_G 0 i_QueueWords_L2 i_QueueWords_b2 (i_QueueWords_q2 K) ⟨[(3, (.c TI n)), (10, (.c (.sl ctItem) q.2)), (11, (.c TI ((q.2).length : Int))), (12, (.c TI x))], [], 0⟩
theorem i_QueueWords_v2 (K : TRes → Prop) (q : TQueue) (n : Int) (x : Int) (h :
  (((decide (x < ((q.2).length : Int))) = true → (((0 : Int) ≤ x ∧ Int.toNat x < (q.2).length) ∧ (i_QueueWords_A2 K q (w64 (n + (((gtd ((0, []) : TItem) q.2 (Int.toNat x)).2).length : Int))) (w64 (x + (1 : Int)))))) ∧ ((decide (x < ((q.2).length : Int))) = false → K (i_QueueWords_R n)))) : i_QueueWords_A2 K q n x :=
  Loop.of (by kernel_rfl) h
theorem i_QueueWords_v0 (K : TRes → Prop) (q : TQueue) (h :
  (((!(m_queueOk q)) = true → K (i_QueueWords_R (0 : Int))) ∧ ((!(m_queueOk q)) = false → (i_QueueWords_A2 K q (0 : Int) (0 : Int))))) : Hold (tawp i_QueueWords_G (0 + 0) i_QueueWords_c (TQ 0 0 i_QueueWords_rs K) (tstart [(.a [(.c TI q.1), (.c (.sl ctItem) q.2)])])) :=
  Hold.of (by kernel_rfl) h
theorem i_QueueWords_t (q : TQueue) (r : TRes) (h : Hold (tawp i_QueueWords_G (0 + 0) i_QueueWords_c (TQ 0 0 i_QueueWords_rs fun r' => r' = r) (tstart [(.a [(.c TI q.1), (.c (.sl ctItem) q.2)])]))) : TCon Try.prog 32 [(.a [(.c TI q.1), (.c (.sl ctItem) q.2)])] r :=
  tcon_gen (sg := [(.a ctQueue)]) mixed (TOk.cons i_QueueOk_ok TOk.nil) i_QueueWords_st (by kernel_rfl) (by kernel_rfl) (by kernel_rfl) (by kernel_rfl) h
theorem i_QueueWords_h : i_QueueWords_C := by
  intro q
  refine tcon_bd rfl fun hb => i_QueueWords_t q _ (i_QueueWords_v0 _ q ?_)
  have hl_q_1 : (q.2).length ≤ 9223372036854775807 := hb.1.2.1.1
  refine ⟨fun h => R_eq (by simp at h; simp [m_queueWords, h]), fun h => ?_⟩
  have hq : m_queueOk q = true := by simpa using h
  refine listLoop q.2 (fun r k => ∀ y : Int, w64 (y + (r.map fun x => (x.2.length : Int)).sum) = (m_queueWords q) → i_QueueWords_A2 (fun r' => r' = i_QueueWords_R (m_queueWords q)) q (w64 y) k) ?_ ?_ 0 (by simp [m_queueWords, hq])
  · intro y he
    refine i_QueueWords_v2 _ q _ _ ⟨fun h => by simp at h, fun _ => ?_⟩
    grind
  · intro k x r hk hlt hg ih y he
    refine i_QueueWords_v2 _ q _ _ ⟨fun _ => ?_, fun h => by simp at h; omega⟩
    rw [Int.toNat_natCast, hg, w64_ok (x := (k : Int) + 1) (by omega) (by omega), w64_add_l]
    refine ⟨⟨by omega, hlt⟩, ih _ ?_⟩
    rw [← he, List.map_cons, List.sum_cons, Int.add_assoc]

theorem i_QueueWords_ok : TRowOk Try.prog i_QueueWords_row := rowOk fun x _ => i_QueueWords_h x.1

end
end Go.Proofs.Ytephkbajoofeoaa.Am
