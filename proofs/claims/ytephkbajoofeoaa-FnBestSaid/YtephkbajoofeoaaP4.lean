/-
  Written by program: the code of functions, what it asks, and that it comes to what the models say.
-/
import Derived.Test.YtephkbajoofeoaaP1
namespace Go.Proofs.Ytephkbajoofeoaa.Am
open Go Go.RowKit Go.Proofs.Ytephkbajoofeoaa
set_option linter.unusedVariables false
set_option linter.unusedSimpArgs false
noncomputable section

def s_OpSize_R (t : Int) : TRes := ⟨(.c TI t), [], [], false, []⟩
def s_OpSize_row : TRow := mkRow 191 [(.a ctOp)] fun x => (none, s_OpSize_R (m_opSize x.1))
def s_OpSize_C : Prop := ∀ (x0 : TOp'), TCon Try.prog 191 [(.a (Tup.cells ctOp x0))] (s_OpSize_R (m_opSize x0))

/-! spec.OpSize -/
def s_OpSize_G : List TRow := [s_l1In_row]
def s_OpSize_y2 : TCode :=
  (.cond (.s 15) (.seq (.reg [.op (some 18) (.fad (.s 1) 1),
     .op (some 19) (.load (.s 18) 1 false),
     .op (some 20) (.fad (.s 1) 2),
     .op (some 21) (.load (.s 20) 1 false),
     .op (some 22) (.bin .mul (.s 19) (.s 21)),
     .op (some 2) (.mov (.s 22))])
  .ret) (.seq (.reg [.op (some 24) (.bin .eql (.s 14) (.k (.c TI (2 : Int)))),
     .op (some 23) (.mov (.s 24))])
  (.cond (.s 23) (.seq (.reg [.op (some 25) (.fad (.s 1) 1),
       .op (some 26) (.load (.s 25) 1 false),
       .op (some 2) (.mov (.s 26))])
    .ret) (.seq (.reg [.op (some 28) (.bin .eql (.s 14) (.k (.c TI (4 : Int)))),
       .op (some 27) (.mov (.s 28))])
    (.cond (.s 27) (.seq (.reg [.op (some 2) (.mov (.k (.c TI (1 : Int))))])
      .ret) .skip)))))
def s_OpSize_L2 : List (Nat × Md) := [(1, .b [.d, .d, .d, .d]), (14, .one .d), (15, .one .d)]
def s_OpSize_y2w : TCode := .wk s_OpSize_L2 s_OpSize_y2
def s_OpSize_y1 : TCode :=
  (.seq (.reg [.op (some 2) (.mov (.k (.c TI (0 : Int))))])
 .ret)
def s_OpSize_c : TCode :=
  (.seq (.reg [.op (some 1) (.box 76 (.s 0) 4),
    .op (some 2) (.mov (.k (.c TI (0 : Int))))])
 (.seq (.seq (.reg [.op (some 3) (.fad (.s 1) 1),
      .op (some 4) (.load (.s 3) 1 false),
      .op (some 5) (.call 102 [(.s 4), (.k (.c TI (1 : Int))), (.k (.c TI (6 : Int)))]),
      .op (some 6) (.not (.s 5)),
      .op (some 7) (.mov (.s 6)),
      .grp 7 false [.op (some 8) (.fad (.s 1) 2), .op (some 9) (.load (.s 8) 1 false), .op (some 10) (.call 102 [(.s 9), (.k (.c TI (1 : Int))), (.k (.c TI (6 : Int)))]), .op (some 11) (.not (.s 10))] 12 (.s 11)])
   (.cond (.s 12) (.seq (.reg [.op (some 2) (.mov (.k (.c TI (0 : Int))))])
     .ret) .skip))
  (.seq (.seq (.reg [.op (some 13) (.fad (.s 1) 0),
       .op (some 14) (.load (.s 13) 1 false)])
    (.block 0 (.seq (.seq (.reg [.op (some 16) (.bin .eql (.s 14) (.k (.c TI (1 : Int)))),
          .op (some 15) (.mov (.s 16))])
       (.cond (.s 15) .skip (.reg [.op (some 17) (.bin .eql (.s 14) (.k (.c TI (5 : Int)))),
           .op (some 15) (.mov (.s 17))])))
      s_OpSize_y2w)))
   s_OpSize_y1)))
def s_OpSize_rs : List (ARv × Md) := [(.t 2, .one .d)]
theorem s_OpSize_st : compF Try.prog 191 = some (s_OpSize_c.er, s_OpSize_rs.map Prod.fst, 29) := by kernel_rfl
def s_OpSize_Q (K : TRes → Prop) : TPost := TQ 0 0 s_OpSize_rs K
def s_OpSize_q1 (K : TRes → Prop) : TPost := Qseq (tawp s_OpSize_G 0 s_OpSize_y1 (s_OpSize_Q K)) (s_OpSize_Q K)
def s_OpSize_q2 (K : TRes → Prop) : TPost := Qblk 0 (s_OpSize_q1 K)
def s_OpSize_A2 (K : TRes → Prop) (o : TOp') (x : Bool) : Prop := tawp s_OpSize_G 0 s_OpSize_y2 (s_OpSize_q2 K) ⟨[(1, (.p 0 0 0)), (14, (.c TI o.1)), (15, (.c .bool x))], [(0, (.box [(.c TI o.1), (.c TI o.2.1), (.c TI o.2.2.1), (.c (.sl [TI]) o.2.2.2)]))], 1⟩
theorem s_OpSize_v2 (K : TRes → Prop) (o : TOp') (x : Bool) (h :
  ((x = true → K (s_OpSize_R (w64 (o.2.1 * o.2.2.1)))) ∧ (x = false → (((o.1 == (2 : Int)) = true → K (s_OpSize_R o.2.1)) ∧ ((o.1 == (2 : Int)) = false → (((o.1 == (4 : Int)) = true → K (s_OpSize_R (1 : Int))) ∧ ((o.1 == (4 : Int)) = false → K (s_OpSize_R (0 : Int))))))))) : Hold (s_OpSize_A2 K o x) :=
  Hold.of (by kernel_rfl) h
theorem s_OpSize_v0 (K : TRes → Prop) (o : TOp') (h :
  ((((!(m_in o.2.1 (1 : Int) (6 : Int))) || (!(m_in o.2.2.1 (1 : Int) (6 : Int)))) = true → K (s_OpSize_R (0 : Int))) ∧ (((!(m_in o.2.1 (1 : Int) (6 : Int))) || (!(m_in o.2.2.1 (1 : Int) (6 : Int)))) = false → (((o.1 == (1 : Int)) = true → (s_OpSize_A2 K o (o.1 == (1 : Int)))) ∧ ((o.1 == (1 : Int)) = false → (s_OpSize_A2 K o (o.1 == (5 : Int)))))))) : Hold (tawp s_OpSize_G (0 + 0) s_OpSize_c (TQ 0 0 s_OpSize_rs K) (tstart [(.a (Tup.cells ctOp o))])) :=
  Hold.of (by kernel_rfl) h
theorem s_OpSize_t (o : TOp') (r : TRes) (h : Hold (tawp s_OpSize_G (0 + 0) s_OpSize_c (TQ 0 0 s_OpSize_rs fun r' => r' = r) (tstart [(.a (Tup.cells ctOp o))]))) : TCon Try.prog 191 [(.a (Tup.cells ctOp o))] r :=
  tcon_gen (sg := [(.a ctOp)]) mixed (TOk.cons s_l1In_ok TOk.nil) s_OpSize_st (by kernel_rfl) (by kernel_rfl) (by kernel_rfl) (by kernel_rfl) h
theorem s_OpSize_h : s_OpSize_C := by
  intro o
  refine tcon_bd rfl fun hb => s_OpSize_t o _ (s_OpSize_v0 _ o ?_)
  have hl_o_3 : (o.2.2.2).length ≤ 9223372036854775807 := hb.1.2.2.2.1.1
  refine ⟨fun h => R_eq (by grind [m_opSize]), fun h => ?_⟩
  have hi : m_in o.2.1 1 6 = true ∧ m_in o.2.2.1 1 6 = true := by simpa using h
  have hm := mul66 (m_in_iff.1 hi.1).1 (m_in_iff.1 hi.1).2 (m_in_iff.1 hi.2).1 (m_in_iff.1 hi.2).2
  have hw := w64_ok (x := o.2.1 * o.2.2.1) (by omega) (by omega)
  refine ⟨fun h1 => (s_OpSize_v2 (fun r' => r' = s_OpSize_R (m_opSize o)) o _ ?_).h, fun h1 => (s_OpSize_v2 (fun r' => r' = s_OpSize_R (m_opSize o)) o _ ?_).h⟩ <;> grind [m_opSize]

theorem s_OpSize_ok : TRowOk Try.prog s_OpSize_row := rowOk fun x _ => s_OpSize_h x.1

def i_OpSize_R (t : Int) : TRes := ⟨(.c TI t), [], [], false, []⟩
def i_OpSize_row : TRow := mkRow 189 [(.a ctOp)] fun x => (none, i_OpSize_R (m_opSize x.1))
def i_OpSize_C : Prop := ∀ (x0 : TOp'), TCon Try.prog 189 [(.a (Tup.cells ctOp x0))] (i_OpSize_R (m_opSize x0))

/-! impl.OpSize -/
def i_OpSize_G : List TRow := []
def i_OpSize_y2 : TCode :=
  (.cond (.s 23) (.seq (.reg [.op (some 26) (.fad (.s 1) 1),
     .op (some 27) (.load (.s 26) 1 false),
     .op (some 28) (.fad (.s 1) 2),
     .op (some 29) (.load (.s 28) 1 false),
     .op (some 30) (.bin .mul (.s 27) (.s 29)),
     .op (some 2) (.mov (.s 30))])
  .ret) (.seq (.reg [.op (some 32) (.bin .eql (.s 22) (.k (.c TI (2 : Int)))),
     .op (some 31) (.mov (.s 32))])
  (.cond (.s 31) (.seq (.reg [.op (some 33) (.fad (.s 1) 1),
       .op (some 34) (.load (.s 33) 1 false),
       .op (some 2) (.mov (.s 34))])
    .ret) (.seq (.reg [.op (some 36) (.bin .eql (.s 22) (.k (.c TI (4 : Int)))),
       .op (some 35) (.mov (.s 36))])
    (.cond (.s 35) (.seq (.reg [.op (some 2) (.mov (.k (.c TI (1 : Int))))])
      .ret) .skip)))))
def i_OpSize_L2 : List (Nat × Md) := [(1, .b [.d, .d, .d, .d]), (22, .one .d), (23, .one .d)]
def i_OpSize_y2w : TCode := .wk i_OpSize_L2 i_OpSize_y2
def i_OpSize_y1 : TCode :=
  (.seq (.reg [.op (some 2) (.mov (.k (.c TI (0 : Int))))])
 .ret)
def i_OpSize_c : TCode :=
  (.seq (.reg [.op (some 1) (.box 76 (.s 0) 4),
    .op (some 2) (.mov (.k (.c TI (0 : Int))))])
 (.seq (.seq (.reg [.op (some 3) (.fad (.s 1) 1),
      .op (some 4) (.load (.s 3) 1 false),
      .op (some 5) (.bin .lss (.s 4) (.k (.c TI (1 : Int)))),
      .op (some 6) (.mov (.s 5)),
      .grp 6 false [.op (some 7) (.fad (.s 1) 1), .op (some 8) (.load (.s 7) 1 false), .op (some 9) (.bin .gtr (.s 8) (.k (.c TI (6 : Int))))] 10 (.s 9),
      .op (some 11) (.mov (.s 10)),
      .grp 11 false [.op (some 12) (.fad (.s 1) 2), .op (some 13) (.load (.s 12) 1 false), .op (some 14) (.bin .lss (.s 13) (.k (.c TI (1 : Int))))] 15 (.s 14),
      .op (some 16) (.mov (.s 15)),
      .grp 16 false [.op (some 17) (.fad (.s 1) 2), .op (some 18) (.load (.s 17) 1 false), .op (some 19) (.bin .gtr (.s 18) (.k (.c TI (6 : Int))))] 20 (.s 19)])
   (.cond (.s 20) (.seq (.reg [.op (some 2) (.mov (.k (.c TI (0 : Int))))])
     .ret) .skip))
  (.seq (.seq (.reg [.op (some 21) (.fad (.s 1) 0),
       .op (some 22) (.load (.s 21) 1 false)])
    (.block 0 (.seq (.seq (.reg [.op (some 24) (.bin .eql (.s 22) (.k (.c TI (1 : Int)))),
          .op (some 23) (.mov (.s 24))])
       (.cond (.s 23) .skip (.reg [.op (some 25) (.bin .eql (.s 22) (.k (.c TI (5 : Int)))),
           .op (some 23) (.mov (.s 25))])))
      i_OpSize_y2w)))
   i_OpSize_y1)))
def i_OpSize_rs : List (ARv × Md) := [(.t 2, .one .d)]
theorem i_OpSize_st : compF Try.prog 189 = some (i_OpSize_c.er, i_OpSize_rs.map Prod.fst, 37) := by kernel_rfl
def i_OpSize_Q (K : TRes → Prop) : TPost := TQ 0 0 i_OpSize_rs K
def i_OpSize_q1 (K : TRes → Prop) : TPost := Qseq (tawp i_OpSize_G 0 i_OpSize_y1 (i_OpSize_Q K)) (i_OpSize_Q K)
def i_OpSize_q2 (K : TRes → Prop) : TPost := Qblk 0 (i_OpSize_q1 K)
def i_OpSize_A2 (K : TRes → Prop) (o : TOp') (x : Bool) : Prop := tawp i_OpSize_G 0 i_OpSize_y2 (i_OpSize_q2 K) ⟨[(1, (.p 0 0 0)), (22, (.c TI o.1)), (23, (.c .bool x))], [(0, (.box [(.c TI o.1), (.c TI o.2.1), (.c TI o.2.2.1), (.c (.sl [TI]) o.2.2.2)]))], 1⟩
theorem i_OpSize_v2 (K : TRes → Prop) (o : TOp') (x : Bool) (h :
  ((x = true → K (i_OpSize_R (w64 (o.2.1 * o.2.2.1)))) ∧ (x = false → (((o.1 == (2 : Int)) = true → K (i_OpSize_R o.2.1)) ∧ ((o.1 == (2 : Int)) = false → (((o.1 == (4 : Int)) = true → K (i_OpSize_R (1 : Int))) ∧ ((o.1 == (4 : Int)) = false → K (i_OpSize_R (0 : Int))))))))) : Hold (i_OpSize_A2 K o x) :=
  Hold.of (by kernel_rfl) h
theorem i_OpSize_v0 (K : TRes → Prop) (o : TOp') (h :
  ((((((decide (o.2.1 < (1 : Int))) || (decide (o.2.1 > (6 : Int)))) || (decide (o.2.2.1 < (1 : Int)))) || (decide (o.2.2.1 > (6 : Int)))) = true → K (i_OpSize_R (0 : Int))) ∧ (((((decide (o.2.1 < (1 : Int))) || (decide (o.2.1 > (6 : Int)))) || (decide (o.2.2.1 < (1 : Int)))) || (decide (o.2.2.1 > (6 : Int)))) = false → (((o.1 == (1 : Int)) = true → (i_OpSize_A2 K o (o.1 == (1 : Int)))) ∧ ((o.1 == (1 : Int)) = false → (i_OpSize_A2 K o (o.1 == (5 : Int)))))))) : Hold (tawp i_OpSize_G (0 + 0) i_OpSize_c (TQ 0 0 i_OpSize_rs K) (tstart [(.a (Tup.cells ctOp o))])) :=
  Hold.of (by kernel_rfl) h
theorem i_OpSize_t (o : TOp') (r : TRes) (h : Hold (tawp i_OpSize_G (0 + 0) i_OpSize_c (TQ 0 0 i_OpSize_rs fun r' => r' = r) (tstart [(.a (Tup.cells ctOp o))]))) : TCon Try.prog 189 [(.a (Tup.cells ctOp o))] r :=
  tcon_gen (sg := [(.a ctOp)]) mixed TOk.nil i_OpSize_st (by kernel_rfl) (by kernel_rfl) (by kernel_rfl) (by kernel_rfl) h
theorem i_OpSize_h : i_OpSize_C := by
  intro o
  refine tcon_bd rfl fun hb => i_OpSize_t o _ (i_OpSize_v0 _ o ?_)
  have hl_o_3 : (o.2.2.2).length ≤ 9223372036854775807 := hb.1.2.2.2.1.1
  refine ⟨fun h => R_eq (by grind [m_opSize, m_in]), fun h => ?_⟩
  have hi : m_in o.2.1 1 6 = true ∧ m_in o.2.2.1 1 6 = true := by grind [m_in]
  have hm := mul66 (m_in_iff.1 hi.1).1 (m_in_iff.1 hi.1).2 (m_in_iff.1 hi.2).1 (m_in_iff.1 hi.2).2
  have hw := w64_ok (x := o.2.1 * o.2.2.1) (by omega) (by omega)
  refine ⟨fun h1 => (i_OpSize_v2 (fun r' => r' = i_OpSize_R (m_opSize o)) o _ ?_).h, fun h1 => (i_OpSize_v2 (fun r' => r' = i_OpSize_R (m_opSize o)) o _ ?_).h⟩ <;> grind [m_opSize]

theorem i_OpSize_ok : TRowOk Try.prog i_OpSize_row := rowOk fun x _ => i_OpSize_h x.1

def s_OpOk_R (t : Bool) : TRes := ⟨(.c .bool t), [], [], false, []⟩
def s_OpOk_row : TRow := mkRow 137 [(.a ctOp)] fun x => (none, s_OpOk_R (m_opOk x.1))
def s_OpOk_C : Prop := ∀ (x0 : TOp'), TCon Try.prog 137 [(.a (Tup.cells ctOp x0))] (s_OpOk_R (m_opOk x0))

/-! spec.OpOk -/
def s_OpOk_G : List TRow := [s_l1In_row, s_OpSize_row, s_FixOk_row]
def s_OpOk_b2 : TCode :=
  (.seq (.seq (.reg [.op (some 40) (.mov (.s 3)),
     .op (some 41) (.fad (.s 1) 3),
     .op (some 42) (.load (.s 41) 1 false),
     .op (some 43) (.len (.s 42)),
     .op (some 44) (.bin .lss (.s 40) (.s 43))])
  (.cond (.s 44) .skip (.exit 0)))
 (.seq (.block 1 (.seq (.reg [.op (some 47) (.fad (.s 1) 3),
       .op (some 48) (.load (.s 47) 1 false),
       .op (some 49) (.mov (.s 3)),
       .op (some 50) (.iad (.s 48) (.s 49) [TI]),
       .op (some 51) (.load (.s 50) 1 false),
       .op (some 52) (.call 122 [(.s 51)]),
       .op (some 53) (.not (.s 52))])
    (.cond (.s 53) (.seq (.reg [.op (some 2) (.mov (.k (.c .bool false)))])
      .ret) .skip)))
  (.reg [.op (some 45) (.mov (.s 3)),
     .op (some 46) (.bin .add (.s 45) (.k (.c TI (1 : Int)))),
     .op (some 3) (.mov (.s 46))])))
def s_OpOk_L2 : List (Nat × Md) := [(1, .b [.d, .d, .d, .d]), (3, .one .d)]
def s_OpOk_y1 : TCode :=
  (.seq (.reg [.op (some 2) (.mov (.k (.c .bool true)))])
 .ret)
def s_OpOk_c : TCode :=
  (.seq (.reg [.op (some 1) (.box 76 (.s 0) 4),
    .op (some 2) (.mov (.k (.c .bool false)))])
 (.seq (.seq (.draw [.op (some 4) (.fad (.s 1) 0),
      .op (some 5) (.load (.s 4) 1 false),
      .op (some 6) (.call 102 [(.s 5), (.k (.c TI (1 : Int))), (.k (.c TI (5 : Int)))]),
      .op (some 7) (.not (.s 6)),
      .op (some 8) (.mov (.s 7)),
      .grp 8 false [.op (some 9) (.fad (.s 1) 1), .op (some 10) (.load (.s 9) 1 false), .op (some 11) (.call 102 [(.s 10), (.k (.c TI (1 : Int))), (.k (.c TI (6 : Int)))]), .op (some 12) (.not (.s 11))] 13 (.s 12),
      .op (some 14) (.mov (.s 13)),
      .grp 14 false [.op (some 15) (.fad (.s 1) 2), .op (some 16) (.load (.s 15) 1 false), .op (some 17) (.call 102 [(.s 16), (.k (.c TI (1 : Int))), (.k (.c TI (6 : Int)))]), .op (some 18) (.not (.s 17))] 19 (.s 18),
      .op (some 20) (.mov (.s 19)),
      .grp 20 false [.op (some 21) (.fad (.s 1) 0), .op (some 22) (.load (.s 21) 1 false), .op (some 23) (.bin .neq (.s 22) (.k (.c TI (1 : Int)))), .op (some 24) (.mov (.s 23)), .grp 24 true [.op (some 25) (.fad (.s 1) 1), .op (some 26) (.load (.s 25) 1 false), .op (some 27) (.fad (.s 1) 2), .op (some 28) (.load (.s 27) 1 false), .op (some 29) (.bin .neq (.s 26) (.s 28))] 30 (.s 29)] 31 (.s 30),
      .op (some 32) (.mov (.s 31)),
      .grp 32 false [.op (some 33) (.fad (.s 1) 3), .op (some 34) (.load (.s 33) 1 false), .op (some 35) (.len (.s 34)), .op (some 36) (.load (.s 1) 4 true), .op (some 37) (.call 191 [(.s 36)]), .op (some 38) (.bin .neq (.s 35) (.s 37))] 39 (.s 38)] [(29, 33), (30, 33), (31, 33)])
   (.cond (.s 39) (.seq (.reg [.op (some 2) (.mov (.k (.c .bool false)))])
     .ret) .skip))
  (.seq (.seq (.reg [.op (some 3) (.mov (.k (.c TI (0 : Int))))])
    (.block 0 (.loop s_OpOk_L2 s_OpOk_b2)))
   s_OpOk_y1)))
def s_OpOk_rs : List (ARv × Md) := [(.t 2, .one .d)]
theorem s_OpOk_st : compF Try.prog 137 = some (s_OpOk_c.er, s_OpOk_rs.map Prod.fst, 54) := by kernel_rfl
def s_OpOk_Q (K : TRes → Prop) : TPost := TQ 0 0 s_OpOk_rs K
def s_OpOk_q1 (K : TRes → Prop) : TPost := Qseq (tawp s_OpOk_G 0 s_OpOk_y1 (s_OpOk_Q K)) (s_OpOk_Q K)
def s_OpOk_q2 (K : TRes → Prop) : TPost := Qblk 0 (s_OpOk_q1 K)
def s_OpOk_A2 (K : TRes → Prop) (o : TOp') (i : Int) : Prop := Loop s_OpOk_G 0 s_OpOk_L2 s_OpOk_b2 (s_OpOk_q2 K) ⟨[(1, (.p 0 0 0)), (3, (.c TI i))], [(0, (.box [(.c TI o.1), (.c TI o.2.1), (.c TI o.2.2.1), (.c (.sl [TI]) o.2.2.2)]))], 1⟩
theorem s_OpOk_v2 (K : TRes → Prop) (o : TOp') (i : Int) (h :
  (((decide (i < ((o.2.2.2).length : Int))) = true → (((0 : Int) ≤ i ∧ Int.toNat i < (o.2.2.2).length) ∧ (((!(m_fixOk (gtd (0 : Int) o.2.2.2 (Int.toNat i)))) = true → K (s_OpOk_R false)) ∧ ((!(m_fixOk (gtd (0 : Int) o.2.2.2 (Int.toNat i)))) = false → (s_OpOk_A2 K o (w64 (i + (1 : Int)))))))) ∧ ((decide (i < ((o.2.2.2).length : Int))) = false → K (s_OpOk_R true)))) : s_OpOk_A2 K o i :=
  Loop.of (by kernel_rfl) h
theorem s_OpOk_v0 (K : TRes → Prop) (o : TOp') (h :
  (((((((!(m_in o.1 (1 : Int) (5 : Int))) || (!(m_in o.2.1 (1 : Int) (6 : Int)))) || (!(m_in o.2.2.1 (1 : Int) (6 : Int)))) || ((o.1 != (1 : Int)) && (o.2.1 != o.2.2.1))) || (((o.2.2.2).length : Int) != (m_opSize o))) = true → K (s_OpOk_R false)) ∧ ((((((!(m_in o.1 (1 : Int) (5 : Int))) || (!(m_in o.2.1 (1 : Int) (6 : Int)))) || (!(m_in o.2.2.1 (1 : Int) (6 : Int)))) || ((o.1 != (1 : Int)) && (o.2.1 != o.2.2.1))) || (((o.2.2.2).length : Int) != (m_opSize o))) = false → (s_OpOk_A2 K o (0 : Int))))) : Hold (tawp s_OpOk_G (0 + 0) s_OpOk_c (TQ 0 0 s_OpOk_rs K) (tstart [(.a (Tup.cells ctOp o))])) :=
  Hold.of (by kernel_rfl) h
theorem s_OpOk_t (o : TOp') (r : TRes) (h : Hold (tawp s_OpOk_G (0 + 0) s_OpOk_c (TQ 0 0 s_OpOk_rs fun r' => r' = r) (tstart [(.a (Tup.cells ctOp o))]))) : TCon Try.prog 137 [(.a (Tup.cells ctOp o))] r :=
  tcon_gen (sg := [(.a ctOp)]) mixed (TOk.cons s_l1In_ok (TOk.cons s_OpSize_ok (TOk.cons s_FixOk_ok TOk.nil))) s_OpOk_st (by kernel_rfl) (by kernel_rfl) (by kernel_rfl) (by kernel_rfl) h
theorem s_OpOk_h : s_OpOk_C := by
  intro o
  refine tcon_bd rfl fun hb => s_OpOk_t o _ (s_OpOk_v0 _ o ?_)
  have hl_o_3 : (o.2.2.2).length ≤ 9223372036854775807 := hb.1.2.2.2.1.1
  refine ⟨fun h => R_eq (by grind [m_opOk]), fun h => ?_⟩
  exact allLoop (Q := fun x => s_OpOk_R x = s_OpOk_R (m_opOk o)) (p := m_fixOk) (c := fun x => !(m_fixOk x)) 0 hl_o_3 (fun _ => rfl) (fun i h => s_OpOk_v2 (fun r' => r' = s_OpOk_R (m_opOk o)) o i h) (R_eq (by grind [m_opOk, m_allFix]))

theorem s_OpOk_ok : TRowOk Try.prog s_OpOk_row := rowOk fun x _ => s_OpOk_h x.1

def i_OpOk_R (t : Bool) : TRes := ⟨(.c .bool t), [], [], false, []⟩
def i_OpOk_row : TRow := mkRow 134 [(.a ctOp)] fun x => (none, i_OpOk_R (m_opOk x.1))
def i_OpOk_C : Prop := ∀ (x0 : TOp'), TCon Try.prog 134 [(.a (Tup.cells ctOp x0))] (i_OpOk_R (m_opOk x0))

/-! impl.OpOk -/
def i_OpOk_G : List TRow := [i_OpSize_row, i_allFix_row]
def i_OpOk_c : TCode :=
  (.seq (.reg [.op (some 1) (.box 76 (.s 0) 4),
    .op (some 2) (.mov (.k (.c .bool false)))])
 (.seq (.seq (.reg [.op (some 3) (.fad (.s 1) 0),
      .op (some 4) (.load (.s 3) 1 false),
      .op (some 5) (.bin .lss (.s 4) (.k (.c TI (1 : Int)))),
      .op (some 6) (.mov (.s 5)),
      .grp 6 false [.op (some 7) (.fad (.s 1) 0), .op (some 8) (.load (.s 7) 1 false), .op (some 9) (.bin .gtr (.s 8) (.k (.c TI (5 : Int))))] 10 (.s 9),
      .op (some 11) (.mov (.s 10)),
      .grp 11 false [.op (some 12) (.fad (.s 1) 1), .op (some 13) (.load (.s 12) 1 false), .op (some 14) (.bin .lss (.s 13) (.k (.c TI (1 : Int))))] 15 (.s 14),
      .op (some 16) (.mov (.s 15)),
      .grp 16 false [.op (some 17) (.fad (.s 1) 1), .op (some 18) (.load (.s 17) 1 false), .op (some 19) (.bin .gtr (.s 18) (.k (.c TI (6 : Int))))] 20 (.s 19),
      .op (some 21) (.mov (.s 20)),
      .grp 21 false [.op (some 22) (.fad (.s 1) 2), .op (some 23) (.load (.s 22) 1 false), .op (some 24) (.bin .lss (.s 23) (.k (.c TI (1 : Int))))] 25 (.s 24),
      .op (some 26) (.mov (.s 25)),
      .grp 26 false [.op (some 27) (.fad (.s 1) 2), .op (some 28) (.load (.s 27) 1 false), .op (some 29) (.bin .gtr (.s 28) (.k (.c TI (6 : Int))))] 30 (.s 29)])
   (.cond (.s 30) (.seq (.reg [.op (some 2) (.mov (.k (.c .bool false)))])
     .ret) .skip))
  (.seq (.seq (.reg [.op (some 31) (.fad (.s 1) 0),
       .op (some 32) (.load (.s 31) 1 false),
       .op (some 33) (.bin .neq (.s 32) (.k (.c TI (1 : Int)))),
       .op (some 34) (.mov (.s 33)),
       .grp 34 true [.op (some 35) (.fad (.s 1) 1), .op (some 36) (.load (.s 35) 1 false), .op (some 37) (.fad (.s 1) 2), .op (some 38) (.load (.s 37) 1 false), .op (some 39) (.bin .neq (.s 36) (.s 38))] 40 (.s 39)])
    (.cond (.s 40) (.seq (.reg [.op (some 2) (.mov (.k (.c .bool false)))])
      .ret) .skip))
   (.seq (.draw [.op (some 41) (.fad (.s 1) 3),
       .op (some 42) (.load (.s 41) 1 false),
       .op (some 43) (.len (.s 42)),
       .op (some 44) (.load (.s 1) 4 true),
       .op (some 45) (.call 189 [(.s 44)]),
       .op (some 46) (.bin .eql (.s 43) (.s 45)),
       .op (some 47) (.mov (.s 46)),
       .grp 47 true [.op (some 48) (.fad (.s 1) 3), .op (some 49) (.load (.s 48) 1 false), .op (some 50) (.call 190 [(.s 49)])] 51 (.s 50),
       .op (some 2) (.mov (.s 51))] [(0, 4), (1, 4), (2, 4)])
    .ret))))
def i_OpOk_rs : List (ARv × Md) := [(.t 2, .one .d)]
theorem i_OpOk_st : compF Try.prog 134 = some (i_OpOk_c.er, i_OpOk_rs.map Prod.fst, 52) := by kernel_rfl
def i_OpOk_Q (K : TRes → Prop) : TPost := TQ 0 0 i_OpOk_rs K
theorem i_OpOk_v0 (K : TRes → Prop) (o : TOp') (h :
  ((((((((decide (o.1 < (1 : Int))) || (decide (o.1 > (5 : Int)))) || (decide (o.2.1 < (1 : Int)))) || (decide (o.2.1 > (6 : Int)))) || (decide (o.2.2.1 < (1 : Int)))) || (decide (o.2.2.1 > (6 : Int)))) = true → K (i_OpOk_R false)) ∧ (((((((decide (o.1 < (1 : Int))) || (decide (o.1 > (5 : Int)))) || (decide (o.2.1 < (1 : Int)))) || (decide (o.2.1 > (6 : Int)))) || (decide (o.2.2.1 < (1 : Int)))) || (decide (o.2.2.1 > (6 : Int)))) = false → ((((o.1 != (1 : Int)) && (o.2.1 != o.2.2.1)) = true → K (i_OpOk_R false)) ∧ (((o.1 != (1 : Int)) && (o.2.1 != o.2.2.1)) = false → K (i_OpOk_R ((((o.2.2.2).length : Int) == (m_opSize o)) && (m_allFix o.2.2.2)))))))) : Hold (tawp i_OpOk_G (0 + 0) i_OpOk_c (TQ 0 0 i_OpOk_rs K) (tstart [(.a (Tup.cells ctOp o))])) :=
  Hold.of (by kernel_rfl) h
theorem i_OpOk_t (o : TOp') (r : TRes) (h : Hold (tawp i_OpOk_G (0 + 0) i_OpOk_c (TQ 0 0 i_OpOk_rs fun r' => r' = r) (tstart [(.a (Tup.cells ctOp o))]))) : TCon Try.prog 134 [(.a (Tup.cells ctOp o))] r :=
  tcon_gen (sg := [(.a ctOp)]) mixed (TOk.cons i_OpSize_ok (TOk.cons i_allFix_ok TOk.nil)) i_OpOk_st (by kernel_rfl) (by kernel_rfl) (by kernel_rfl) (by kernel_rfl) h
theorem i_OpOk_h : i_OpOk_C := by
  intro o
  refine tcon_bd rfl fun hb => i_OpOk_t o _ (i_OpOk_v0 _ o ?_)
  have hl_o_3 : (o.2.2.2).length ≤ 9223372036854775807 := hb.1.2.2.2.1.1
  grind [m_opOk, m_in]

theorem i_OpOk_ok : TRowOk Try.prog i_OpOk_row := rowOk fun x _ => i_OpOk_h x.1

def s_OpCost_R (t : Int) : TRes := ⟨(.c TI t), [], [], false, []⟩
def s_OpCost_row : TRow := mkRow 192 [(.a ctOp)] fun x => (none, s_OpCost_R (m_opCost x.1))
def s_OpCost_C : Prop := ∀ (x0 : TOp'), TCon Try.prog 192 [(.a (Tup.cells ctOp x0))] (s_OpCost_R (m_opCost x0))

/-! spec.OpCost -/
def s_OpCost_G : List TRow := [s_OpOk_row]
def s_OpCost_y2 : TCode :=
  (.cond (.s 8) (.seq (.reg [.op (some 11) (.fad (.s 1) 1),
     .op (some 12) (.load (.s 11) 1 false),
     .op (some 13) (.fad (.s 1) 2),
     .op (some 14) (.load (.s 13) 1 false),
     .op (some 15) (.bin .mul (.s 12) (.s 14)),
     .op (some 2) (.mov (.s 15))])
  .ret) (.seq (.reg [.op (some 17) (.bin .eql (.s 7) (.k (.c TI (4 : Int)))),
     .op (some 16) (.mov (.s 17))])
  (.cond (.s 16) (.seq (.reg [.op (some 18) (.fad (.s 1) 1),
       .op (some 19) (.load (.s 18) 1 false),
       .op (some 2) (.mov (.s 19))])
    .ret) .skip)))
def s_OpCost_L2 : List (Nat × Md) := [(1, .b [.d, .d, .d, .d]), (7, .one .d), (8, .one .d)]
def s_OpCost_y2w : TCode := .wk s_OpCost_L2 s_OpCost_y2
def s_OpCost_y1 : TCode :=
  (.seq (.reg [.op (some 2) (.mov (.k (.c TI (0 : Int))))])
 .ret)
def s_OpCost_c : TCode :=
  (.seq (.reg [.op (some 1) (.box 76 (.s 0) 4),
    .op (some 2) (.mov (.k (.c TI (0 : Int))))])
 (.seq (.seq (.reg [.op (some 3) (.load (.s 1) 4 true),
      .op (some 4) (.call 137 [(.s 3)]),
      .op (some 5) (.not (.s 4))])
   (.cond (.s 5) (.seq (.reg [.op (some 2) (.mov (.k (.c TI (0 : Int))))])
     .ret) .skip))
  (.seq (.seq (.reg [.op (some 6) (.fad (.s 1) 0),
       .op (some 7) (.load (.s 6) 1 false)])
    (.block 0 (.seq (.seq (.reg [.op (some 9) (.bin .eql (.s 7) (.k (.c TI (1 : Int)))),
          .op (some 8) (.mov (.s 9))])
       (.cond (.s 8) .skip (.reg [.op (some 10) (.bin .eql (.s 7) (.k (.c TI (5 : Int)))),
           .op (some 8) (.mov (.s 10))])))
      s_OpCost_y2w)))
   s_OpCost_y1)))
def s_OpCost_rs : List (ARv × Md) := [(.t 2, .one .d)]
theorem s_OpCost_st : compF Try.prog 192 = some (s_OpCost_c.er, s_OpCost_rs.map Prod.fst, 20) := by kernel_rfl
def s_OpCost_Q (K : TRes → Prop) : TPost := TQ 0 0 s_OpCost_rs K
def s_OpCost_q1 (K : TRes → Prop) : TPost := Qseq (tawp s_OpCost_G 0 s_OpCost_y1 (s_OpCost_Q K)) (s_OpCost_Q K)
def s_OpCost_q2 (K : TRes → Prop) : TPost := Qblk 0 (s_OpCost_q1 K)
def s_OpCost_A2 (K : TRes → Prop) (o : TOp') (x : Bool) : Prop := tawp s_OpCost_G 0 s_OpCost_y2 (s_OpCost_q2 K) ⟨[(1, (.p 0 0 0)), (7, (.c TI o.1)), (8, (.c .bool x))], [(0, (.box [(.c TI o.1), (.c TI o.2.1), (.c TI o.2.2.1), (.c (.sl [TI]) o.2.2.2)]))], 1⟩
theorem s_OpCost_v2 (K : TRes → Prop) (o : TOp') (x : Bool) (h :
  ((x = true → K (s_OpCost_R (w64 (o.2.1 * o.2.2.1)))) ∧ (x = false → (((o.1 == (4 : Int)) = true → K (s_OpCost_R o.2.1)) ∧ ((o.1 == (4 : Int)) = false → K (s_OpCost_R (0 : Int))))))) : Hold (s_OpCost_A2 K o x) :=
  Hold.of (by kernel_rfl) h
theorem s_OpCost_v0 (K : TRes → Prop) (o : TOp') (h :
  (((!(m_opOk o)) = true → K (s_OpCost_R (0 : Int))) ∧ ((!(m_opOk o)) = false → (((o.1 == (1 : Int)) = true → (s_OpCost_A2 K o (o.1 == (1 : Int)))) ∧ ((o.1 == (1 : Int)) = false → (s_OpCost_A2 K o (o.1 == (5 : Int)))))))) : Hold (tawp s_OpCost_G (0 + 0) s_OpCost_c (TQ 0 0 s_OpCost_rs K) (tstart [(.a (Tup.cells ctOp o))])) :=
  Hold.of (by kernel_rfl) h
theorem s_OpCost_t (o : TOp') (r : TRes) (h : Hold (tawp s_OpCost_G (0 + 0) s_OpCost_c (TQ 0 0 s_OpCost_rs fun r' => r' = r) (tstart [(.a (Tup.cells ctOp o))]))) : TCon Try.prog 192 [(.a (Tup.cells ctOp o))] r :=
  tcon_gen (sg := [(.a ctOp)]) mixed (TOk.cons s_OpOk_ok TOk.nil) s_OpCost_st (by kernel_rfl) (by kernel_rfl) (by kernel_rfl) (by kernel_rfl) h
theorem s_OpCost_h : s_OpCost_C := by
  intro o
  refine tcon_bd rfl fun hb => s_OpCost_t o _ (s_OpCost_v0 _ o ?_)
  have hl_o_3 : (o.2.2.2).length ≤ 9223372036854775807 := hb.1.2.2.2.1.1
  refine ⟨fun h => R_eq (by grind [m_opCost]), fun h => ?_⟩
  have hw := opCost_w o (by simpa using h)
  refine ⟨fun h1 => (s_OpCost_v2 (fun r' => r' = s_OpCost_R (m_opCost o)) o _ ?_).h, fun h1 => (s_OpCost_v2 (fun r' => r' = s_OpCost_R (m_opCost o)) o _ ?_).h⟩ <;> grind [m_opCost]

theorem s_OpCost_ok : TRowOk Try.prog s_OpCost_row := rowOk fun x _ => s_OpCost_h x.1

def i_OpCost_R (t : Int) : TRes := ⟨(.c TI t), [], [], false, []⟩
def i_OpCost_row : TRow := mkRow 52 [(.a ctOp)] fun x => (none, i_OpCost_R (m_opCost x.1))
def i_OpCost_C : Prop := ∀ (x0 : TOp'), TCon Try.prog 52 [(.a (Tup.cells ctOp x0))] (i_OpCost_R (m_opCost x0))

/-! impl.OpCost -/
def i_OpCost_G : List TRow := [i_OpOk_row]
def i_OpCost_y2 : TCode :=
  (.cond (.s 8) (.seq (.reg [.op (some 11) (.fad (.s 1) 1),
     .op (some 12) (.load (.s 11) 1 false),
     .op (some 13) (.fad (.s 1) 2),
     .op (some 14) (.load (.s 13) 1 false),
     .op (some 15) (.bin .mul (.s 12) (.s 14)),
     .op (some 2) (.mov (.s 15))])
  .ret) (.seq (.reg [.op (some 17) (.bin .eql (.s 7) (.k (.c TI (4 : Int)))),
     .op (some 16) (.mov (.s 17))])
  (.cond (.s 16) (.seq (.reg [.op (some 18) (.fad (.s 1) 1),
       .op (some 19) (.load (.s 18) 1 false),
       .op (some 2) (.mov (.s 19))])
    .ret) .skip)))
def i_OpCost_L2 : List (Nat × Md) := [(1, .b [.d, .d, .d, .d]), (7, .one .d), (8, .one .d)]
def i_OpCost_y2w : TCode := .wk i_OpCost_L2 i_OpCost_y2
def i_OpCost_y1 : TCode :=
  (.seq (.reg [.op (some 2) (.mov (.k (.c TI (0 : Int))))])
 .ret)
def i_OpCost_c : TCode :=
  (.seq (.reg [.op (some 1) (.box 76 (.s 0) 4),
    .op (some 2) (.mov (.k (.c TI (0 : Int))))])
 (.seq (.seq (.reg [.op (some 3) (.load (.s 1) 4 true),
      .op (some 4) (.call 134 [(.s 3)]),
      .op (some 5) (.not (.s 4))])
   (.cond (.s 5) (.seq (.reg [.op (some 2) (.mov (.k (.c TI (0 : Int))))])
     .ret) .skip))
  (.seq (.seq (.reg [.op (some 6) (.fad (.s 1) 0),
       .op (some 7) (.load (.s 6) 1 false)])
    (.block 0 (.seq (.seq (.reg [.op (some 9) (.bin .eql (.s 7) (.k (.c TI (1 : Int)))),
          .op (some 8) (.mov (.s 9))])
       (.cond (.s 8) .skip (.reg [.op (some 10) (.bin .eql (.s 7) (.k (.c TI (5 : Int)))),
           .op (some 8) (.mov (.s 10))])))
      i_OpCost_y2w)))
   i_OpCost_y1)))
def i_OpCost_rs : List (ARv × Md) := [(.t 2, .one .d)]
theorem i_OpCost_st : compF Try.prog 52 = some (i_OpCost_c.er, i_OpCost_rs.map Prod.fst, 20) := by kernel_rfl
def i_OpCost_Q (K : TRes → Prop) : TPost := TQ 0 0 i_OpCost_rs K
def i_OpCost_q1 (K : TRes → Prop) : TPost := Qseq (tawp i_OpCost_G 0 i_OpCost_y1 (i_OpCost_Q K)) (i_OpCost_Q K)
def i_OpCost_q2 (K : TRes → Prop) : TPost := Qblk 0 (i_OpCost_q1 K)
def i_OpCost_A2 (K : TRes → Prop) (o : TOp') (x : Bool) : Prop := tawp i_OpCost_G 0 i_OpCost_y2 (i_OpCost_q2 K) ⟨[(1, (.p 0 0 0)), (7, (.c TI o.1)), (8, (.c .bool x))], [(0, (.box [(.c TI o.1), (.c TI o.2.1), (.c TI o.2.2.1), (.c (.sl [TI]) o.2.2.2)]))], 1⟩
theorem i_OpCost_v2 (K : TRes → Prop) (o : TOp') (x : Bool) (h :
  ((x = true → K (i_OpCost_R (w64 (o.2.1 * o.2.2.1)))) ∧ (x = false → (((o.1 == (4 : Int)) = true → K (i_OpCost_R o.2.1)) ∧ ((o.1 == (4 : Int)) = false → K (i_OpCost_R (0 : Int))))))) : Hold (i_OpCost_A2 K o x) :=
  Hold.of (by kernel_rfl) h
theorem i_OpCost_v0 (K : TRes → Prop) (o : TOp') (h :
  (((!(m_opOk o)) = true → K (i_OpCost_R (0 : Int))) ∧ ((!(m_opOk o)) = false → (((o.1 == (1 : Int)) = true → (i_OpCost_A2 K o (o.1 == (1 : Int)))) ∧ ((o.1 == (1 : Int)) = false → (i_OpCost_A2 K o (o.1 == (5 : Int)))))))) : Hold (tawp i_OpCost_G (0 + 0) i_OpCost_c (TQ 0 0 i_OpCost_rs K) (tstart [(.a (Tup.cells ctOp o))])) :=
  Hold.of (by kernel_rfl) h
theorem i_OpCost_t (o : TOp') (r : TRes) (h : Hold (tawp i_OpCost_G (0 + 0) i_OpCost_c (TQ 0 0 i_OpCost_rs fun r' => r' = r) (tstart [(.a (Tup.cells ctOp o))]))) : TCon Try.prog 52 [(.a (Tup.cells ctOp o))] r :=
  tcon_gen (sg := [(.a ctOp)]) mixed (TOk.cons i_OpOk_ok TOk.nil) i_OpCost_st (by kernel_rfl) (by kernel_rfl) (by kernel_rfl) (by kernel_rfl) h
theorem i_OpCost_h : i_OpCost_C := by
  intro o
  refine tcon_bd rfl fun hb => i_OpCost_t o _ (i_OpCost_v0 _ o ?_)
  have hl_o_3 : (o.2.2.2).length ≤ 9223372036854775807 := hb.1.2.2.2.1.1
  refine ⟨fun h => R_eq (by grind [m_opCost]), fun h => ?_⟩
  have hw := opCost_w o (by simpa using h)
  refine ⟨fun h1 => (i_OpCost_v2 (fun r' => r' = i_OpCost_R (m_opCost o)) o _ ?_).h, fun h1 => (i_OpCost_v2 (fun r' => r' = i_OpCost_R (m_opCost o)) o _ ?_).h⟩ <;> grind [m_opCost]

theorem i_OpCost_ok : TRowOk Try.prog i_OpCost_row := rowOk fun x _ => i_OpCost_h x.1

def s_ModelOk_R (t : Bool) : TRes := ⟨(.c .bool t), [], [], false, []⟩
def s_ModelOk_row : TRow := mkRow 60 [(.a [(.sl ctOp)])] fun x => (none, s_ModelOk_R (m_modelOk x.1))
def s_ModelOk_C : Prop := ∀ (x0 : List TOp'), TCon Try.prog 60 [(.a [(.c (.sl ctOp) x0)])] (s_ModelOk_R (m_modelOk x0))

/-! spec.ModelOk -/
def s_ModelOk_G : List TRow := [s_OpOk_row, s_l1In_row]
def s_ModelOk_b2 : TCode :=
  (.seq (.seq (.reg [.op (some 4) (.mov (.s 3)),
     .op (some 5) (.fad (.s 1) 0),
     .op (some 6) (.load (.s 5) 1 false),
     .op (some 7) (.len (.s 6)),
     .op (some 8) (.bin .lss (.s 4) (.s 7))])
  (.cond (.s 8) .skip (.exit 0)))
 (.seq (.block 1 (.seq (.draw [.op (some 11) (.fad (.s 1) 0),
       .op (some 12) (.load (.s 11) 1 false),
       .op (some 13) (.mov (.s 3)),
       .op (some 14) (.iad (.s 12) (.s 13) ctOp),
       .op (some 15) (.load (.s 14) 4 true),
       .op (some 16) (.call 137 [(.s 15)]),
       .op (some 17) (.not (.s 16)),
       .op (some 18) (.mov (.s 17)),
       .grp 18 false [.op (some 19) (.mov (.s 3)), .op (some 20) (.bin .gtr (.s 19) (.k (.c TI (0 : Int)))), .op (some 21) (.mov (.s 20)), .grp 21 true [.op (some 22) (.fad (.s 1) 0), .op (some 23) (.load (.s 22) 1 false), .op (some 24) (.mov (.s 3)), .op (some 25) (.iad (.s 23) (.s 24) ctOp), .op (some 26) (.fad (.s 25) 1), .op (some 27) (.load (.s 26) 1 false), .op (some 28) (.fad (.s 1) 0), .op (some 29) (.load (.s 28) 1 false), .op (some 30) (.mov (.s 3)), .op (some 31) (.bin .sub (.s 30) (.k (.c TI (1 : Int)))), .op (some 32) (.iad (.s 29) (.s 31) ctOp), .op (some 33) (.fad (.s 32) 2), .op (some 34) (.load (.s 33) 1 false), .op (some 35) (.bin .neq (.s 27) (.s 34))] 36 (.s 35)] 37 (.s 36)] [])
    (.cond (.s 37) (.seq (.reg [.op (some 2) (.mov (.k (.c .bool false)))])
      .ret) .skip)))
  (.reg [.op (some 9) (.mov (.s 3)),
     .op (some 10) (.bin .add (.s 9) (.k (.c TI (1 : Int)))),
     .op (some 3) (.mov (.s 10))])))
def s_ModelOk_L2 : List (Nat × Md) := [(1, .b [.d]), (3, .one .d)]
def s_ModelOk_y1 : TCode :=
  (.seq (.reg [.op (some 38) (.fad (.s 1) 0),
    .op (some 39) (.load (.s 38) 1 false),
    .op (some 40) (.len (.s 39)),
    .op (some 41) (.call 102 [(.s 40), (.k (.c TI (1 : Int))), (.k (.c TI (8 : Int)))]),
    .op (some 2) (.mov (.s 41))])
 .ret)
def s_ModelOk_c : TCode :=
  (.seq (.reg [.op (some 1) (.box 66 (.s 0) 1),
    .op (some 2) (.mov (.k (.c .bool false)))])
 (.seq (.seq (.reg [.op (some 3) (.mov (.k (.c TI (0 : Int))))])
   (.block 0 (.loop s_ModelOk_L2 s_ModelOk_b2)))
  s_ModelOk_y1))
def s_ModelOk_rs : List (ARv × Md) := [(.t 2, .one .d)]
theorem s_ModelOk_st : compF Try.prog 60 = some (s_ModelOk_c.er, s_ModelOk_rs.map Prod.fst, 42) := by kernel_rfl
def s_ModelOk_Q (K : TRes → Prop) : TPost := TQ 0 0 s_ModelOk_rs K
def s_ModelOk_q1 (K : TRes → Prop) : TPost := Qseq (tawp s_ModelOk_G 0 s_ModelOk_y1 (s_ModelOk_Q K)) (s_ModelOk_Q K)
def s_ModelOk_q2 (K : TRes → Prop) : TPost := Qblk 0 (s_ModelOk_q1 K)
def s_ModelOk_A2 (K : TRes → Prop) (m : List TOp') (i : Int) : Prop := Loop s_ModelOk_G 0 s_ModelOk_L2 s_ModelOk_b2 (s_ModelOk_q2 K) ⟨[(1, (.p 0 0 0)), (3, (.c TI i))], [(0, (.box [(.c (.sl ctOp) m)]))], 1⟩
theorem s_ModelOk_v2 (K : TRes → Prop) (m : List TOp') (i : Int) (h :
  (((decide (i < (m.length : Int))) = true → ((((0 : Int) ≤ i ∧ Int.toNat i < m.length) ∧ ((!(!(m_opOk (gtd dOp m (Int.toNat i))))) = true → ((decide (i > (0 : Int))) = true → (((0 : Int) ≤ i ∧ Int.toNat i < m.length) ∧ ((0 : Int) ≤ w64 (i - (1 : Int)) ∧ Int.toNat (w64 (i - (1 : Int))) < m.length))))) ∧ ((((!(m_opOk (gtd dOp m (Int.toNat i)))) || ((decide (i > (0 : Int))) && (((gtd dOp m (Int.toNat i)).2.1) != ((gtd dOp m (Int.toNat (w64 (i - (1 : Int))))).2.2.1)))) = true → K (s_ModelOk_R false)) ∧ (((!(m_opOk (gtd dOp m (Int.toNat i)))) || ((decide (i > (0 : Int))) && (((gtd dOp m (Int.toNat i)).2.1) != ((gtd dOp m (Int.toNat (w64 (i - (1 : Int))))).2.2.1)))) = false → (s_ModelOk_A2 K m (w64 (i + (1 : Int)))))))) ∧ ((decide (i < (m.length : Int))) = false → K (s_ModelOk_R (m_in (m.length : Int) (1 : Int) (8 : Int)))))) : s_ModelOk_A2 K m i :=
  Loop.of (by kernel_rfl) h
theorem s_ModelOk_v0 (K : TRes → Prop) (m : List TOp') (h :
  (s_ModelOk_A2 K m (0 : Int))) : Hold (tawp s_ModelOk_G (0 + 0) s_ModelOk_c (TQ 0 0 s_ModelOk_rs K) (tstart [(.a [(.c (.sl ctOp) m)])])) :=
  Hold.of (by kernel_rfl) h
theorem s_ModelOk_t (m : List TOp') (r : TRes) (h : Hold (tawp s_ModelOk_G (0 + 0) s_ModelOk_c (TQ 0 0 s_ModelOk_rs fun r' => r' = r) (tstart [(.a [(.c (.sl ctOp) m)])]))) : TCon Try.prog 60 [(.a [(.c (.sl ctOp) m)])] r :=
  tcon_gen (sg := [(.a [(.sl ctOp)])]) mixed (TOk.cons s_OpOk_ok (TOk.cons s_l1In_ok TOk.nil)) s_ModelOk_st (by kernel_rfl) (by kernel_rfl) (by kernel_rfl) (by kernel_rfl) h
theorem s_ModelOk_h : s_ModelOk_C := by
  intro m
  refine tcon_bd rfl fun hb => s_ModelOk_t m _ (s_ModelOk_v0 _ m ?_)
  have hl_m_0 : (m).length ≤ 9223372036854775807 := hb.1.1.1
  refine listLoop m (fun r k => chainGo (prevOf m k) r = chainGo none m → s_ModelOk_A2 (fun r' => r' = s_ModelOk_R (m_modelOk m)) m k) ?_ ?_ rfl
  · intro he
    refine s_ModelOk_v2 (fun r' => r' = s_ModelOk_R (m_modelOk m)) m _ ⟨fun h => by simp at h, fun _ => ?_⟩
    grind [chainGo, m_modelOk]
  · intro k x r hk hlt hg ih he
    refine s_ModelOk_v2 (fun r' => r' = s_ModelOk_R (m_modelOk m)) m _ ⟨fun _ => ?_, fun h => by simp at h; omega⟩
    rw [Int.toNat_natCast, hg, w64_ok (x := (k : Int) + 1) (by omega) (by omega)]
    have ep : prevOf m (k + 1) = some x.2.2.1 := by simp [prevOf, hg]
    rw [ep] at ih
    rcases Nat.eq_zero_or_pos k with h0 | h0
    · subst h0
      simp only [chainGo, prevOf, if_true] at he
      grind [m_modelOk]
    · have e2 := tn_sub1 h0 (by omega : k ≤ 9223372036854775807)
      simp only [chainGo, prevOf, if_neg (Nat.ne_of_gt h0)] at he
      grind [m_modelOk]

theorem s_ModelOk_ok : TRowOk Try.prog s_ModelOk_row := rowOk fun x _ => s_ModelOk_h x.1

def i_ModelOk_R (t : Bool) : TRes := ⟨(.c .bool t), [], [], false, []⟩
def i_ModelOk_row : TRow := mkRow 133 [(.a [(.sl ctOp)])] fun x => (none, i_ModelOk_R (m_modelOk x.1))
def i_ModelOk_C : Prop := ∀ (x0 : List TOp'), TCon Try.prog 133 [(.a [(.c (.sl ctOp) x0)])] (i_ModelOk_R (m_modelOk x0))

/-! impl.ModelOk -/
def i_ModelOk_G : List TRow := [i_OpOk_row]
def i_ModelOk_b2 : TCode :=
  (.seq (.reg [.op (some 19) (.bin .lss (.s 18) (.s 17))])
 (.seq (.cond (.s 19) .skip (.exit 0))
  (.seq (.block 1 (.seq (.reg [.op (some 20) (.mov (.s 18)),
        .op (some 21) (.iad (.s 16) (.s 18) ctOp),
        .op (some 22) (.load (.s 21) 4 true),
        .op (some 4) (.new 76 [(.c TI (0 : Int)), (.c TI (0 : Int)), (.c TI (0 : Int)), (.n [TI])]),
        .op (some 3) (.mov (.s 20)),
        .op none (.store (.s 4) (.s 22) 4)])
     (.seq (.draw [.op (some 23) (.load (.s 4) 4 true),
         .op (some 24) (.call 134 [(.s 23)]),
         .op (some 25) (.not (.s 24)),
         .op (some 26) (.mov (.s 25)),
         .grp 26 false [.op (some 27) (.mov (.s 3)), .op (some 28) (.bin .gtr (.s 27) (.k (.c TI (0 : Int)))), .op (some 29) (.mov (.s 28)), .grp 29 true [.op (some 30) (.fad (.s 1) 0), .op (some 31) (.load (.s 30) 1 false), .op (some 32) (.mov (.s 3)), .op (some 33) (.bin .sub (.s 32) (.k (.c TI (1 : Int)))), .op (some 34) (.iad (.s 31) (.s 33) ctOp), .op (some 35) (.fad (.s 34) 2), .op (some 36) (.load (.s 35) 1 false), .op (some 37) (.fad (.s 4) 1), .op (some 38) (.load (.s 37) 1 false), .op (some 39) (.bin .neq (.s 36) (.s 38))] 40 (.s 39)] 41 (.s 40)] [])
      (.cond (.s 41) (.seq (.reg [.op (some 2) (.mov (.k (.c .bool false)))])
        .ret) .skip))))
   (.reg [.op (some 42) (.bin .add (.s 18) (.k (.c TI (1 : Int)))),
      .op (some 18) (.mov (.s 42))]))))
def i_ModelOk_L2 : List (Nat × Md) := [(1, .b [.d]), (16, .one .d), (17, .one .d), (18, .one .d)]
def i_ModelOk_y1 : TCode :=
  (.seq (.reg [.op (some 2) (.mov (.k (.c .bool true)))])
 .ret)
def i_ModelOk_c : TCode :=
  (.seq (.reg [.op (some 1) (.box 66 (.s 0) 1),
    .op (some 2) (.mov (.k (.c .bool false)))])
 (.seq (.seq (.reg [.op (some 5) (.fad (.s 1) 0),
      .op (some 6) (.load (.s 5) 1 false),
      .op (some 7) (.len (.s 6)),
      .op (some 8) (.bin .lss (.s 7) (.k (.c TI (1 : Int)))),
      .op (some 9) (.mov (.s 8)),
      .grp 9 false [.op (some 10) (.fad (.s 1) 0), .op (some 11) (.load (.s 10) 1 false), .op (some 12) (.len (.s 11)), .op (some 13) (.bin .gtr (.s 12) (.k (.c TI (8 : Int))))] 14 (.s 13)])
   (.cond (.s 14) (.seq (.reg [.op (some 2) (.mov (.k (.c .bool false)))])
     .ret) .skip))
  (.seq (.seq (.reg [.op (some 15) (.fad (.s 1) 0),
       .op (some 16) (.load (.s 15) 1 false),
       .op (some 17) (.len (.s 16)),
       .op (some 18) (.mov (.k (.c TI (0 : Int))))])
    (.block 0 (.loop i_ModelOk_L2 i_ModelOk_b2)))
   i_ModelOk_y1)))
def i_ModelOk_rs : List (ARv × Md) := [(.t 2, .one .d)]
theorem i_ModelOk_st : compF Try.prog 133 = some (i_ModelOk_c.er, i_ModelOk_rs.map Prod.fst, 43) := by kernel_rfl
def i_ModelOk_Q (K : TRes → Prop) : TPost := TQ 0 0 i_ModelOk_rs K
def i_ModelOk_q1 (K : TRes → Prop) : TPost := Qseq (tawp i_ModelOk_G 0 i_ModelOk_y1 (i_ModelOk_Q K)) (i_ModelOk_Q K)
def i_ModelOk_q2 (K : TRes → Prop) : TPost := Qblk 0 (i_ModelOk_q1 K)
def i_ModelOk_A2 (K : TRes → Prop) (m : List TOp') (x : Int) : Prop := Loop i_ModelOk_G 0 i_ModelOk_L2 i_ModelOk_b2 (i_ModelOk_q2 K) ⟨[(1, (.p 0 0 0)), (16, (.c (.sl ctOp) m)), (17, (.c TI (m.length : Int))), (18, (.c TI x))], [(0, (.box [(.c (.sl ctOp) m)]))], 1⟩
theorem i_ModelOk_v2 (K : TRes → Prop) (m : List TOp') (x : Int) (h :
  (((decide (x < (m.length : Int))) = true → (((0 : Int) ≤ x ∧ Int.toNat x < m.length) ∧ (((!(!(m_opOk (gtd dOp m (Int.toNat x))))) = true → ((decide (x > (0 : Int))) = true → ((0 : Int) ≤ w64 (x - (1 : Int)) ∧ Int.toNat (w64 (x - (1 : Int))) < m.length))) ∧ ((((!(m_opOk (gtd dOp m (Int.toNat x)))) || ((decide (x > (0 : Int))) && (((gtd dOp m (Int.toNat (w64 (x - (1 : Int))))).2.2.1) != ((gtd dOp m (Int.toNat x)).2.1)))) = true → K (i_ModelOk_R false)) ∧ (((!(m_opOk (gtd dOp m (Int.toNat x)))) || ((decide (x > (0 : Int))) && (((gtd dOp m (Int.toNat (w64 (x - (1 : Int))))).2.2.1) != ((gtd dOp m (Int.toNat x)).2.1)))) = false → (i_ModelOk_A2 K m (w64 (x + (1 : Int))))))))) ∧ ((decide (x < (m.length : Int))) = false → K (i_ModelOk_R true)))) : i_ModelOk_A2 K m x :=
  Loop.of (by kernel_rfl) h
theorem i_ModelOk_v0 (K : TRes → Prop) (m : List TOp') (h :
  ((((decide ((m.length : Int) < (1 : Int))) || (decide ((m.length : Int) > (8 : Int)))) = true → K (i_ModelOk_R false)) ∧ (((decide ((m.length : Int) < (1 : Int))) || (decide ((m.length : Int) > (8 : Int)))) = false → (i_ModelOk_A2 K m (0 : Int))))) : Hold (tawp i_ModelOk_G (0 + 0) i_ModelOk_c (TQ 0 0 i_ModelOk_rs K) (tstart [(.a [(.c (.sl ctOp) m)])])) :=
  Hold.of (by kernel_rfl) h
theorem i_ModelOk_t (m : List TOp') (r : TRes) (h : Hold (tawp i_ModelOk_G (0 + 0) i_ModelOk_c (TQ 0 0 i_ModelOk_rs fun r' => r' = r) (tstart [(.a [(.c (.sl ctOp) m)])]))) : TCon Try.prog 133 [(.a [(.c (.sl ctOp) m)])] r :=
  tcon_gen (sg := [(.a [(.sl ctOp)])]) mixed (TOk.cons i_OpOk_ok TOk.nil) i_ModelOk_st (by kernel_rfl) (by kernel_rfl) (by kernel_rfl) (by kernel_rfl) h
theorem i_ModelOk_h : i_ModelOk_C := by
  intro m
  refine tcon_bd rfl fun hb => i_ModelOk_t m _ (i_ModelOk_v0 _ m ?_)
  have hl_m_0 : (m).length ≤ 9223372036854775807 := hb.1.1.1
  refine ⟨fun h => R_eq (by grind [m_modelOk, m_in]), fun h => ?_⟩
  have hin : m_in m.length 1 8 = true := by grind [m_in]
  refine listLoop m (fun r k => chainGo (prevOf m k) r = chainGo none m → i_ModelOk_A2 (fun r' => r' = i_ModelOk_R (m_modelOk m)) m k) ?_ ?_ rfl
  · intro he
    refine i_ModelOk_v2 (fun r' => r' = i_ModelOk_R (m_modelOk m)) m _ ⟨fun h => by simp at h, fun _ => ?_⟩
    grind [chainGo, m_modelOk]
  · intro k x r hk hlt hg ih he
    refine i_ModelOk_v2 (fun r' => r' = i_ModelOk_R (m_modelOk m)) m _ ⟨fun _ => ?_, fun h => by simp at h; omega⟩
    rw [Int.toNat_natCast, hg, w64_ok (x := (k : Int) + 1) (by omega) (by omega)]
    have ep : prevOf m (k + 1) = some x.2.2.1 := by simp [prevOf, hg]
    rw [ep] at ih
    rcases Nat.eq_zero_or_pos k with h0 | h0
    · subst h0
      simp only [chainGo, prevOf, if_true] at he
      grind [m_modelOk]
    · have e2 := tn_sub1 h0 (by omega : k ≤ 9223372036854775807)
      simp only [chainGo, prevOf, if_neg (Nat.ne_of_gt h0)] at he
      grind [m_modelOk]

theorem i_ModelOk_ok : TRowOk Try.prog i_ModelOk_row := rowOk fun x _ => i_ModelOk_h x.1

def s_InOf_R (t : Int) : TRes := ⟨(.c TI t), [], [], false, []⟩
def s_InOf_row : TRow := mkRow 214 [(.a [(.sl ctOp)])] fun x => (none, s_InOf_R (m_inOf x.1))
def s_InOf_C : Prop := ∀ (x0 : List TOp'), TCon Try.prog 214 [(.a [(.c (.sl ctOp) x0)])] (s_InOf_R (m_inOf x0))

/-! spec.InOf -/
def s_InOf_G : List TRow := [s_ModelOk_row]
def s_InOf_c : TCode :=
  (.seq (.reg [.op (some 1) (.box 66 (.s 0) 1),
    .op (some 2) (.mov (.k (.c TI (0 : Int))))])
 (.seq (.seq (.reg [.op (some 3) (.load (.s 1) 1 true),
      .op (some 4) (.call 60 [(.s 3)]),
      .op (some 5) (.not (.s 4))])
   (.cond (.s 5) (.seq (.reg [.op (some 2) (.mov (.k (.c TI (0 : Int))))])
     .ret) .skip))
  (.seq (.reg [.op (some 6) (.fad (.s 1) 0),
      .op (some 7) (.load (.s 6) 1 false),
      .op (some 8) (.iad (.s 7) (.k (.c TI (0 : Int))) ctOp),
      .op (some 9) (.fad (.s 8) 1),
      .op (some 10) (.load (.s 9) 1 false),
      .op (some 2) (.mov (.s 10))])
   .ret)))
def s_InOf_rs : List (ARv × Md) := [(.t 2, .one .d)]
theorem s_InOf_st : compF Try.prog 214 = some (s_InOf_c.er, s_InOf_rs.map Prod.fst, 11) := by kernel_rfl
def s_InOf_Q (K : TRes → Prop) : TPost := TQ 0 0 s_InOf_rs K
theorem s_InOf_v0 (K : TRes → Prop) (m : List TOp') (h :
  (((!(m_modelOk m)) = true → K (s_InOf_R (0 : Int))) ∧ ((!(m_modelOk m)) = false → (((0 : Int) ≤ (0 : Int) ∧ Int.toNat (0 : Int) < m.length) ∧ K (s_InOf_R ((gtd dOp m (Int.toNat (0 : Int))).2.1)))))) : Hold (tawp s_InOf_G (0 + 0) s_InOf_c (TQ 0 0 s_InOf_rs K) (tstart [(.a [(.c (.sl ctOp) m)])])) :=
  Hold.of (by kernel_rfl) h
theorem s_InOf_t (m : List TOp') (r : TRes) (h : Hold (tawp s_InOf_G (0 + 0) s_InOf_c (TQ 0 0 s_InOf_rs fun r' => r' = r) (tstart [(.a [(.c (.sl ctOp) m)])]))) : TCon Try.prog 214 [(.a [(.c (.sl ctOp) m)])] r :=
  tcon_gen (sg := [(.a [(.sl ctOp)])]) mixed (TOk.cons s_ModelOk_ok TOk.nil) s_InOf_st (by kernel_rfl) (by kernel_rfl) (by kernel_rfl) (by kernel_rfl) h
theorem s_InOf_h : s_InOf_C := by
  intro m
  refine tcon_bd rfl fun hb => s_InOf_t m _ (s_InOf_v0 _ m ?_)
  have hl_m_0 : (m).length ≤ 9223372036854775807 := hb.1.1.1
  refine ⟨fun h => R_eq (by grind [m_inOf]), fun h => ?_⟩
  have := mod_len (m := m) (by simpa using h)
  exact ⟨⟨by omega, by simp; omega⟩, R_eq (by simp at h; simp [m_inOf, h])⟩

theorem s_InOf_ok : TRowOk Try.prog s_InOf_row := rowOk fun x _ => s_InOf_h x.1

def s_OutOf_R (t : Int) : TRes := ⟨(.c TI t), [], [], false, []⟩
def s_OutOf_row : TRow := mkRow 215 [(.a [(.sl ctOp)])] fun x => (none, s_OutOf_R (m_outOf x.1))
def s_OutOf_C : Prop := ∀ (x0 : List TOp'), TCon Try.prog 215 [(.a [(.c (.sl ctOp) x0)])] (s_OutOf_R (m_outOf x0))

/-! spec.OutOf -/
def s_OutOf_G : List TRow := [s_ModelOk_row]
def s_OutOf_c : TCode :=
  (.seq (.reg [.op (some 1) (.box 66 (.s 0) 1),
    .op (some 2) (.mov (.k (.c TI (0 : Int))))])
 (.seq (.seq (.reg [.op (some 3) (.load (.s 1) 1 true),
      .op (some 4) (.call 60 [(.s 3)]),
      .op (some 5) (.not (.s 4))])
   (.cond (.s 5) (.seq (.reg [.op (some 2) (.mov (.k (.c TI (0 : Int))))])
     .ret) .skip))
  (.seq (.reg [.op (some 6) (.fad (.s 1) 0),
      .op (some 7) (.load (.s 6) 1 false),
      .op (some 8) (.fad (.s 1) 0),
      .op (some 9) (.load (.s 8) 1 false),
      .op (some 10) (.len (.s 9)),
      .op (some 11) (.bin .sub (.s 10) (.k (.c TI (1 : Int)))),
      .op (some 12) (.iad (.s 7) (.s 11) ctOp),
      .op (some 13) (.fad (.s 12) 2),
      .op (some 14) (.load (.s 13) 1 false),
      .op (some 2) (.mov (.s 14))])
   .ret)))
def s_OutOf_rs : List (ARv × Md) := [(.t 2, .one .d)]
theorem s_OutOf_st : compF Try.prog 215 = some (s_OutOf_c.er, s_OutOf_rs.map Prod.fst, 15) := by kernel_rfl
def s_OutOf_Q (K : TRes → Prop) : TPost := TQ 0 0 s_OutOf_rs K
theorem s_OutOf_v0 (K : TRes → Prop) (m : List TOp') (h :
  (((!(m_modelOk m)) = true → K (s_OutOf_R (0 : Int))) ∧ ((!(m_modelOk m)) = false → (((0 : Int) ≤ w64 ((m.length : Int) - (1 : Int)) ∧ Int.toNat (w64 ((m.length : Int) - (1 : Int))) < m.length) ∧ K (s_OutOf_R ((gtd dOp m (Int.toNat (w64 ((m.length : Int) - (1 : Int))))).2.2.1)))))) : Hold (tawp s_OutOf_G (0 + 0) s_OutOf_c (TQ 0 0 s_OutOf_rs K) (tstart [(.a [(.c (.sl ctOp) m)])])) :=
  Hold.of (by kernel_rfl) h
theorem s_OutOf_t (m : List TOp') (r : TRes) (h : Hold (tawp s_OutOf_G (0 + 0) s_OutOf_c (TQ 0 0 s_OutOf_rs fun r' => r' = r) (tstart [(.a [(.c (.sl ctOp) m)])]))) : TCon Try.prog 215 [(.a [(.c (.sl ctOp) m)])] r :=
  tcon_gen (sg := [(.a [(.sl ctOp)])]) mixed (TOk.cons s_ModelOk_ok TOk.nil) s_OutOf_st (by kernel_rfl) (by kernel_rfl) (by kernel_rfl) (by kernel_rfl) h
theorem s_OutOf_h : s_OutOf_C := by
  intro m
  refine tcon_bd rfl fun hb => s_OutOf_t m _ (s_OutOf_v0 _ m ?_)
  have hl_m_0 : (m).length ≤ 9223372036854775807 := hb.1.1.1
  refine ⟨fun h => R_eq (by grind [m_outOf]), fun h => ?_⟩
  have := mod_len (m := m) (by simpa using h)
  have e := tn_sub1 this.1 (by omega : m.length ≤ 9223372036854775807)
  rw [e.1]
  exact ⟨⟨e.2, by omega⟩, R_eq (by simp at h; simp [m_outOf, h])⟩

theorem s_OutOf_ok : TRowOk Try.prog s_OutOf_row := rowOk fun x _ => s_OutOf_h x.1

end
end Go.Proofs.Ytephkbajoofeoaa.Am
