/-
  Written by gen.py: the code of functions, and what it asks.
-/
import Derived.Test.YtjigmfomaoanmaaTmD
namespace Go.Proofs.Ytjigmfomaoanmaa.Am
open Go Go.RowKit Go.Proofs.Ytjigmfomaoanmaa
set_option linter.unusedVariables false
set_option linter.unusedSimpArgs false
noncomputable section

def s_l1In_n : FuncId := 30
def s_l1In_R (t : Bool) : TRes := ⟨(.c .bool t), [], [], false⟩
def s_l1In_row : TRow := ⟨30, [(.c TI), (.c TI), (.c TI)], fun
  | [.c (.int .i64) a0, .c (.int .i64) a1, .c (.int .i64) a2] => some (none, ⟨(.c .bool (m_in a0 a1 a2)), [], [], false⟩)
  | _ => none⟩
def s_l1In_C : Prop := ∀ (x0 : Int) (x1 : Int) (x2 : Int), TCon Try.prog 30 [(.c TI x0), (.c TI x1), (.c TI x2)] (s_l1In_R (m_in x0 x1 x2))

/-! spec.l1In -/
def s_l1In_G : List TRow := []
def s_l1In_c : TCode :=
  (.seq (.reg [.op (some 6) (.mov (.k (.c .bool false)))])
 (.seq (.reg [.op (some 7) (.mov (.s 0)),
     .op (some 8) (.mov (.s 1)),
     .op (some 9) (.bin .geq (.s 7) (.s 8)),
     .op (some 10) (.mov (.s 9)),
     .grp 10 true [.op (some 11) (.mov (.s 0)), .op (some 12) (.mov (.s 2)), .op (some 13) (.bin .leq (.s 11) (.s 12))] 14 (.s 13),
     .op (some 6) (.mov (.s 14))])
  .ret))
def s_l1In_rs : List (ARv × Md) := [(.t 6, .one .d)]
theorem s_l1In_st : compF Try.prog 30 = some (s_l1In_c.er, s_l1In_rs.map Prod.fst, 15) := by kernel_rfl
def s_l1In_Q (K : TRes → Prop) : TPost := TQ 0 s_l1In_rs K
theorem s_l1In_v0 (K : TRes → Prop) (x : Int) (low : Int) (high : Int) (h :
  K (s_l1In_R ((decide (x ≥ low)) && (decide (x ≤ high))))) : Hold (tawp s_l1In_G 0 s_l1In_c (TQ 0 s_l1In_rs K) (tstart [(.c TI x), (.c TI low), (.c TI high)])) :=
  Hold.of (by kernel_rfl) h
theorem s_l1In_t (x : Int) (low : Int) (high : Int) (r : TRes) (h : Hold (tawp s_l1In_G 0 s_l1In_c (TQ 0 s_l1In_rs fun r' => r' = r) (tstart [(.c TI x), (.c TI low), (.c TI high)]))) : TCon Try.prog 30 [(.c TI x), (.c TI low), (.c TI high)] r :=
  tcon_gen (sg := [(.c TI), (.c TI), (.c TI)]) mixed TOk.nil s_l1In_st (by kernel_rfl) (by kernel_rfl) (by kernel_rfl) h
theorem s_l1In_h : s_l1In_C := by
  intro x low high
  refine tcon_bd rfl fun hb => s_l1In_t x low high _ (s_l1In_v0 _ x low high ?_)
  exact R_eq rfl

theorem s_l1In_ok : TRowOk Try.prog s_l1In_row := by
  intro vs pre r hf hr hp
  simp only [s_l1In_row] at hr
  split at hr
  · rename_i a0 a1 a2; cases hr; exact s_l1In_h a0 a1 a2
  · cases hr

def s_FixOk_n : FuncId := 43
def s_FixOk_R (t : Bool) : TRes := ⟨(.c .bool t), [], [], false⟩
def s_FixOk_row : TRow := ⟨43, [(.c TI)], fun
  | [.c (.int .i64) a0] => some (none, ⟨(.c .bool (m_fixOk a0)), [], [], false⟩)
  | _ => none⟩
def s_FixOk_C : Prop := ∀ (x0 : Int), TCon Try.prog 43 [(.c TI x0)] (s_FixOk_R (m_fixOk x0))

/-! spec.FixOk -/
def s_FixOk_G : List TRow := [s_l1In_row]
def s_FixOk_c : TCode :=
  (.seq (.reg [.op (some 2) (.mov (.k (.c .bool false)))])
 (.seq (.reg [.op (some 3) (.mov (.s 0)),
     .op (some 4) (.call 30 [(.s 3), (.k (.c TI (-2147483647 : Int))), (.k (.c TI (2147483647 : Int)))]),
     .op (some 2) (.mov (.s 4))])
  .ret))
def s_FixOk_rs : List (ARv × Md) := [(.t 2, .one .d)]
theorem s_FixOk_st : compF Try.prog 43 = some (s_FixOk_c.er, s_FixOk_rs.map Prod.fst, 5) := by kernel_rfl
def s_FixOk_Q (K : TRes → Prop) : TPost := TQ 0 s_FixOk_rs K
theorem s_FixOk_v0 (K : TRes → Prop) (x : Int) (h :
  K (s_FixOk_R (m_in x (-2147483647 : Int) (2147483647 : Int)))) : Hold (tawp s_FixOk_G 0 s_FixOk_c (TQ 0 s_FixOk_rs K) (tstart [(.c TI x)])) :=
  Hold.of (by kernel_rfl) h
theorem s_FixOk_t (x : Int) (r : TRes) (h : Hold (tawp s_FixOk_G 0 s_FixOk_c (TQ 0 s_FixOk_rs fun r' => r' = r) (tstart [(.c TI x)]))) : TCon Try.prog 43 [(.c TI x)] r :=
  tcon_gen (sg := [(.c TI)]) mixed (TOk.cons s_l1In_ok TOk.nil) s_FixOk_st (by kernel_rfl) (by kernel_rfl) (by kernel_rfl) h
theorem s_FixOk_h : s_FixOk_C := by
  intro x
  refine tcon_bd rfl fun hb => s_FixOk_t x _ (s_FixOk_v0 _ x ?_)
  exact R_eq rfl

theorem s_FixOk_ok : TRowOk Try.prog s_FixOk_row := by
  intro vs pre r hf hr hp
  simp only [s_FixOk_row] at hr
  split at hr
  · rename_i a0; cases hr; exact s_FixOk_h a0
  · cases hr

def i_FixOk_n : FuncId := 48
def i_FixOk_R (t : Bool) : TRes := ⟨(.c .bool t), [], [], false⟩
def i_FixOk_row : TRow := ⟨48, [(.c TI)], fun
  | [.c (.int .i64) a0] => some (none, ⟨(.c .bool (m_fixOk a0)), [], [], false⟩)
  | _ => none⟩
def i_FixOk_C : Prop := ∀ (x0 : Int), TCon Try.prog 48 [(.c TI x0)] (i_FixOk_R (m_fixOk x0))

/-! impl.FixOk -/
def i_FixOk_G : List TRow := []
def i_FixOk_c : TCode :=
  (.seq (.reg [.op (some 2) (.mov (.k (.c .bool false)))])
 (.seq (.reg [.op (some 3) (.mov (.s 0)),
     .op (some 4) (.bin .geq (.s 3) (.k (.c TI (-2147483647 : Int)))),
     .op (some 5) (.mov (.s 4)),
     .grp 5 true [.op (some 6) (.mov (.s 0)), .op (some 7) (.bin .leq (.s 6) (.k (.c TI (2147483647 : Int))))] 8 (.s 7),
     .op (some 2) (.mov (.s 8))])
  .ret))
def i_FixOk_rs : List (ARv × Md) := [(.t 2, .one .d)]
theorem i_FixOk_st : compF Try.prog 48 = some (i_FixOk_c.er, i_FixOk_rs.map Prod.fst, 9) := by kernel_rfl
def i_FixOk_Q (K : TRes → Prop) : TPost := TQ 0 i_FixOk_rs K
theorem i_FixOk_v0 (K : TRes → Prop) (x : Int) (h :
  K (i_FixOk_R ((decide (x ≥ (-2147483647 : Int))) && (decide (x ≤ (2147483647 : Int)))))) : Hold (tawp i_FixOk_G 0 i_FixOk_c (TQ 0 i_FixOk_rs K) (tstart [(.c TI x)])) :=
  Hold.of (by kernel_rfl) h
theorem i_FixOk_t (x : Int) (r : TRes) (h : Hold (tawp i_FixOk_G 0 i_FixOk_c (TQ 0 i_FixOk_rs fun r' => r' = r) (tstart [(.c TI x)]))) : TCon Try.prog 48 [(.c TI x)] r :=
  tcon_gen (sg := [(.c TI)]) mixed TOk.nil i_FixOk_st (by kernel_rfl) (by kernel_rfl) (by kernel_rfl) h
theorem i_FixOk_h : i_FixOk_C := by
  intro x
  refine tcon_bd rfl fun hb => i_FixOk_t x _ (i_FixOk_v0 _ x ?_)
  exact R_eq rfl

theorem i_FixOk_ok : TRowOk Try.prog i_FixOk_row := by
  intro vs pre r hf hr hp
  simp only [i_FixOk_row] at hr
  split at hr
  · rename_i a0; cases hr; exact i_FixOk_h a0
  · cases hr

def i_allFix_n : FuncId := 47
def i_allFix_R (t : Bool) : TRes := ⟨(.c .bool t), [], [], false⟩
def i_allFix_row : TRow := ⟨47, [(.c (.sl [TI]))], fun
  | [.c (.sl [(.int .i64)]) a0] => some (none, ⟨(.c .bool (m_allFix a0)), [], [], false⟩)
  | _ => none⟩
def i_allFix_C : Prop := ∀ (x0 : List Int), TCon Try.prog 47 [(.c (.sl [TI]) x0)] (i_allFix_R (m_allFix x0))

/-! impl.allFix -/
def i_allFix_G : List TRow := [i_FixOk_row]
def i_allFix_b2 : TCode :=
  (.seq (.reg [.op (some 8) (.bin .lss (.s 7) (.s 6))])
 (.seq (.cond (.s 8) .skip (.exit 0))
  (.seq (.block 1 (.seq (.reg [.op (some 9) (.iad (.s 5) (.s 7) [TI]),
        .op (some 10) (.load (.s 9) 1 false),
        .op (some 4) (.mov (.s 10))])
     (.seq (.reg [.op (some 11) (.mov (.s 4)),
         .op (some 12) (.call 48 [(.s 11)]),
         .op (some 13) (.not (.s 12))])
      (.cond (.s 13) (.seq (.reg [.op (some 2) (.mov (.k (.c .bool false)))])
        .ret) .skip))))
   (.reg [.op (some 14) (.bin .add (.s 7) (.k (.c TI (1 : Int)))),
      .op (some 7) (.mov (.s 14))]))))
def i_allFix_L2 : List (Nat × Md) := [(5, .one .d), (6, .one .d), (7, .one .d)]
def i_allFix_y1 : TCode :=
  (.seq (.reg [.op (some 2) (.mov (.k (.c .bool true)))])
 .ret)
def i_allFix_c : TCode :=
  (.seq (.reg [.op (some 2) (.mov (.k (.c .bool false)))])
 (.seq (.seq (.reg [.op (some 5) (.mov (.s 0)),
      .op (some 6) (.len (.s 5)),
      .op (some 7) (.mov (.k (.c TI (0 : Int))))])
   (.block 0 (.loop i_allFix_L2 i_allFix_b2)))
  i_allFix_y1))
def i_allFix_rs : List (ARv × Md) := [(.t 2, .one .d)]
theorem i_allFix_st : compF Try.prog 47 = some (i_allFix_c.er, i_allFix_rs.map Prod.fst, 15) := by kernel_rfl
def i_allFix_Q (K : TRes → Prop) : TPost := TQ 0 i_allFix_rs K
def i_allFix_q1 (K : TRes → Prop) : TPost := Qseq (tawp i_allFix_G 0 i_allFix_y1 (i_allFix_Q K)) (i_allFix_Q K)
def i_allFix_q2 (K : TRes → Prop) : TPost := Qblk 0 (i_allFix_q1 K)
def i_allFix_A2 (K : TRes → Prop) (v : List Int) (x : Int) : Prop := Loop i_allFix_G 0 i_allFix_L2 i_allFix_b2 (i_allFix_q2 K) ⟨[(5, (.c (.sl [TI]) v)), (6, (.c TI (v.length : Int))), (7, (.c TI x))], [], 0⟩
theorem i_allFix_v2 (K : TRes → Prop) (v : List Int) (x : Int) (h :
  (((decide (x < (v.length : Int))) = true → (((0 : Int) ≤ x ∧ Int.toNat x < v.length) ∧ (((!(m_fixOk (gtd (0 : Int) v (Int.toNat x)))) = true → K (i_allFix_R false)) ∧ ((!(m_fixOk (gtd (0 : Int) v (Int.toNat x)))) = false → (i_allFix_A2 K v (w64 (x + (1 : Int)))))))) ∧ ((decide (x < (v.length : Int))) = false → K (i_allFix_R true)))) : i_allFix_A2 K v x :=
  Loop.of (by kernel_rfl) h
theorem i_allFix_v0 (K : TRes → Prop) (v : List Int) (h :
  (i_allFix_A2 K v (0 : Int))) : Hold (tawp i_allFix_G 0 i_allFix_c (TQ 0 i_allFix_rs K) (tstart [(.c (.sl [TI]) v)])) :=
  Hold.of (by kernel_rfl) h
theorem i_allFix_t (v : List Int) (r : TRes) (h : Hold (tawp i_allFix_G 0 i_allFix_c (TQ 0 i_allFix_rs fun r' => r' = r) (tstart [(.c (.sl [TI]) v)]))) : TCon Try.prog 47 [(.c (.sl [TI]) v)] r :=
  tcon_gen (sg := [(.c (.sl [TI]))]) mixed (TOk.cons i_FixOk_ok TOk.nil) i_allFix_st (by kernel_rfl) (by kernel_rfl) (by kernel_rfl) h
theorem i_allFix_h : i_allFix_C := by
  intro v
  refine tcon_bd rfl fun hb => i_allFix_t v _ (i_allFix_v0 _ v ?_)
  have hl_v : v.length ≤ 9223372036854775807 := hb.1.1
  exact allLoop (Q := fun x => i_allFix_R x = i_allFix_R (m_allFix v)) (p := m_fixOk) (c := fun x => !(m_fixOk x)) 0 hl_v (fun _ => rfl) (fun i h => i_allFix_v2 _ v i h) (R_eq (by simp [m_allFix]))

theorem i_allFix_ok : TRowOk Try.prog i_allFix_row := by
  intro vs pre r hf hr hp
  simp only [i_allFix_row] at hr
  split at hr
  · rename_i a0; cases hr; exact i_allFix_h a0
  · cases hr

def s_VecOk_n : FuncId := 38
def s_VecOk_R (t : Bool) : TRes := ⟨(.c .bool t), [], [], false⟩
def s_VecOk_row : TRow := ⟨38, [(.c (.sl [TI]))], fun
  | [.c (.sl [(.int .i64)]) a0] => some (none, ⟨(.c .bool (m_vecOk a0)), [], [], false⟩)
  | _ => none⟩
def s_VecOk_C : Prop := ∀ (x0 : List Int), TCon Try.prog 38 [(.c (.sl [TI]) x0)] (s_VecOk_R (m_vecOk x0))

/-! spec.VecOk -/
def s_VecOk_G : List TRow := [s_FixOk_row, s_l1In_row]
def s_VecOk_b2 : TCode :=
  (.seq (.seq (.reg [.op (some 4) (.mov (.s 3)),
     .op (some 5) (.mov (.s 0)),
     .op (some 6) (.len (.s 5)),
     .op (some 7) (.bin .lss (.s 4) (.s 6))])
  (.cond (.s 7) .skip (.exit 0)))
 (.seq (.block 1 (.seq (.reg [.op (some 10) (.mov (.s 0)),
       .op (some 11) (.mov (.s 3)),
       .op (some 12) (.iad (.s 10) (.s 11) [TI]),
       .op (some 13) (.load (.s 12) 1 false),
       .op (some 14) (.call 43 [(.s 13)]),
       .op (some 15) (.not (.s 14))])
    (.cond (.s 15) (.seq (.reg [.op (some 2) (.mov (.k (.c .bool false)))])
      .ret) .skip)))
  (.reg [.op (some 8) (.mov (.s 3)),
     .op (some 9) (.bin .add (.s 8) (.k (.c TI (1 : Int)))),
     .op (some 3) (.mov (.s 9))])))
def s_VecOk_L2 : List (Nat × Md) := [(0, .one .d), (3, .one .d)]
def s_VecOk_y1 : TCode :=
  (.seq (.reg [.op (some 16) (.mov (.s 0)),
    .op (some 17) (.len (.s 16)),
    .op (some 18) (.call 30 [(.s 17), (.k (.c TI (1 : Int))), (.k (.c TI (6 : Int)))]),
    .op (some 2) (.mov (.s 18))])
 .ret)
def s_VecOk_c : TCode :=
  (.seq (.reg [.op (some 2) (.mov (.k (.c .bool false)))])
 (.seq (.seq (.reg [.op (some 3) (.mov (.k (.c TI (0 : Int))))])
   (.block 0 (.loop s_VecOk_L2 s_VecOk_b2)))
  s_VecOk_y1))
def s_VecOk_rs : List (ARv × Md) := [(.t 2, .one .d)]
theorem s_VecOk_st : compF Try.prog 38 = some (s_VecOk_c.er, s_VecOk_rs.map Prod.fst, 19) := by kernel_rfl
def s_VecOk_Q (K : TRes → Prop) : TPost := TQ 0 s_VecOk_rs K
def s_VecOk_q1 (K : TRes → Prop) : TPost := Qseq (tawp s_VecOk_G 0 s_VecOk_y1 (s_VecOk_Q K)) (s_VecOk_Q K)
def s_VecOk_q2 (K : TRes → Prop) : TPost := Qblk 0 (s_VecOk_q1 K)
def s_VecOk_A2 (K : TRes → Prop) (v : List Int) (i : Int) : Prop := Loop s_VecOk_G 0 s_VecOk_L2 s_VecOk_b2 (s_VecOk_q2 K) ⟨[(0, (.c (.sl [TI]) v)), (3, (.c TI i))], [], 0⟩
theorem s_VecOk_v2 (K : TRes → Prop) (v : List Int) (i : Int) (h :
  (((decide (i < (v.length : Int))) = true → (((0 : Int) ≤ i ∧ Int.toNat i < v.length) ∧ (((!(m_fixOk (gtd (0 : Int) v (Int.toNat i)))) = true → K (s_VecOk_R false)) ∧ ((!(m_fixOk (gtd (0 : Int) v (Int.toNat i)))) = false → (s_VecOk_A2 K v (w64 (i + (1 : Int)))))))) ∧ ((decide (i < (v.length : Int))) = false → K (s_VecOk_R (m_in (v.length : Int) (1 : Int) (6 : Int)))))) : s_VecOk_A2 K v i :=
  Loop.of (by kernel_rfl) h
theorem s_VecOk_v0 (K : TRes → Prop) (v : List Int) (h :
  (s_VecOk_A2 K v (0 : Int))) : Hold (tawp s_VecOk_G 0 s_VecOk_c (TQ 0 s_VecOk_rs K) (tstart [(.c (.sl [TI]) v)])) :=
  Hold.of (by kernel_rfl) h
theorem s_VecOk_t (v : List Int) (r : TRes) (h : Hold (tawp s_VecOk_G 0 s_VecOk_c (TQ 0 s_VecOk_rs fun r' => r' = r) (tstart [(.c (.sl [TI]) v)]))) : TCon Try.prog 38 [(.c (.sl [TI]) v)] r :=
  tcon_gen (sg := [(.c (.sl [TI]))]) mixed (TOk.cons s_FixOk_ok (TOk.cons s_l1In_ok TOk.nil)) s_VecOk_st (by kernel_rfl) (by kernel_rfl) (by kernel_rfl) h
theorem s_VecOk_h : s_VecOk_C := by
  intro v
  refine tcon_bd rfl fun hb => s_VecOk_t v _ (s_VecOk_v0 _ v ?_)
  have hl_v : v.length ≤ 9223372036854775807 := hb.1.1
  exact allLoop (Q := fun x => s_VecOk_R x = s_VecOk_R (m_vecOk v)) (p := m_fixOk) (c := fun x => !(m_fixOk x)) 0 hl_v (fun _ => rfl) (fun i h => s_VecOk_v2 _ v i h) (R_eq (by grind [m_vecOk, m_allFix]))

theorem s_VecOk_ok : TRowOk Try.prog s_VecOk_row := by
  intro vs pre r hf hr hp
  simp only [s_VecOk_row] at hr
  split at hr
  · rename_i a0; cases hr; exact s_VecOk_h a0
  · cases hr

def i_VecOk_n : FuncId := 45
def i_VecOk_R (t : Bool) : TRes := ⟨(.c .bool t), [], [], false⟩
def i_VecOk_row : TRow := ⟨45, [(.c (.sl [TI]))], fun
  | [.c (.sl [(.int .i64)]) a0] => some (none, ⟨(.c .bool (m_vecOk a0)), [], [], false⟩)
  | _ => none⟩
def i_VecOk_C : Prop := ∀ (x0 : List Int), TCon Try.prog 45 [(.c (.sl [TI]) x0)] (i_VecOk_R (m_vecOk x0))

/-! impl.VecOk -/
def i_VecOk_G : List TRow := [i_allFix_row]
def i_VecOk_c : TCode :=
  (.seq (.reg [.op (some 2) (.mov (.k (.c .bool false)))])
 (.seq (.reg [.op (some 3) (.mov (.s 0)),
     .op (some 4) (.len (.s 3)),
     .op (some 5) (.bin .geq (.s 4) (.k (.c TI (1 : Int)))),
     .op (some 6) (.mov (.s 5)),
     .grp 6 true [.op (some 7) (.mov (.s 0)), .op (some 8) (.len (.s 7)), .op (some 9) (.bin .leq (.s 8) (.k (.c TI (6 : Int))))] 10 (.s 9),
     .op (some 11) (.mov (.s 10)),
     .grp 11 true [.op (some 12) (.mov (.s 0)), .op (some 13) (.call 47 [(.s 12)])] 14 (.s 13),
     .op (some 2) (.mov (.s 14))])
  .ret))
def i_VecOk_rs : List (ARv × Md) := [(.t 2, .one .d)]
theorem i_VecOk_st : compF Try.prog 45 = some (i_VecOk_c.er, i_VecOk_rs.map Prod.fst, 15) := by kernel_rfl
def i_VecOk_Q (K : TRes → Prop) : TPost := TQ 0 i_VecOk_rs K
theorem i_VecOk_v0 (K : TRes → Prop) (v : List Int) (h :
  K (i_VecOk_R (((decide ((v.length : Int) ≥ (1 : Int))) && (decide ((v.length : Int) ≤ (6 : Int)))) && (m_allFix v)))) : Hold (tawp i_VecOk_G 0 i_VecOk_c (TQ 0 i_VecOk_rs K) (tstart [(.c (.sl [TI]) v)])) :=
  Hold.of (by kernel_rfl) h
theorem i_VecOk_t (v : List Int) (r : TRes) (h : Hold (tawp i_VecOk_G 0 i_VecOk_c (TQ 0 i_VecOk_rs fun r' => r' = r) (tstart [(.c (.sl [TI]) v)]))) : TCon Try.prog 45 [(.c (.sl [TI]) v)] r :=
  tcon_gen (sg := [(.c (.sl [TI]))]) mixed (TOk.cons i_allFix_ok TOk.nil) i_VecOk_st (by kernel_rfl) (by kernel_rfl) (by kernel_rfl) h
theorem i_VecOk_h : i_VecOk_C := by
  intro v
  refine tcon_bd rfl fun hb => i_VecOk_t v _ (i_VecOk_v0 _ v ?_)
  have hl_v : v.length ≤ 9223372036854775807 := hb.1.1
  exact R_eq (by grind [m_vecOk, m_in])

theorem i_VecOk_ok : TRowOk Try.prog i_VecOk_row := by
  intro vs pre r hf hr hp
  simp only [i_VecOk_row] at hr
  split at hr
  · rename_i a0; cases hr; exact i_VecOk_h a0
  · cases hr

def i_itemOk_n : FuncId := 40
def i_itemOk_R (t : Bool) : TRes := ⟨(.c .bool t), [], [], false⟩
def i_itemOk_row : TRow := ⟨40, [(.a [TI, (.sl [TI])])], fun
  | [.a [.c (.int .i64) a0_0, .c (.sl [(.int .i64)]) a0_1]] => some (none, ⟨(.c .bool (m_itemOk (a0_0, a0_1))), [], [], false⟩)
  | _ => none⟩
def i_itemOk_C : Prop := ∀ (x0 : TItem), TCon Try.prog 40 [(.a [(.c TI x0.1), (.c (.sl [TI]) x0.2)])] (i_itemOk_R (m_itemOk x0))

/-! impl.itemOk -/
def i_itemOk_G : List TRow := [i_VecOk_row]
def i_itemOk_c : TCode :=
  (.seq (.reg [.op (some 1) (.box 66 (.s 0) 2),
    .op (some 2) (.mov (.k (.c .bool false)))])
 (.seq (.reg [.op (some 3) (.fad (.s 1) 1),
     .op (some 4) (.load (.s 3) 1 false),
     .op (some 5) (.call 45 [(.s 4)]),
     .op (some 6) (.mov (.s 5)),
     .grp 6 true [.op (some 7) (.fad (.s 1) 0), .op (some 8) (.load (.s 7) 1 false), .op (some 9) (.bin .geq (.s 8) (.k (.c TI (0 : Int))))] 10 (.s 9),
     .op (some 11) (.mov (.s 10)),
     .grp 11 true [.op (some 12) (.fad (.s 1) 0), .op (some 13) (.load (.s 12) 1 false), .op (some 14) (.bin .lss (.s 13) (.k (.c TI (5 : Int))))] 15 (.s 14),
     .op (some 2) (.mov (.s 15))])
  .ret))
def i_itemOk_rs : List (ARv × Md) := [(.t 2, .one .d)]
theorem i_itemOk_st : compF Try.prog 40 = some (i_itemOk_c.er, i_itemOk_rs.map Prod.fst, 16) := by kernel_rfl
def i_itemOk_Q (K : TRes → Prop) : TPost := TQ 0 i_itemOk_rs K
theorem i_itemOk_v0 (K : TRes → Prop) (x : TItem) (h :
  K (i_itemOk_R (((m_vecOk x.2) && (decide (x.1 ≥ (0 : Int)))) && (decide (x.1 < (5 : Int)))))) : Hold (tawp i_itemOk_G 0 i_itemOk_c (TQ 0 i_itemOk_rs K) (tstart [(.a [(.c TI x.1), (.c (.sl [TI]) x.2)])])) :=
  Hold.of (by kernel_rfl) h
theorem i_itemOk_t (x : TItem) (r : TRes) (h : Hold (tawp i_itemOk_G 0 i_itemOk_c (TQ 0 i_itemOk_rs fun r' => r' = r) (tstart [(.a [(.c TI x.1), (.c (.sl [TI]) x.2)])]))) : TCon Try.prog 40 [(.a [(.c TI x.1), (.c (.sl [TI]) x.2)])] r :=
  tcon_gen (sg := [(.a [TI, (.sl [TI])])]) mixed (TOk.cons i_VecOk_ok TOk.nil) i_itemOk_st (by kernel_rfl) (by kernel_rfl) (by kernel_rfl) h
theorem i_itemOk_h : i_itemOk_C := by
  intro x
  refine tcon_bd rfl fun hb => i_itemOk_t x _ (i_itemOk_v0 _ x ?_)
  have hl_x_1 : (x.2).length ≤ 9223372036854775807 := hb.1.2.1.1
  exact R_eq (by grind [m_itemOk])

theorem i_itemOk_ok : TRowOk Try.prog i_itemOk_row := by
  intro vs pre r hf hr hp
  simp only [i_itemOk_row] at hr
  split at hr
  · rename_i a0_0 a0_1; cases hr; exact i_itemOk_h (a0_0, a0_1)
  · cases hr

def s_QueueOk_n : FuncId := 26
def s_QueueOk_R (t : Bool) : TRes := ⟨(.c .bool t), [], [], false⟩
def s_QueueOk_row : TRow := ⟨26, [(.a [TI, (.sl [TI, (.sl [TI])])])], fun
  | [.a [.c (.int .i64) a0_0, .c (.sl [(.int .i64), (.sl [(.int .i64)])]) a0_1]] => some (none, ⟨(.c .bool (m_queueOk (a0_0, a0_1))), [], [], false⟩)
  | _ => none⟩
def s_QueueOk_C : Prop := ∀ (x0 : TQueue), TCon Try.prog 26 [(.a [(.c TI x0.1), (.c (.sl [TI, (.sl [TI])]) x0.2)])] (s_QueueOk_R (m_queueOk x0))

/-! spec.QueueOk -/
def s_QueueOk_G : List TRow := [s_VecOk_row, s_l1In_row]
def s_QueueOk_b2 : TCode :=
  (.seq (.seq (.reg [.op (some 4) (.mov (.s 3)),
     .op (some 5) (.fad (.s 1) 1),
     .op (some 6) (.load (.s 5) 1 false),
     .op (some 7) (.len (.s 6)),
     .op (some 8) (.bin .lss (.s 4) (.s 7))])
  (.cond (.s 8) .skip (.exit 0)))
 (.seq (.block 1 (.seq (.reg [.op (some 11) (.fad (.s 1) 1),
       .op (some 12) (.load (.s 11) 1 false),
       .op (some 13) (.mov (.s 3)),
       .op (some 14) (.iad (.s 12) (.s 13) [TI, (.sl [TI])]),
       .op (some 15) (.fad (.s 14) 1),
       .op (some 16) (.load (.s 15) 1 false),
       .op (some 17) (.call 38 [(.s 16)]),
       .op (some 18) (.not (.s 17)),
       .op (some 19) (.mov (.s 18)),
       .grp 19 false [.op (some 20) (.fad (.s 1) 1), .op (some 21) (.load (.s 20) 1 false), .op (some 22) (.mov (.s 3)), .op (some 23) (.iad (.s 21) (.s 22) [TI, (.sl [TI])]), .op (some 24) (.fad (.s 23) 0), .op (some 25) (.load (.s 24) 1 false), .op (some 26) (.call 30 [(.s 25), (.k (.c TI (0 : Int))), (.k (.c TI (4 : Int)))]), .op (some 27) (.not (.s 26))] 28 (.s 27)])
    (.cond (.s 28) (.seq (.reg [.op (some 2) (.mov (.k (.c .bool false)))])
      .ret) .skip)))
  (.reg [.op (some 9) (.mov (.s 3)),
     .op (some 10) (.bin .add (.s 9) (.k (.c TI (1 : Int)))),
     .op (some 3) (.mov (.s 10))])))
def s_QueueOk_L2 : List (Nat × Md) := [(1, .b [.d, .d]), (3, .one .d)]
def s_QueueOk_y1 : TCode :=
  (.seq (.reg [.op (some 29) (.fad (.s 1) 0),
    .op (some 30) (.load (.s 29) 1 false),
    .op (some 31) (.call 30 [(.s 30), (.k (.c TI (1 : Int))), (.k (.c TI (5 : Int)))]),
    .op (some 32) (.mov (.s 31)),
    .grp 32 true [.op (some 33) (.fad (.s 1) 1), .op (some 34) (.load (.s 33) 1 false), .op (some 35) (.len (.s 34)), .op (some 36) (.fad (.s 1) 0), .op (some 37) (.load (.s 36) 1 false), .op (some 38) (.bin .leq (.s 35) (.s 37))] 39 (.s 38),
    .op (some 2) (.mov (.s 39))])
 .ret)
def s_QueueOk_c : TCode :=
  (.seq (.reg [.op (some 1) (.box 49 (.s 0) 2),
    .op (some 2) (.mov (.k (.c .bool false)))])
 (.seq (.seq (.reg [.op (some 3) (.mov (.k (.c TI (0 : Int))))])
   (.block 0 (.loop s_QueueOk_L2 s_QueueOk_b2)))
  s_QueueOk_y1))
def s_QueueOk_rs : List (ARv × Md) := [(.t 2, .one .d)]
theorem s_QueueOk_st : compF Try.prog 26 = some (s_QueueOk_c.er, s_QueueOk_rs.map Prod.fst, 40) := by kernel_rfl
def s_QueueOk_Q (K : TRes → Prop) : TPost := TQ 0 s_QueueOk_rs K
def s_QueueOk_q1 (K : TRes → Prop) : TPost := Qseq (tawp s_QueueOk_G 0 s_QueueOk_y1 (s_QueueOk_Q K)) (s_QueueOk_Q K)
def s_QueueOk_q2 (K : TRes → Prop) : TPost := Qblk 0 (s_QueueOk_q1 K)
def s_QueueOk_A2 (K : TRes → Prop) (q : TQueue) (i : Int) : Prop := Loop s_QueueOk_G 0 s_QueueOk_L2 s_QueueOk_b2 (s_QueueOk_q2 K) ⟨[(1, (.p 0 0 0)), (3, (.c TI i))], [(0, (.box [(.c TI q.1), (.c (.sl [TI, (.sl [TI])]) q.2)]))], 1⟩
theorem s_QueueOk_v2 (K : TRes → Prop) (q : TQueue) (i : Int) (h :
  (((decide (i < ((q.2).length : Int))) = true → ((((0 : Int) ≤ i ∧ Int.toNat i < (q.2).length) ∧ ((!(!(m_vecOk ((gtd ((0, []) : TItem) q.2 (Int.toNat i)).2)))) = true → ((0 : Int) ≤ i ∧ Int.toNat i < (q.2).length))) ∧ ((((!(m_vecOk ((gtd ((0, []) : TItem) q.2 (Int.toNat i)).2))) || (!(m_in ((gtd ((0, []) : TItem) q.2 (Int.toNat i)).1) (0 : Int) (4 : Int)))) = true → K (s_QueueOk_R false)) ∧ (((!(m_vecOk ((gtd ((0, []) : TItem) q.2 (Int.toNat i)).2))) || (!(m_in ((gtd ((0, []) : TItem) q.2 (Int.toNat i)).1) (0 : Int) (4 : Int)))) = false → (s_QueueOk_A2 K q (w64 (i + (1 : Int)))))))) ∧ ((decide (i < ((q.2).length : Int))) = false → K (s_QueueOk_R ((m_in q.1 (1 : Int) (5 : Int)) && (decide (((q.2).length : Int) ≤ q.1))))))) : s_QueueOk_A2 K q i :=
  Loop.of (by kernel_rfl) h
theorem s_QueueOk_v0 (K : TRes → Prop) (q : TQueue) (h :
  (s_QueueOk_A2 K q (0 : Int))) : Hold (tawp s_QueueOk_G 0 s_QueueOk_c (TQ 0 s_QueueOk_rs K) (tstart [(.a [(.c TI q.1), (.c (.sl [TI, (.sl [TI])]) q.2)])])) :=
  Hold.of (by kernel_rfl) h
theorem s_QueueOk_t (q : TQueue) (r : TRes) (h : Hold (tawp s_QueueOk_G 0 s_QueueOk_c (TQ 0 s_QueueOk_rs fun r' => r' = r) (tstart [(.a [(.c TI q.1), (.c (.sl [TI, (.sl [TI])]) q.2)])]))) : TCon Try.prog 26 [(.a [(.c TI q.1), (.c (.sl [TI, (.sl [TI])]) q.2)])] r :=
  tcon_gen (sg := [(.a [TI, (.sl [TI, (.sl [TI])])])]) mixed (TOk.cons s_VecOk_ok (TOk.cons s_l1In_ok TOk.nil)) s_QueueOk_st (by kernel_rfl) (by kernel_rfl) (by kernel_rfl) h
theorem s_QueueOk_h : s_QueueOk_C := by
  intro q
  refine tcon_bd rfl fun hb => s_QueueOk_t q _ (s_QueueOk_v0 _ q ?_)
  have hl_q_1 : (q.2).length ≤ 9223372036854775807 := hb.1.2.1.1
  refine listLoop q.2 (fun r k => r.all m_itemOk = q.2.all m_itemOk → s_QueueOk_A2 _ q k) ?_ ?_ rfl
  · intro he
    refine s_QueueOk_v2 _ q _ ⟨fun h => by simp at h, fun _ => ?_⟩
    grind [m_queueOk, m_in]
  · intro k x r hk hlt hg ih he
    refine s_QueueOk_v2 _ q _ ⟨fun _ => ?_, fun h => by simp at h; omega⟩
    rw [Int.toNat_natCast, hg, w64_ok (by omega) (by omega)]
    grind [m_queueOk, m_itemOk, m_in]

theorem s_QueueOk_ok : TRowOk Try.prog s_QueueOk_row := by
  intro vs pre r hf hr hp
  simp only [s_QueueOk_row] at hr
  split at hr
  · rename_i a0_0 a0_1; cases hr; exact s_QueueOk_h (a0_0, a0_1)
  · cases hr

def i_QueueOk_n : FuncId := 28
def i_QueueOk_R (t : Bool) : TRes := ⟨(.c .bool t), [], [], false⟩
def i_QueueOk_row : TRow := ⟨28, [(.a [TI, (.sl [TI, (.sl [TI])])])], fun
  | [.a [.c (.int .i64) a0_0, .c (.sl [(.int .i64), (.sl [(.int .i64)])]) a0_1]] => some (none, ⟨(.c .bool (m_queueOk (a0_0, a0_1))), [], [], false⟩)
  | _ => none⟩
def i_QueueOk_C : Prop := ∀ (x0 : TQueue), TCon Try.prog 28 [(.a [(.c TI x0.1), (.c (.sl [TI, (.sl [TI])]) x0.2)])] (i_QueueOk_R (m_queueOk x0))

/-! impl.QueueOk -/
def i_QueueOk_G : List TRow := [i_itemOk_row]
def i_QueueOk_b2 : TCode :=
  (.seq (.reg [.op (some 25) (.bin .lss (.s 24) (.s 23))])
 (.seq (.cond (.s 25) .skip (.exit 0))
  (.seq (.block 1 (.seq (.reg [.op (some 26) (.iad (.s 22) (.s 24) [TI, (.sl [TI])]),
        .op (some 27) (.load (.s 26) 2 true),
        .op (some 4) (.new 66 [(.c TI (0 : Int)), (.n [TI])]),
        .op none (.store (.s 4) (.s 27) 2)])
     (.seq (.reg [.op (some 28) (.load (.s 4) 2 true),
         .op (some 29) (.call 40 [(.s 28)]),
         .op (some 30) (.not (.s 29))])
      (.cond (.s 30) (.seq (.reg [.op (some 2) (.mov (.k (.c .bool false)))])
        .ret) .skip))))
   (.reg [.op (some 31) (.bin .add (.s 24) (.k (.c TI (1 : Int)))),
      .op (some 24) (.mov (.s 31))]))))
def i_QueueOk_L2 : List (Nat × Md) := [(22, .one .d), (23, .one .d), (24, .one .d)]
def i_QueueOk_y1 : TCode :=
  (.seq (.reg [.op (some 2) (.mov (.k (.c .bool true)))])
 .ret)
def i_QueueOk_c : TCode :=
  (.seq (.reg [.op (some 1) (.box 49 (.s 0) 2),
    .op (some 2) (.mov (.k (.c .bool false)))])
 (.seq (.seq (.reg [.op (some 5) (.fad (.s 1) 0),
      .op (some 6) (.load (.s 5) 1 false),
      .op (some 7) (.bin .lss (.s 6) (.k (.c TI (1 : Int)))),
      .op (some 8) (.mov (.s 7)),
      .grp 8 false [.op (some 9) (.fad (.s 1) 0), .op (some 10) (.load (.s 9) 1 false), .op (some 11) (.bin .gtr (.s 10) (.k (.c TI (5 : Int))))] 12 (.s 11),
      .op (some 13) (.mov (.s 12)),
      .grp 13 false [.op (some 14) (.fad (.s 1) 1), .op (some 15) (.load (.s 14) 1 false), .op (some 16) (.len (.s 15)), .op (some 17) (.fad (.s 1) 0), .op (some 18) (.load (.s 17) 1 false), .op (some 19) (.bin .gtr (.s 16) (.s 18))] 20 (.s 19)])
   (.cond (.s 20) (.seq (.reg [.op (some 2) (.mov (.k (.c .bool false)))])
     .ret) .skip))
  (.seq (.seq (.reg [.op (some 21) (.fad (.s 1) 1),
       .op (some 22) (.load (.s 21) 1 false),
       .op (some 23) (.len (.s 22)),
       .op (some 24) (.mov (.k (.c TI (0 : Int))))])
    (.block 0 (.loop i_QueueOk_L2 i_QueueOk_b2)))
   i_QueueOk_y1)))
def i_QueueOk_rs : List (ARv × Md) := [(.t 2, .one .d)]
theorem i_QueueOk_st : compF Try.prog 28 = some (i_QueueOk_c.er, i_QueueOk_rs.map Prod.fst, 32) := by kernel_rfl
def i_QueueOk_Q (K : TRes → Prop) : TPost := TQ 0 i_QueueOk_rs K
def i_QueueOk_q1 (K : TRes → Prop) : TPost := Qseq (tawp i_QueueOk_G 0 i_QueueOk_y1 (i_QueueOk_Q K)) (i_QueueOk_Q K)
def i_QueueOk_q2 (K : TRes → Prop) : TPost := Qblk 0 (i_QueueOk_q1 K)
def i_QueueOk_A2 (K : TRes → Prop) (q : TQueue) (x : Int) : Prop := Loop i_QueueOk_G 0 i_QueueOk_L2 i_QueueOk_b2 (i_QueueOk_q2 K) ⟨[(22, (.c (.sl [TI, (.sl [TI])]) q.2)), (23, (.c TI ((q.2).length : Int))), (24, (.c TI x))], [], 0⟩
theorem i_QueueOk_v2 (K : TRes → Prop) (q : TQueue) (x : Int) (h :
  (((decide (x < ((q.2).length : Int))) = true → (((0 : Int) ≤ x ∧ Int.toNat x < (q.2).length) ∧ (((!(m_itemOk (gtd ((0, []) : TItem) q.2 (Int.toNat x)))) = true → K (i_QueueOk_R false)) ∧ ((!(m_itemOk (gtd ((0, []) : TItem) q.2 (Int.toNat x)))) = false → (i_QueueOk_A2 K q (w64 (x + (1 : Int)))))))) ∧ ((decide (x < ((q.2).length : Int))) = false → K (i_QueueOk_R true)))) : i_QueueOk_A2 K q x :=
  Loop.of (by kernel_rfl) h
theorem i_QueueOk_v0 (K : TRes → Prop) (q : TQueue) (h :
  (((((decide (q.1 < (1 : Int))) || (decide (q.1 > (5 : Int)))) || (decide (((q.2).length : Int) > q.1))) = true → K (i_QueueOk_R false)) ∧ ((((decide (q.1 < (1 : Int))) || (decide (q.1 > (5 : Int)))) || (decide (((q.2).length : Int) > q.1))) = false → (i_QueueOk_A2 K q (0 : Int))))) : Hold (tawp i_QueueOk_G 0 i_QueueOk_c (TQ 0 i_QueueOk_rs K) (tstart [(.a [(.c TI q.1), (.c (.sl [TI, (.sl [TI])]) q.2)])])) :=
  Hold.of (by kernel_rfl) h
theorem i_QueueOk_t (q : TQueue) (r : TRes) (h : Hold (tawp i_QueueOk_G 0 i_QueueOk_c (TQ 0 i_QueueOk_rs fun r' => r' = r) (tstart [(.a [(.c TI q.1), (.c (.sl [TI, (.sl [TI])]) q.2)])]))) : TCon Try.prog 28 [(.a [(.c TI q.1), (.c (.sl [TI, (.sl [TI])]) q.2)])] r :=
  tcon_gen (sg := [(.a [TI, (.sl [TI, (.sl [TI])])])]) mixed (TOk.cons i_itemOk_ok TOk.nil) i_QueueOk_st (by kernel_rfl) (by kernel_rfl) (by kernel_rfl) h
theorem i_QueueOk_h : i_QueueOk_C := by
  intro q
  refine tcon_bd rfl fun hb => i_QueueOk_t q _ (i_QueueOk_v0 _ q ?_)
  have hl_q_1 : (q.2).length ≤ 9223372036854775807 := hb.1.2.1.1
  refine ⟨fun h => R_eq ?_, fun h => allLoop (Q := fun x => i_QueueOk_R x = i_QueueOk_R (m_queueOk q)) (p := m_itemOk) (c := fun x => !(m_itemOk x)) (0, []) hl_q_1 (fun _ => rfl) (fun i h => i_QueueOk_v2 _ q i h) (R_eq ?_)⟩
  · grind [m_queueOk]
  · grind [m_queueOk]

theorem i_QueueOk_ok : TRowOk Try.prog i_QueueOk_row := by
  intro vs pre r hf hr hp
  simp only [i_QueueOk_row] at hr
  split at hr
  · rename_i a0_0 a0_1; cases hr; exact i_QueueOk_h (a0_0, a0_1)
  · cases hr

def s_InFlight_n : FuncId := 16
def s_InFlight_R (t : Int) : TRes := ⟨(.c TI t), [], [], false⟩
def s_InFlight_row : TRow := ⟨16, [(.c (.sl [TI, TI]))], fun
  | [.c (.sl [(.int .i64), (.int .i64)]) a0] => some (none, ⟨(.c TI (m_inFlight a0)), [], [], false⟩)
  | _ => none⟩
def s_InFlight_C : Prop := ∀ (x0 : List TIns), TCon Try.prog 16 [(.c (.sl [TI, TI]) x0)] (s_InFlight_R (m_inFlight x0))

/-! spec.InFlight -/
def s_InFlight_G : List TRow := []
def s_InFlight_b2 : TCode :=
  (.seq (.seq (.reg [.op (some 6) (.mov (.s 5)),
     .op (some 7) (.mov (.s 0)),
     .op (some 8) (.len (.s 7)),
     .op (some 9) (.bin .lss (.s 6) (.s 8))])
  (.cond (.s 9) .skip (.exit 0)))
 (.seq (.block 1 (.seq (.seq (.reg [.op (some 12) (.mov (.s 0)),
        .op (some 13) (.mov (.s 5)),
        .op (some 14) (.iad (.s 12) (.s 13) [TI, TI]),
        .op (some 15) (.fad (.s 14) 0),
        .op (some 16) (.load (.s 15) 1 false)])
     (.block 2 (.seq (.reg [.op (some 18) (.bin .eql (.s 16) (.k (.c TI (2 : Int)))),
          .op (some 17) (.mov (.s 18))])
       (.cond (.s 17) (.reg [.op (some 19) (.mov (.s 3)),
           .op (some 20) (.bin .add (.s 19) (.k (.c TI (1 : Int)))),
           .op (some 3) (.mov (.s 20))]) (.seq (.reg [.op (some 22) (.bin .eql (.s 16) (.k (.c TI (6 : Int)))),
            .op (some 21) (.mov (.s 22))])
         (.cond (.s 21) (.reg [.op (some 23) (.mov (.s 3)),
             .op (some 24) (.bin .sub (.s 23) (.k (.c TI (1 : Int)))),
             .op (some 3) (.mov (.s 24))]) .skip))))))
    (.reg [.op (some 25) (.mov (.s 4)),
       .op (some 26) (.mov (.s 3)),
       .op (some 27) (.mm true (.s 25) (.s 26)),
       .op (some 4) (.mov (.s 27))])))
  (.reg [.op (some 10) (.mov (.s 5)),
     .op (some 11) (.bin .add (.s 10) (.k (.c TI (1 : Int)))),
     .op (some 5) (.mov (.s 11))])))
def s_InFlight_L2 : List (Nat × Md) := [(0, .one .d), (3, .one .d), (4, .one .d), (5, .one .d)]
def s_InFlight_y1 : TCode :=
  (.seq (.reg [.op (some 28) (.mov (.s 4)),
    .op (some 2) (.mov (.s 28))])
 .ret)
def s_InFlight_c : TCode :=
  (.seq (.reg [.op (some 2) (.mov (.k (.c TI (0 : Int))))])
 (.seq (.reg [.op (some 3) (.mov (.k (.c TI (0 : Int))))])
  (.seq (.reg [.op (some 4) (.mov (.k (.c TI (0 : Int))))])
   (.seq (.seq (.reg [.op (some 5) (.mov (.k (.c TI (0 : Int))))])
     (.block 0 (.loop s_InFlight_L2 s_InFlight_b2)))
    s_InFlight_y1))))
def s_InFlight_rs : List (ARv × Md) := [(.t 2, .one .d)]
theorem s_InFlight_st : compF Try.prog 16 = some (s_InFlight_c.er, s_InFlight_rs.map Prod.fst, 29) := by kernel_rfl
def s_InFlight_Q (K : TRes → Prop) : TPost := TQ 0 s_InFlight_rs K
def s_InFlight_q1 (K : TRes → Prop) : TPost := Qseq (tawp s_InFlight_G 0 s_InFlight_y1 (s_InFlight_Q K)) (s_InFlight_Q K)
def s_InFlight_q2 (K : TRes → Prop) : TPost := Qblk 0 (s_InFlight_q1 K)
def s_InFlight_A2 (K : TRes → Prop) (l : List TIns) (n : Int) (most : Int) (i : Int) : Prop := Loop s_InFlight_G 0 s_InFlight_L2 s_InFlight_b2 (s_InFlight_q2 K) ⟨[(0, (.c (.sl [TI, TI]) l)), (3, (.c TI n)), (4, (.c TI most)), (5, (.c TI i))], [], 0⟩
theorem s_InFlight_v2 (K : TRes → Prop) (l : List TIns) (n : Int) (most : Int) (i : Int) (h :
  (((decide (i < (l.length : Int))) = true → (((0 : Int) ≤ i ∧ Int.toNat i < l.length) ∧ (((((gtd ((0, 0) : TIns) l (Int.toNat i)).1) == (2 : Int)) = true → (s_InFlight_A2 K l (w64 (n + (1 : Int))) (if most < (w64 (n + (1 : Int))) then (w64 (n + (1 : Int))) else most) (w64 (i + (1 : Int))))) ∧ ((((gtd ((0, 0) : TIns) l (Int.toNat i)).1) == (2 : Int)) = false → (((((gtd ((0, 0) : TIns) l (Int.toNat i)).1) == (6 : Int)) = true → (s_InFlight_A2 K l (w64 (n - (1 : Int))) (if most < (w64 (n - (1 : Int))) then (w64 (n - (1 : Int))) else most) (w64 (i + (1 : Int))))) ∧ ((((gtd ((0, 0) : TIns) l (Int.toNat i)).1) == (6 : Int)) = false → (s_InFlight_A2 K l n (if most < n then n else most) (w64 (i + (1 : Int)))))))))) ∧ ((decide (i < (l.length : Int))) = false → K (s_InFlight_R most)))) : s_InFlight_A2 K l n most i :=
  Loop.of (by kernel_rfl) h
theorem s_InFlight_v0 (K : TRes → Prop) (l : List TIns) (h :
  (s_InFlight_A2 K l (0 : Int) (0 : Int) (0 : Int))) : Hold (tawp s_InFlight_G 0 s_InFlight_c (TQ 0 s_InFlight_rs K) (tstart [(.c (.sl [TI, TI]) l)])) :=
  Hold.of (by kernel_rfl) h
theorem s_InFlight_t (l : List TIns) (r : TRes) (h : Hold (tawp s_InFlight_G 0 s_InFlight_c (TQ 0 s_InFlight_rs fun r' => r' = r) (tstart [(.c (.sl [TI, TI]) l)]))) : TCon Try.prog 16 [(.c (.sl [TI, TI]) l)] r :=
  tcon_gen (sg := [(.c (.sl [TI, TI]))]) mixed TOk.nil s_InFlight_st (by kernel_rfl) (by kernel_rfl) (by kernel_rfl) h
theorem s_InFlight_h : s_InFlight_C := by
  intro l
  refine tcon_bd rfl fun hb => s_InFlight_t l _ (s_InFlight_v0 _ l ?_)
  have hl_l : l.length ≤ 9223372036854775807 := hb.1.1
  refine listLoop l (fun r k => ∀ n most : Int, -(k : Int) ≤ n → n ≤ k → flGo r n most = m_inFlight l → s_InFlight_A2 (fun r' => r' = s_InFlight_R (m_inFlight l)) l n most k) ?_ ?_ 0 0 (by omega) (by omega) rfl
  · intro n most _ _ he
    refine s_InFlight_v2 (fun r' => r' = s_InFlight_R (m_inFlight l)) l n most _ ⟨fun h => by simp at h, fun _ => ?_⟩
    grind [flGo]
  · intro k x r hk hlt hg ih n most h1 h2 he
    refine s_InFlight_v2 (fun r' => r' = s_InFlight_R (m_inFlight l)) l n most _ ⟨fun _ => ?_, fun h => by simp at h; omega⟩
    rw [Int.toNat_natCast, hg, w64_ok (x := (k : Int) + 1) (by omega) (by omega)]
    have e1 : w64 (n + 1) = n + 1 := w64_ok (by omega) (by omega)
    have e2 : w64 (n - 1) = n - 1 := w64_ok (by omega) (by omega)
    simp only [flGo] at he
    grind

theorem s_InFlight_ok : TRowOk Try.prog s_InFlight_row := by
  intro vs pre r hf hr hp
  simp only [s_InFlight_row] at hr
  split at hr
  · rename_i a0; cases hr; exact s_InFlight_h a0
  · cases hr

def i_InFlight_n : FuncId := 18
def i_InFlight_R (t : Int) : TRes := ⟨(.c TI t), [], [], false⟩
def i_InFlight_row : TRow := ⟨18, [(.c (.sl [TI, TI]))], fun
  | [.c (.sl [(.int .i64), (.int .i64)]) a0] => some (none, ⟨(.c TI (m_inFlight a0)), [], [], false⟩)
  | _ => none⟩
def i_InFlight_C : Prop := ∀ (x0 : List TIns), TCon Try.prog 18 [(.c (.sl [TI, TI]) x0)] (i_InFlight_R (m_inFlight x0))

/-! impl.InFlight -/
def i_InFlight_G : List TRow := []
def i_InFlight_y4 : TCode :=
  (.seq (.seq (.reg [.op (some 18) (.fad (.s 6) 0),
     .op (some 19) (.load (.s 18) 1 false),
     .op (some 20) (.bin .eql (.s 19) (.k (.c TI (6 : Int))))])
  (.cond (.s 20) (.reg [.op (some 21) (.mov (.s 4)),
      .op (some 22) (.bin .sub (.s 21) (.k (.c TI (1 : Int)))),
      .op (some 4) (.mov (.s 22))]) .skip))
 (.reg [.op (some 23) (.mov (.s 3)),
    .op (some 24) (.mov (.s 4)),
    .op (some 25) (.mm true (.s 23) (.s 24)),
    .op (some 3) (.mov (.s 25))]))
def i_InFlight_L4 : List (Nat × Md) := [(3, .one .d), (4, .one .d), (6, .b [.d, .d]), (7, .one .d), (8, .one .d), (9, .one .d)]
def i_InFlight_y4w : TCode := .wk i_InFlight_L4 i_InFlight_y4
def i_InFlight_y3 : TCode :=
  (.reg [.op (some 26) (.bin .add (.s 9) (.k (.c TI (1 : Int)))),
   .op (some 9) (.mov (.s 26))])
def i_InFlight_b2 : TCode :=
  (.seq (.reg [.op (some 10) (.bin .lss (.s 9) (.s 8))])
 (.seq (.cond (.s 10) .skip (.exit 0))
  (.seq (.block 1 (.seq (.reg [.op (some 11) (.iad (.s 7) (.s 9) [TI, TI]),
        .op (some 12) (.load (.s 11) 2 true),
        .op (some 6) (.new 56 [(.c TI (0 : Int)), (.c TI (0 : Int))]),
        .op none (.store (.s 6) (.s 12) 2)])
     (.seq (.seq (.reg [.op (some 13) (.fad (.s 6) 0),
          .op (some 14) (.load (.s 13) 1 false),
          .op (some 15) (.bin .eql (.s 14) (.k (.c TI (2 : Int))))])
       (.cond (.s 15) (.reg [.op (some 16) (.mov (.s 4)),
           .op (some 17) (.bin .add (.s 16) (.k (.c TI (1 : Int)))),
           .op (some 4) (.mov (.s 17))]) .skip))
      i_InFlight_y4w)))
   i_InFlight_y3)))
def i_InFlight_L2 : List (Nat × Md) := [(3, .one .d), (4, .one .d), (7, .one .d), (8, .one .d), (9, .one .d)]
def i_InFlight_y1 : TCode :=
  (.seq (.reg [.op (some 27) (.mov (.s 3)),
    .op (some 2) (.mov (.s 27))])
 .ret)
def i_InFlight_c : TCode :=
  (.seq (.reg [.op (some 2) (.mov (.k (.c TI (0 : Int))))])
 (.seq (.reg [.op (some 3) (.mov (.k (.c TI (0 : Int))))])
  (.seq (.reg [.op (some 4) (.mov (.k (.c TI (0 : Int))))])
   (.seq (.seq (.reg [.op (some 7) (.mov (.s 0)),
        .op (some 8) (.len (.s 7)),
        .op (some 9) (.mov (.k (.c TI (0 : Int))))])
     (.block 0 (.loop i_InFlight_L2 i_InFlight_b2)))
    i_InFlight_y1))))
def i_InFlight_rs : List (ARv × Md) := [(.t 2, .one .d)]
theorem i_InFlight_st : compF Try.prog 18 = some (i_InFlight_c.er, i_InFlight_rs.map Prod.fst, 28) := by kernel_rfl
def i_InFlight_Q (K : TRes → Prop) : TPost := TQ 0 i_InFlight_rs K
def i_InFlight_q1 (K : TRes → Prop) : TPost := Qseq (tawp i_InFlight_G 0 i_InFlight_y1 (i_InFlight_Q K)) (i_InFlight_Q K)
def i_InFlight_q2 (K : TRes → Prop) : TPost := Qblk 0 (i_InFlight_q1 K)
def i_InFlight_q3 (K : TRes → Prop) : TPost := Qseq (fun s' => Loop i_InFlight_G 0 i_InFlight_L2 i_InFlight_b2 (i_InFlight_q2 K) (gc 0 i_InFlight_L2 s')) (i_InFlight_q2 K)
def i_InFlight_q4 (K : TRes → Prop) : TPost := Qseq (tawp i_InFlight_G 0 i_InFlight_y3 (i_InFlight_q3 K)) (i_InFlight_q3 K)
def i_InFlight_q5 (K : TRes → Prop) : TPost := Qblk 1 (i_InFlight_q4 K)
def i_InFlight_A4 (K : TRes → Prop) (l : List TIns) (now : Int) (most : Int) (x : Int) : Prop := tawp i_InFlight_G 0 i_InFlight_y4 (i_InFlight_q5 K) ⟨[(3, (.c TI most)), (4, (.c TI now)), (6, (.p 0 0 0)), (7, (.c (.sl [TI, TI]) l)), (8, (.c TI (l.length : Int))), (9, (.c TI x))], [(0, (.box [(.c TI ((gtd ((0, 0) : TIns) l (Int.toNat x)).1)), (.c TI ((gtd ((0, 0) : TIns) l (Int.toNat x)).2))]))], 1⟩
def i_InFlight_A2 (K : TRes → Prop) (l : List TIns) (most : Int) (now1 : Int) (x : Int) : Prop := Loop i_InFlight_G 0 i_InFlight_L2 i_InFlight_b2 (i_InFlight_q2 K) ⟨[(3, (.c TI most)), (4, (.c TI now1)), (7, (.c (.sl [TI, TI]) l)), (8, (.c TI (l.length : Int))), (9, (.c TI x))], [], 0⟩
theorem i_InFlight_v4 (K : TRes → Prop) (l : List TIns) (now : Int) (most : Int) (x : Int) (h :
  (((((gtd ((0, 0) : TIns) l (Int.toNat x)).1) == (6 : Int)) = true → (i_InFlight_A2 K l (if most < (w64 (now - (1 : Int))) then (w64 (now - (1 : Int))) else most) (w64 (now - (1 : Int))) (w64 (x + (1 : Int))))) ∧ ((((gtd ((0, 0) : TIns) l (Int.toNat x)).1) == (6 : Int)) = false → (i_InFlight_A2 K l (if most < now then now else most) now (w64 (x + (1 : Int))))))) : Hold (i_InFlight_A4 K l now most x) :=
  Hold.of (by kernel_rfl) h
theorem i_InFlight_v2 (K : TRes → Prop) (l : List TIns) (most : Int) (now1 : Int) (x : Int) (h :
  (((decide (x < (l.length : Int))) = true → (((0 : Int) ≤ x ∧ Int.toNat x < l.length) ∧ (((((gtd ((0, 0) : TIns) l (Int.toNat x)).1) == (2 : Int)) = true → (i_InFlight_A4 K l (w64 (now1 + (1 : Int))) most x)) ∧ ((((gtd ((0, 0) : TIns) l (Int.toNat x)).1) == (2 : Int)) = false → (i_InFlight_A4 K l now1 most x))))) ∧ ((decide (x < (l.length : Int))) = false → K (i_InFlight_R most)))) : i_InFlight_A2 K l most now1 x :=
  Loop.of (by kernel_rfl) h
theorem i_InFlight_v0 (K : TRes → Prop) (l : List TIns) (h :
  (i_InFlight_A2 K l (0 : Int) (0 : Int) (0 : Int))) : Hold (tawp i_InFlight_G 0 i_InFlight_c (TQ 0 i_InFlight_rs K) (tstart [(.c (.sl [TI, TI]) l)])) :=
  Hold.of (by kernel_rfl) h
theorem i_InFlight_t (l : List TIns) (r : TRes) (h : Hold (tawp i_InFlight_G 0 i_InFlight_c (TQ 0 i_InFlight_rs fun r' => r' = r) (tstart [(.c (.sl [TI, TI]) l)]))) : TCon Try.prog 18 [(.c (.sl [TI, TI]) l)] r :=
  tcon_gen (sg := [(.c (.sl [TI, TI]))]) mixed TOk.nil i_InFlight_st (by kernel_rfl) (by kernel_rfl) (by kernel_rfl) h
theorem i_InFlight_h : i_InFlight_C := by
  intro l
  refine tcon_bd rfl fun hb => i_InFlight_t l _ (i_InFlight_v0 _ l ?_)
  have hl_l : l.length ≤ 9223372036854775807 := hb.1.1
  refine listLoop l (fun r k => ∀ n most : Int, -(k : Int) ≤ n → n ≤ k → flGo r n most = m_inFlight l → i_InFlight_A2 (fun r' => r' = i_InFlight_R (m_inFlight l)) l most n k) ?_ ?_ 0 0 (by omega) (by omega) rfl
  · intro n most _ _ he
    refine i_InFlight_v2 (fun r' => r' = i_InFlight_R (m_inFlight l)) l most _ _ ⟨fun h => by simp at h, fun _ => ?_⟩
    grind [flGo]
  · intro k x r hk hlt hg ih n most h1 h2 he
    refine i_InFlight_v2 (fun r' => r' = i_InFlight_R (m_inFlight l)) l most _ _ ⟨fun _ => ?_, fun h => by simp at h; omega⟩
    have e0 := w64_ok (x := (k : Int) + 1) (by omega) (by omega)
    have e1 : w64 (n + 1) = n + 1 := w64_ok (by omega) (by omega)
    have e2 : w64 (n - 1) = n - 1 := w64_ok (by omega) (by omega)
    simp only [flGo] at he
    rw [Int.toNat_natCast, hg]
    refine ⟨⟨by omega, hlt⟩, fun h => (i_InFlight_v4 (fun r' => r' = i_InFlight_R (m_inFlight l)) l _ most k ?_).h, fun h => (i_InFlight_v4 (fun r' => r' = i_InFlight_R (m_inFlight l)) l n most k ?_).h⟩ <;> rw [Int.toNat_natCast, hg] <;> grind

theorem i_InFlight_ok : TRowOk Try.prog i_InFlight_row := by
  intro vs pre r hf hr hp
  simp only [i_InFlight_row] at hr
  split at hr
  · rename_i a0; cases hr; exact i_InFlight_h a0
  · cases hr

def l_szIntS_n : FuncId := 34
def l_szIntS_R (t : Int) : TRes := ⟨(.c TI t), [], [], false⟩
def l_szIntS_row : TRow := ⟨34, [(.c (.sl [TI])), (.c TI)], fun
  | [.c (.sl [(.int .i64)]) a0, .c (.int .i64) a1] => some (some (p_sz (α := List Int) a0 a1), ⟨(.c TI (m_sz (α := List Int) a0 a1)), [], [], false⟩)
  | _ => none⟩
def l_szIntS_C : Prop := ∀ (x0 : List Int) (x1 : Int), (p_sz (α := List Int) x0 x1) → TCon Try.prog 34 [(.c (.sl [TI]) x0), (.c TI x1)] (l_szIntS_R (m_sz (α := List Int) x0 x1))

/-! laws.szIntS -/
def l_szIntS_G : List TRow := []
def l_szIntS_c : TCode :=
  (.seq (.reg [.op (some 4) (.mov (.k (.c TI (0 : Int))))])
 (.seq (.reg [.op (some 5) (.mov (.s 1)),
     .op (some 6) (.mov (.s 0)),
     .op (some 7) (.len (.s 6)),
     .op (some 8) (.bin .sub (.s 5) (.s 7)),
     .op (some 1) (.mov (.s 8))])
  (.seq (.seq (.reg [.op (some 9) (.mov (.s 1)),
       .op (some 10) (.bin .lss (.s 9) (.k (.c TI (0 : Int))))])
    (.cond (.s 10) (.seq (.reg [.op (some 4) (.mov (.k (.c TI (-1 : Int))))])
      .ret) .skip))
   (.seq (.reg [.op (some 11) (.mov (.s 1)),
       .op (some 4) (.mov (.s 11))])
    .ret))))
def l_szIntS_rs : List (ARv × Md) := [(.t 4, .one .d)]
theorem l_szIntS_st : compF Try.prog 34 = some (l_szIntS_c.er, l_szIntS_rs.map Prod.fst, 12) := by kernel_rfl
def l_szIntS_Q (K : TRes → Prop) : TPost := TQ 0 l_szIntS_rs K
theorem l_szIntS_v0 (K : TRes → Prop) (a : List Int) (left : Int) (h :
  (((decide ((w64 (left - (a.length : Int))) < (0 : Int))) = true → K (l_szIntS_R (-1 : Int))) ∧ ((decide ((w64 (left - (a.length : Int))) < (0 : Int))) = false → K (l_szIntS_R (w64 (left - (a.length : Int))))))) : Hold (tawp l_szIntS_G 0 l_szIntS_c (TQ 0 l_szIntS_rs K) (tstart [(.c (.sl [TI]) a), (.c TI left)])) :=
  Hold.of (by kernel_rfl) h
theorem l_szIntS_t (a : List Int) (left : Int) (r : TRes) (h : Hold (tawp l_szIntS_G 0 l_szIntS_c (TQ 0 l_szIntS_rs fun r' => r' = r) (tstart [(.c (.sl [TI]) a), (.c TI left)]))) : TCon Try.prog 34 [(.c (.sl [TI]) a), (.c TI left)] r :=
  tcon_gen (sg := [(.c (.sl [TI])), (.c TI)]) mixed TOk.nil l_szIntS_st (by kernel_rfl) (by kernel_rfl) (by kernel_rfl) h
theorem l_szIntS_h : l_szIntS_C := by
  intro a left hp
  refine tcon_bd rfl fun hb => l_szIntS_t a left _ (l_szIntS_v0 _ a left ?_)
  exact szFlat (Q := fun x => l_szIntS_R x = l_szIntS_R (m_sz (α := List Int) a left)) (fun _ => rfl) hp hb.1.1 rfl

theorem l_szIntS_ok : TRowOk Try.prog l_szIntS_row := by
  intro vs pre r hf hr hp
  simp only [l_szIntS_row] at hr
  split at hr
  · rename_i a0 a1; cases hr; exact l_szIntS_h a0 a1 hp
  · cases hr

def l_szItem_n : FuncId := 42
def l_szItem_R (t : Int) : TRes := ⟨(.c TI t), [], [], false⟩
def l_szItem_row : TRow := ⟨42, [(.a [TI, (.sl [TI])]), (.c TI)], fun
  | [.a [.c (.int .i64) a0_0, .c (.sl [(.int .i64)]) a0_1], .c (.int .i64) a1] => some (some (p_sz (α := TItem) (a0_0, a0_1) a1), ⟨(.c TI (m_sz (α := TItem) (a0_0, a0_1) a1)), [], [], false⟩)
  | _ => none⟩
def l_szItem_C : Prop := ∀ (x0 : TItem) (x1 : Int), (p_sz (α := TItem) x0 x1) → TCon Try.prog 42 [(.a [(.c TI x0.1), (.c (.sl [TI]) x0.2)]), (.c TI x1)] (l_szItem_R (m_sz (α := TItem) x0 x1))

/-! laws.szItem -/
def l_szItem_G : List TRow := [l_szIntS_row]
def l_szItem_c : TCode :=
  (.seq (.reg [.op (some 2) (.box 71 (.s 0) 2),
    .op (some 4) (.mov (.k (.c TI (0 : Int))))])
 (.seq (.reg [.op (some 5) (.fad (.s 2) 1),
     .op (some 6) (.load (.s 5) 1 false),
     .op (some 7) (.mov (.s 1)),
     .op (some 8) (.call 34 [(.s 6), (.s 7)]),
     .op (some 1) (.mov (.s 8))])
  (.seq (.seq (.reg [.op (some 9) (.mov (.s 1)),
       .op (some 10) (.bin .lss (.s 9) (.k (.c TI (0 : Int))))])
    (.cond (.s 10) (.seq (.reg [.op (some 4) (.mov (.k (.c TI (-1 : Int))))])
      .ret) .skip))
   (.seq (.reg [.op (some 11) (.mov (.s 1)),
       .op (some 4) (.mov (.s 11))])
    .ret))))
def l_szItem_rs : List (ARv × Md) := [(.t 4, .one .d)]
theorem l_szItem_st : compF Try.prog 42 = some (l_szItem_c.er, l_szItem_rs.map Prod.fst, 12) := by kernel_rfl
def l_szItem_Q (K : TRes → Prop) : TPost := TQ 0 l_szItem_rs K
theorem l_szItem_v0 (K : TRes → Prop) (a : TItem) (left : Int) (h :
  ((p_sz (α := List Int) a.2 left) ∧ (((decide ((m_sz (α := List Int) a.2 left) < (0 : Int))) = true → K (l_szItem_R (-1 : Int))) ∧ ((decide ((m_sz (α := List Int) a.2 left) < (0 : Int))) = false → K (l_szItem_R (m_sz (α := List Int) a.2 left)))))) : Hold (tawp l_szItem_G 0 l_szItem_c (TQ 0 l_szItem_rs K) (tstart [(.a [(.c TI a.1), (.c (.sl [TI]) a.2)]), (.c TI left)])) :=
  Hold.of (by kernel_rfl) h
theorem l_szItem_t (a : TItem) (left : Int) (r : TRes) (h : Hold (tawp l_szItem_G 0 l_szItem_c (TQ 0 l_szItem_rs fun r' => r' = r) (tstart [(.a [(.c TI a.1), (.c (.sl [TI]) a.2)]), (.c TI left)]))) : TCon Try.prog 42 [(.a [(.c TI a.1), (.c (.sl [TI]) a.2)]), (.c TI left)] r :=
  tcon_gen (sg := [(.a [TI, (.sl [TI])]), (.c TI)]) mixed (TOk.cons l_szIntS_ok TOk.nil) l_szItem_st (by kernel_rfl) (by kernel_rfl) (by kernel_rfl) h
theorem l_szItem_h : l_szItem_C := by
  intro a left hp
  refine tcon_bd rfl fun hb => l_szItem_t a left _ (l_szItem_v0 _ a left ?_)
  refine ⟨hp, fun h => R_eq (sz_neg (of_decide_eq_true h) (by simp only [sz_prod, sz_int, sz_bool]; omega) hp.1), fun h => ?_⟩
  exact R_eq (congrArg (m_szN · _) (by simp only [sz_prod, sz_int, sz_bool]; omega))

theorem l_szItem_ok : TRowOk Try.prog l_szItem_row := by
  intro vs pre r hf hr hp
  simp only [l_szItem_row] at hr
  split at hr
  · rename_i a0_0 a0_1 a1; cases hr; exact l_szItem_h (a0_0, a0_1) a1 hp
  · cases hr

def l_szItemS_n : FuncId := 37
def l_szItemS_R (t : Int) : TRes := ⟨(.c TI t), [], [], false⟩
def l_szItemS_row : TRow := ⟨37, [(.c (.sl [TI, (.sl [TI])])), (.c TI)], fun
  | [.c (.sl [(.int .i64), (.sl [(.int .i64)])]) a0, .c (.int .i64) a1] => some (some (p_sz (α := List TItem) a0 a1), ⟨(.c TI (m_sz (α := List TItem) a0 a1)), [], [], false⟩)
  | _ => none⟩
def l_szItemS_C : Prop := ∀ (x0 : List TItem) (x1 : Int), (p_sz (α := List TItem) x0 x1) → TCon Try.prog 37 [(.c (.sl [TI, (.sl [TI])]) x0), (.c TI x1)] (l_szItemS_R (m_sz (α := List TItem) x0 x1))

/-! laws.szItemS -/
def l_szItemS_G : List TRow := [l_szItem_row]
def l_szItemS_b2 : TCode :=
  (.seq (.seq (.reg [.op (some 12) (.mov (.s 5)),
     .op (some 13) (.mov (.s 0)),
     .op (some 14) (.len (.s 13)),
     .op (some 15) (.bin .lss (.s 12) (.s 14))])
  (.cond (.s 15) .skip (.exit 0)))
 (.seq (.block 1 (.seq (.reg [.op (some 18) (.mov (.s 0)),
       .op (some 19) (.mov (.s 5)),
       .op (some 20) (.iad (.s 18) (.s 19) [TI, (.sl [TI])]),
       .op (some 21) (.load (.s 20) 2 true),
       .op (some 22) (.mov (.s 1)),
       .op (some 23) (.call 42 [(.s 21), (.s 22)]),
       .op (some 1) (.mov (.s 23))])
    (.seq (.reg [.op (some 24) (.mov (.s 1)),
        .op (some 25) (.bin .lss (.s 24) (.k (.c TI (0 : Int))))])
     (.cond (.s 25) (.seq (.reg [.op (some 4) (.mov (.k (.c TI (-1 : Int))))])
       .ret) .skip))))
  (.reg [.op (some 16) (.mov (.s 5)),
     .op (some 17) (.bin .add (.s 16) (.k (.c TI (1 : Int)))),
     .op (some 5) (.mov (.s 17))])))
def l_szItemS_L2 : List (Nat × Md) := [(0, .one .d), (1, .one .d), (5, .one .d)]
def l_szItemS_y1 : TCode :=
  (.seq (.reg [.op (some 26) (.mov (.s 1)),
    .op (some 4) (.mov (.s 26))])
 .ret)
def l_szItemS_c : TCode :=
  (.seq (.reg [.op (some 4) (.mov (.k (.c TI (0 : Int))))])
 (.seq (.reg [.op (some 6) (.mov (.s 1)),
     .op (some 7) (.mov (.s 0)),
     .op (some 8) (.len (.s 7)),
     .op (some 9) (.bin .sub (.s 6) (.s 8)),
     .op (some 1) (.mov (.s 9))])
  (.seq (.seq (.reg [.op (some 10) (.mov (.s 1)),
       .op (some 11) (.bin .lss (.s 10) (.k (.c TI (0 : Int))))])
    (.cond (.s 11) (.seq (.reg [.op (some 4) (.mov (.k (.c TI (-1 : Int))))])
      .ret) .skip))
   (.seq (.seq (.reg [.op (some 5) (.mov (.k (.c TI (0 : Int))))])
     (.block 0 (.loop l_szItemS_L2 l_szItemS_b2)))
    l_szItemS_y1))))
def l_szItemS_rs : List (ARv × Md) := [(.t 4, .one .d)]
theorem l_szItemS_st : compF Try.prog 37 = some (l_szItemS_c.er, l_szItemS_rs.map Prod.fst, 27) := by kernel_rfl
def l_szItemS_Q (K : TRes → Prop) : TPost := TQ 0 l_szItemS_rs K
def l_szItemS_q1 (K : TRes → Prop) : TPost := Qseq (tawp l_szItemS_G 0 l_szItemS_y1 (l_szItemS_Q K)) (l_szItemS_Q K)
def l_szItemS_q2 (K : TRes → Prop) : TPost := Qblk 0 (l_szItemS_q1 K)
def l_szItemS_A2 (K : TRes → Prop) (a : List TItem) (left1 : Int) (i : Int) : Prop := Loop l_szItemS_G 0 l_szItemS_L2 l_szItemS_b2 (l_szItemS_q2 K) ⟨[(0, (.c (.sl [TI, (.sl [TI])]) a)), (1, (.c TI left1)), (5, (.c TI i))], [], 0⟩
theorem l_szItemS_v2 (K : TRes → Prop) (a : List TItem) (left1 : Int) (i : Int) (h :
  (((decide (i < (a.length : Int))) = true → ((((0 : Int) ≤ i ∧ Int.toNat i < a.length) ∧ (p_sz (α := TItem) (gtd ((0, []) : TItem) a (Int.toNat i)) left1)) ∧ (((decide ((m_sz (α := TItem) (gtd ((0, []) : TItem) a (Int.toNat i)) left1) < (0 : Int))) = true → K (l_szItemS_R (-1 : Int))) ∧ ((decide ((m_sz (α := TItem) (gtd ((0, []) : TItem) a (Int.toNat i)) left1) < (0 : Int))) = false → (l_szItemS_A2 K a (m_sz (α := TItem) (gtd ((0, []) : TItem) a (Int.toNat i)) left1) (w64 (i + (1 : Int)))))))) ∧ ((decide (i < (a.length : Int))) = false → K (l_szItemS_R left1)))) : l_szItemS_A2 K a left1 i :=
  Loop.of (by kernel_rfl) h
theorem l_szItemS_v0 (K : TRes → Prop) (a : List TItem) (left : Int) (h :
  (((decide ((w64 (left - (a.length : Int))) < (0 : Int))) = true → K (l_szItemS_R (-1 : Int))) ∧ ((decide ((w64 (left - (a.length : Int))) < (0 : Int))) = false → (l_szItemS_A2 K a (w64 (left - (a.length : Int))) (0 : Int))))) : Hold (tawp l_szItemS_G 0 l_szItemS_c (TQ 0 l_szItemS_rs K) (tstart [(.c (.sl [TI, (.sl [TI])]) a), (.c TI left)])) :=
  Hold.of (by kernel_rfl) h
theorem l_szItemS_t (a : List TItem) (left : Int) (r : TRes) (h : Hold (tawp l_szItemS_G 0 l_szItemS_c (TQ 0 l_szItemS_rs fun r' => r' = r) (tstart [(.c (.sl [TI, (.sl [TI])]) a), (.c TI left)]))) : TCon Try.prog 37 [(.c (.sl [TI, (.sl [TI])]) a), (.c TI left)] r :=
  tcon_gen (sg := [(.c (.sl [TI, (.sl [TI])])), (.c TI)]) mixed (TOk.cons l_szItem_ok TOk.nil) l_szItemS_st (by kernel_rfl) (by kernel_rfl) (by kernel_rfl) h
theorem l_szItemS_h : l_szItemS_C := by
  intro a left hp
  refine tcon_bd rfl fun hb => l_szItemS_t a left _ (l_szItemS_v0 _ a left ?_)
  exact szLoop (Q := fun x => l_szItemS_R x = l_szItemS_R (m_sz (α := List TItem) a left)) ((0, []) : TItem) hp hb.1.1 (fun l i h => l_szItemS_v2 _ a l i h) rfl

theorem l_szItemS_ok : TRowOk Try.prog l_szItemS_row := by
  intro vs pre r hf hr hp
  simp only [l_szItemS_row] at hr
  split at hr
  · rename_i a0 a1; cases hr; exact l_szItemS_h a0 a1 hp
  · cases hr

def l_szQueue_n : FuncId := 25
def l_szQueue_R (t : Int) : TRes := ⟨(.c TI t), [], [], false⟩
def l_szQueue_row : TRow := ⟨25, [(.a [TI, (.sl [TI, (.sl [TI])])]), (.c TI)], fun
  | [.a [.c (.int .i64) a0_0, .c (.sl [(.int .i64), (.sl [(.int .i64)])]) a0_1], .c (.int .i64) a1] => some (some (p_sz (α := TQueue) (a0_0, a0_1) a1), ⟨(.c TI (m_sz (α := TQueue) (a0_0, a0_1) a1)), [], [], false⟩)
  | _ => none⟩
def l_szQueue_C : Prop := ∀ (x0 : TQueue) (x1 : Int), (p_sz (α := TQueue) x0 x1) → TCon Try.prog 25 [(.a [(.c TI x0.1), (.c (.sl [TI, (.sl [TI])]) x0.2)]), (.c TI x1)] (l_szQueue_R (m_sz (α := TQueue) x0 x1))

/-! laws.szQueue -/
def l_szQueue_G : List TRow := [l_szItemS_row]
def l_szQueue_c : TCode :=
  (.seq (.reg [.op (some 2) (.box 44 (.s 0) 2),
    .op (some 4) (.mov (.k (.c TI (0 : Int))))])
 (.seq (.reg [.op (some 5) (.fad (.s 2) 1),
     .op (some 6) (.load (.s 5) 1 false),
     .op (some 7) (.mov (.s 1)),
     .op (some 8) (.call 37 [(.s 6), (.s 7)]),
     .op (some 1) (.mov (.s 8))])
  (.seq (.seq (.reg [.op (some 9) (.mov (.s 1)),
       .op (some 10) (.bin .lss (.s 9) (.k (.c TI (0 : Int))))])
    (.cond (.s 10) (.seq (.reg [.op (some 4) (.mov (.k (.c TI (-1 : Int))))])
      .ret) .skip))
   (.seq (.reg [.op (some 11) (.mov (.s 1)),
       .op (some 4) (.mov (.s 11))])
    .ret))))
def l_szQueue_rs : List (ARv × Md) := [(.t 4, .one .d)]
theorem l_szQueue_st : compF Try.prog 25 = some (l_szQueue_c.er, l_szQueue_rs.map Prod.fst, 12) := by kernel_rfl
def l_szQueue_Q (K : TRes → Prop) : TPost := TQ 0 l_szQueue_rs K
theorem l_szQueue_v0 (K : TRes → Prop) (a : TQueue) (left : Int) (h :
  ((p_sz (α := List TItem) a.2 left) ∧ (((decide ((m_sz (α := List TItem) a.2 left) < (0 : Int))) = true → K (l_szQueue_R (-1 : Int))) ∧ ((decide ((m_sz (α := List TItem) a.2 left) < (0 : Int))) = false → K (l_szQueue_R (m_sz (α := List TItem) a.2 left)))))) : Hold (tawp l_szQueue_G 0 l_szQueue_c (TQ 0 l_szQueue_rs K) (tstart [(.a [(.c TI a.1), (.c (.sl [TI, (.sl [TI])]) a.2)]), (.c TI left)])) :=
  Hold.of (by kernel_rfl) h
theorem l_szQueue_t (a : TQueue) (left : Int) (r : TRes) (h : Hold (tawp l_szQueue_G 0 l_szQueue_c (TQ 0 l_szQueue_rs fun r' => r' = r) (tstart [(.a [(.c TI a.1), (.c (.sl [TI, (.sl [TI])]) a.2)]), (.c TI left)]))) : TCon Try.prog 25 [(.a [(.c TI a.1), (.c (.sl [TI, (.sl [TI])]) a.2)]), (.c TI left)] r :=
  tcon_gen (sg := [(.a [TI, (.sl [TI, (.sl [TI])])]), (.c TI)]) mixed (TOk.cons l_szItemS_ok TOk.nil) l_szQueue_st (by kernel_rfl) (by kernel_rfl) (by kernel_rfl) h
theorem l_szQueue_h : l_szQueue_C := by
  intro a left hp
  refine tcon_bd rfl fun hb => l_szQueue_t a left _ (l_szQueue_v0 _ a left ?_)
  refine ⟨hp, fun h => R_eq (sz_neg (of_decide_eq_true h) (by simp only [sz_prod, sz_int, sz_bool]; omega) hp.1), fun h => ?_⟩
  exact R_eq (congrArg (m_szN · _) (by simp only [sz_prod, sz_int, sz_bool]; omega))

theorem l_szQueue_ok : TRowOk Try.prog l_szQueue_row := by
  intro vs pre r hf hr hp
  simp only [l_szQueue_row] at hr
  split at hr
  · rename_i a0_0 a0_1 a1; cases hr; exact l_szQueue_h (a0_0, a0_1) a1 hp
  · cases hr

def l_toIntS_n : FuncId := 35
def l_toIntS_R (t : (List Int)) : TRes := ⟨(.c (.sl [TI]) t), [], [], true⟩
def l_toIntS_row : TRow := ⟨35, [(.c (.sl [TI]))], fun
  | [.c (.sl [(.int .i64)]) a0] => some (some (p_to (α := List Int) a0), ⟨(.c (.sl [TI]) (id (α := List Int) a0)), [], [], true⟩)
  | _ => none⟩
def l_toIntS_C : Prop := ∀ (x0 : List Int), (p_to (α := List Int) x0) → TCon Try.prog 35 [(.c (.sl [TI]) x0)] (l_toIntS_R (id (α := List Int) x0))

/-! laws.toIntS -/
def l_toIntS_G : List TRow := []
def l_toIntS_b2 : TCode :=
  (.seq (.seq (.reg [.op (some 8) (.mov (.s 4)),
     .op (some 9) (.mov (.s 0)),
     .op (some 10) (.len (.s 9)),
     .op (some 11) (.bin .lss (.s 8) (.s 10))])
  (.cond (.s 11) .skip (.exit 0)))
 (.seq (.block 1 (.reg [.op (some 14) (.mov (.s 3)),
      .op (some 15) (.mov (.s 4)),
      .op (some 16) (.mov (.s 0)),
      .op (some 17) (.mov (.s 4)),
      .op (some 18) (.iad (.s 16) (.s 17) [TI]),
      .op (some 19) (.load (.s 18) 1 false),
      .op (some 20) (.iad (.s 14) (.s 15) [TI]),
      .op none (.store (.s 20) (.s 19) 1)]))
  (.reg [.op (some 12) (.mov (.s 4)),
     .op (some 13) (.bin .add (.s 12) (.k (.c TI (1 : Int)))),
     .op (some 4) (.mov (.s 13))])))
def l_toIntS_L2 : List (Nat × Md) := [(0, .one .d), (3, .one .f), (4, .one .d)]
def l_toIntS_y1 : TCode :=
  (.seq (.reg [.op (some 21) (.mov (.s 3)),
    .op (some 2) (.mov (.s 21))])
 .ret)
def l_toIntS_c : TCode :=
  (.seq (.reg [.op (some 2) (.mov (.k (.n [TI])))])
 (.seq (.reg [.op (some 5) (.mov (.s 0)),
     .op (some 6) (.len (.s 5)),
     .op (some 7) (.mk 3 [TI] [(.c TI (0 : Int))] (.s 6)),
     .op (some 3) (.mov (.s 7))])
  (.seq (.seq (.reg [.op (some 4) (.mov (.k (.c TI (0 : Int))))])
    (.block 0 (.loop l_toIntS_L2 l_toIntS_b2)))
   l_toIntS_y1)))
def l_toIntS_rs : List (ARv × Md) := [(.t 2, .one .d)]
theorem l_toIntS_st : compF Try.prog 35 = some (l_toIntS_c.er, l_toIntS_rs.map Prod.fst, 22) := by kernel_rfl
def l_toIntS_Q (K : TRes → Prop) : TPost := TQ 0 l_toIntS_rs K
def l_toIntS_q1 (K : TRes → Prop) : TPost := Qseq (tawp l_toIntS_G 0 l_toIntS_y1 (l_toIntS_Q K)) (l_toIntS_Q K)
def l_toIntS_q2 (K : TRes → Prop) : TPost := Qblk 0 (l_toIntS_q1 K)
def l_toIntS_A2 (K : TRes → Prop) (a : List Int) (i : Int) (out : List Int) : Prop := Loop l_toIntS_G 0 l_toIntS_L2 l_toIntS_b2 (l_toIntS_q2 K) ⟨[(0, (.c (.sl [TI]) a)), (3, (.r [TI] 0 0 out.length)), (4, (.c TI i))], [(0, (.sl 3 [TI] true out))], 1⟩
theorem l_toIntS_v2 (K : TRes → Prop) (a : List Int) (i : Int) (out : List Int) (h :
  (((decide (i < (a.length : Int))) = true → ((((0 : Int) ≤ i ∧ Int.toNat i < a.length) ∧ (((0 : Int) ≤ i ∧ Int.toNat i < out.length) ∧ ((0 + (Int.toNat i)) < out.length))) ∧ (l_toIntS_A2 K a (w64 (i + (1 : Int))) (List.take out.length ((out).set (0 + (Int.toNat i)) (gtd (0 : Int) a (Int.toNat i))))))) ∧ ((decide (i < (a.length : Int))) = false → K (l_toIntS_R (List.take out.length (List.drop 0 out)))))) : l_toIntS_A2 K a i out :=
  Loop.of (by kernel_rfl) h
theorem l_toIntS_v0 (K : TRes → Prop) (a : List Int) (h :
  (((0 : Int) ≤ (a.length : Int) ∧ (a.length : Int) ≤ big) ∧ (l_toIntS_A2 K a (0 : Int) (List.take (Int.toNat (a.length : Int)) (List.replicate (Int.toNat (a.length : Int)) (0 : Int)))))) : Hold (tawp l_toIntS_G 0 l_toIntS_c (TQ 0 l_toIntS_rs K) (tstart [(.c (.sl [TI]) a)])) :=
  Hold.of (by kernel_rfl) h
theorem l_toIntS_t (a : List Int) (r : TRes) (h : Hold (tawp l_toIntS_G 0 l_toIntS_c (TQ 0 l_toIntS_rs fun r' => r' = r) (tstart [(.c (.sl [TI]) a)]))) : TCon Try.prog 35 [(.c (.sl [TI]) a)] r :=
  tcon_gen (sg := [(.c (.sl [TI]))]) mixed TOk.nil l_toIntS_st (by kernel_rfl) (by kernel_rfl) (by kernel_rfl) h
theorem l_toIntS_h : l_toIntS_C := by
  intro a hp
  refine tcon_bd rfl fun hb => l_toIntS_t a _ (l_toIntS_v0 _ a ?_)
  exact toFlat (Q := fun x => l_toIntS_R x = l_toIntS_R (id (α := List Int) a)) (0 : Int) hp (fun i out h => l_toIntS_v2 _ a i out h) rfl

theorem l_toIntS_ok : TRowOk Try.prog l_toIntS_row := by
  intro vs pre r hf hr hp
  simp only [l_toIntS_row] at hr
  split at hr
  · rename_i a0; cases hr; exact l_toIntS_h a0 hp
  · cases hr

def l_toItem_n : FuncId := 44
def l_toItem_R (t : TItem) : TRes := ⟨(.a [(.c TI t.1), (.c (.sl [TI]) t.2)]), [], [], true⟩
def l_toItem_row : TRow := ⟨44, [(.a [TI, (.sl [TI])])], fun
  | [.a [.c (.int .i64) a0_0, .c (.sl [(.int .i64)]) a0_1]] => some (some (p_to (α := TItem) (a0_0, a0_1)), ⟨(.a [(.c TI ((id (α := TItem) (a0_0, a0_1)).1)), (.c (.sl [TI]) ((id (α := TItem) (a0_0, a0_1)).2))]), [], [], true⟩)
  | _ => none⟩
def l_toItem_C : Prop := ∀ (x0 : TItem), (p_to (α := TItem) x0) → TCon Try.prog 44 [(.a [(.c TI x0.1), (.c (.sl [TI]) x0.2)])] (l_toItem_R (id (α := TItem) x0))

/-! laws.toItem -/
def l_toItem_G : List TRow := [l_toIntS_row]
def l_toItem_c : TCode :=
  (.seq (.reg [.op (some 1) (.box 71 (.s 0) 2),
    .op (some 2) (.new 66 [(.c TI (0 : Int)), (.n [TI])])])
 (.seq (.reg [.op (some 3) (.new 66 [(.c TI (0 : Int)), (.n [TI])])])
  (.seq (.reg [.op (some 4) (.fad (.s 1) 0),
      .op (some 5) (.load (.s 4) 1 false),
      .op (some 6) (.fad (.s 3) 0),
      .op none (.store (.s 6) (.s 5) 1)])
   (.seq (.reg [.op (some 7) (.fad (.s 1) 1),
       .op (some 8) (.load (.s 7) 1 false),
       .op (some 9) (.call 35 [(.s 8)]),
       .op (some 10) (.fad (.s 3) 1),
       .op none (.store (.s 10) (.s 9) 1)])
    (.seq (.reg [.op (some 11) (.load (.s 3) 2 true),
        .op none (.store (.s 2) (.s 11) 2)])
     .ret)))))
def l_toItem_rs : List (ARv × Md) := [(.l 2 2 true, .b [.d, .d])]
theorem l_toItem_st : compF Try.prog 44 = some (l_toItem_c.er, l_toItem_rs.map Prod.fst, 12) := by kernel_rfl
def l_toItem_Q (K : TRes → Prop) : TPost := TQ 0 l_toItem_rs K
theorem l_toItem_v0 (K : TRes → Prop) (a : TItem) (h :
  ((p_to (α := List Int) a.2) ∧ K (l_toItem_R (a.1, (id (α := List Int) a.2))))) : Hold (tawp l_toItem_G 0 l_toItem_c (TQ 0 l_toItem_rs K) (tstart [(.a [(.c TI a.1), (.c (.sl [TI]) a.2)])])) :=
  Hold.of (by kernel_rfl) h
theorem l_toItem_t (a : TItem) (r : TRes) (h : Hold (tawp l_toItem_G 0 l_toItem_c (TQ 0 l_toItem_rs fun r' => r' = r) (tstart [(.a [(.c TI a.1), (.c (.sl [TI]) a.2)])]))) : TCon Try.prog 44 [(.a [(.c TI a.1), (.c (.sl [TI]) a.2)])] r :=
  tcon_gen (sg := [(.a [TI, (.sl [TI])])]) mixed (TOk.cons l_toIntS_ok TOk.nil) l_toItem_st (by kernel_rfl) (by kernel_rfl) (by kernel_rfl) h
theorem l_toItem_h : l_toItem_C := by
  intro a hp
  refine tcon_bd rfl fun hb => l_toItem_t a _ (l_toItem_v0 _ a ?_)
  repeat' (first | exact rfl | refine And.intro ?_ ?_)
  all_goals (simp only [p_to, sz_prod, sz_int, sz_bool] at hp ⊢; omega)

theorem l_toItem_ok : TRowOk Try.prog l_toItem_row := by
  intro vs pre r hf hr hp
  simp only [l_toItem_row] at hr
  split at hr
  · rename_i a0_0 a0_1; cases hr; exact l_toItem_h (a0_0, a0_1) hp
  · cases hr

def l_toItemS_n : FuncId := 39
def l_toItemS_R (t : (List TItem)) : TRes := ⟨(.c (.sl [TI, (.sl [TI])]) t), [], [], true⟩
def l_toItemS_row : TRow := ⟨39, [(.c (.sl [TI, (.sl [TI])]))], fun
  | [.c (.sl [(.int .i64), (.sl [(.int .i64)])]) a0] => some (some (p_to (α := List TItem) a0), ⟨(.c (.sl [TI, (.sl [TI])]) (id (α := List TItem) a0)), [], [], true⟩)
  | _ => none⟩
def l_toItemS_C : Prop := ∀ (x0 : List TItem), (p_to (α := List TItem) x0) → TCon Try.prog 39 [(.c (.sl [TI, (.sl [TI])]) x0)] (l_toItemS_R (id (α := List TItem) x0))

/-! laws.toItemS -/
def l_toItemS_G : List TRow := [l_toItem_row]
def l_toItemS_b2 : TCode :=
  (.seq (.seq (.reg [.op (some 8) (.mov (.s 4)),
     .op (some 9) (.mov (.s 0)),
     .op (some 10) (.len (.s 9)),
     .op (some 11) (.bin .lss (.s 8) (.s 10))])
  (.cond (.s 11) .skip (.exit 0)))
 (.seq (.block 1 (.reg [.op (some 14) (.mov (.s 3)),
      .op (some 15) (.mov (.s 4)),
      .op (some 16) (.mov (.s 0)),
      .op (some 17) (.mov (.s 4)),
      .op (some 18) (.iad (.s 16) (.s 17) [TI, (.sl [TI])]),
      .op (some 19) (.load (.s 18) 2 true),
      .op (some 20) (.call 44 [(.s 19)]),
      .op (some 21) (.iad (.s 14) (.s 15) [TI, (.sl [TI])]),
      .op none (.store (.s 21) (.s 20) 2)]))
  (.reg [.op (some 12) (.mov (.s 4)),
     .op (some 13) (.bin .add (.s 12) (.k (.c TI (1 : Int)))),
     .op (some 4) (.mov (.s 13))])))
def l_toItemS_L2 : List (Nat × Md) := [(0, .one .d), (3, .one .f), (4, .one .d)]
def l_toItemS_y1 : TCode :=
  (.seq (.reg [.op (some 22) (.mov (.s 3)),
    .op (some 2) (.mov (.s 22))])
 .ret)
def l_toItemS_c : TCode :=
  (.seq (.reg [.op (some 2) (.mov (.k (.n [TI, (.sl [TI])])))])
 (.seq (.reg [.op (some 5) (.mov (.s 0)),
     .op (some 6) (.len (.s 5)),
     .op (some 7) (.mk 66 [TI, (.sl [TI])] [(.c TI (0 : Int)), (.n [TI])] (.s 6)),
     .op (some 3) (.mov (.s 7))])
  (.seq (.seq (.reg [.op (some 4) (.mov (.k (.c TI (0 : Int))))])
    (.block 0 (.loop l_toItemS_L2 l_toItemS_b2)))
   l_toItemS_y1)))
def l_toItemS_rs : List (ARv × Md) := [(.t 2, .one .d)]
theorem l_toItemS_st : compF Try.prog 39 = some (l_toItemS_c.er, l_toItemS_rs.map Prod.fst, 23) := by kernel_rfl
def l_toItemS_Q (K : TRes → Prop) : TPost := TQ 0 l_toItemS_rs K
def l_toItemS_q1 (K : TRes → Prop) : TPost := Qseq (tawp l_toItemS_G 0 l_toItemS_y1 (l_toItemS_Q K)) (l_toItemS_Q K)
def l_toItemS_q2 (K : TRes → Prop) : TPost := Qblk 0 (l_toItemS_q1 K)
def l_toItemS_A2 (K : TRes → Prop) (a : List TItem) (i : Int) (out : List TItem) : Prop := Loop l_toItemS_G 0 l_toItemS_L2 l_toItemS_b2 (l_toItemS_q2 K) ⟨[(0, (.c (.sl [TI, (.sl [TI])]) a)), (3, (.r [TI, (.sl [TI])] 0 0 out.length)), (4, (.c TI i))], [(0, (.sl 66 [TI, (.sl [TI])] true out))], 1⟩
theorem l_toItemS_v2 (K : TRes → Prop) (a : List TItem) (i : Int) (out : List TItem) (h :
  (((decide (i < (a.length : Int))) = true → ((((0 : Int) ≤ i ∧ Int.toNat i < a.length) ∧ ((p_to (α := TItem) (gtd ((0, []) : TItem) a (Int.toNat i))) ∧ (((0 : Int) ≤ i ∧ Int.toNat i < out.length) ∧ ((0 + (Int.toNat i)) < out.length)))) ∧ (l_toItemS_A2 K a (w64 (i + (1 : Int))) (List.take out.length ((out).set (0 + (Int.toNat i)) (id (α := TItem) (gtd ((0, []) : TItem) a (Int.toNat i)))))))) ∧ ((decide (i < (a.length : Int))) = false → K (l_toItemS_R (List.take out.length (List.drop 0 out)))))) : l_toItemS_A2 K a i out :=
  Loop.of (by kernel_rfl) h
theorem l_toItemS_v0 (K : TRes → Prop) (a : List TItem) (h :
  (((0 : Int) ≤ (a.length : Int) ∧ (a.length : Int) ≤ big) ∧ (l_toItemS_A2 K a (0 : Int) (List.take (Int.toNat (a.length : Int)) (List.replicate (Int.toNat (a.length : Int)) ((0 : Int), [])))))) : Hold (tawp l_toItemS_G 0 l_toItemS_c (TQ 0 l_toItemS_rs K) (tstart [(.c (.sl [TI, (.sl [TI])]) a)])) :=
  Hold.of (by kernel_rfl) h
theorem l_toItemS_t (a : List TItem) (r : TRes) (h : Hold (tawp l_toItemS_G 0 l_toItemS_c (TQ 0 l_toItemS_rs fun r' => r' = r) (tstart [(.c (.sl [TI, (.sl [TI])]) a)]))) : TCon Try.prog 39 [(.c (.sl [TI, (.sl [TI])]) a)] r :=
  tcon_gen (sg := [(.c (.sl [TI, (.sl [TI])]))]) mixed (TOk.cons l_toItem_ok TOk.nil) l_toItemS_st (by kernel_rfl) (by kernel_rfl) (by kernel_rfl) h
theorem l_toItemS_h : l_toItemS_C := by
  intro a hp
  refine tcon_bd rfl fun hb => l_toItemS_t a _ (l_toItemS_v0 _ a ?_)
  exact toLoop (Q := fun x => l_toItemS_R x = l_toItemS_R (id (α := List TItem) a)) ((0, []) : TItem) hp (fun i out h => l_toItemS_v2 _ a i out h) rfl

theorem l_toItemS_ok : TRowOk Try.prog l_toItemS_row := by
  intro vs pre r hf hr hp
  simp only [l_toItemS_row] at hr
  split at hr
  · rename_i a0; cases hr; exact l_toItemS_h a0 hp
  · cases hr

def l_toQueue_n : FuncId := 27
def l_toQueue_R (t : TQueue) : TRes := ⟨(.a [(.c TI t.1), (.c (.sl [TI, (.sl [TI])]) t.2)]), [], [], true⟩
def l_toQueue_row : TRow := ⟨27, [(.a [TI, (.sl [TI, (.sl [TI])])])], fun
  | [.a [.c (.int .i64) a0_0, .c (.sl [(.int .i64), (.sl [(.int .i64)])]) a0_1]] => some (some (p_to (α := TQueue) (a0_0, a0_1)), ⟨(.a [(.c TI ((id (α := TQueue) (a0_0, a0_1)).1)), (.c (.sl [TI, (.sl [TI])]) ((id (α := TQueue) (a0_0, a0_1)).2))]), [], [], true⟩)
  | _ => none⟩
def l_toQueue_C : Prop := ∀ (x0 : TQueue), (p_to (α := TQueue) x0) → TCon Try.prog 27 [(.a [(.c TI x0.1), (.c (.sl [TI, (.sl [TI])]) x0.2)])] (l_toQueue_R (id (α := TQueue) x0))

/-! laws.toQueue -/
def l_toQueue_G : List TRow := [l_toItemS_row]
def l_toQueue_c : TCode :=
  (.seq (.reg [.op (some 1) (.box 44 (.s 0) 2),
    .op (some 2) (.new 49 [(.c TI (0 : Int)), (.n [TI, (.sl [TI])])])])
 (.seq (.reg [.op (some 3) (.new 49 [(.c TI (0 : Int)), (.n [TI, (.sl [TI])])])])
  (.seq (.reg [.op (some 4) (.fad (.s 1) 0),
      .op (some 5) (.load (.s 4) 1 false),
      .op (some 6) (.fad (.s 3) 0),
      .op none (.store (.s 6) (.s 5) 1)])
   (.seq (.reg [.op (some 7) (.fad (.s 1) 1),
       .op (some 8) (.load (.s 7) 1 false),
       .op (some 9) (.call 39 [(.s 8)]),
       .op (some 10) (.fad (.s 3) 1),
       .op none (.store (.s 10) (.s 9) 1)])
    (.seq (.reg [.op (some 11) (.load (.s 3) 2 true),
        .op none (.store (.s 2) (.s 11) 2)])
     .ret)))))
def l_toQueue_rs : List (ARv × Md) := [(.l 2 2 true, .b [.d, .d])]
theorem l_toQueue_st : compF Try.prog 27 = some (l_toQueue_c.er, l_toQueue_rs.map Prod.fst, 12) := by kernel_rfl
def l_toQueue_Q (K : TRes → Prop) : TPost := TQ 0 l_toQueue_rs K
theorem l_toQueue_v0 (K : TRes → Prop) (a : TQueue) (h :
  ((p_to (α := List TItem) a.2) ∧ K (l_toQueue_R (a.1, (id (α := List TItem) a.2))))) : Hold (tawp l_toQueue_G 0 l_toQueue_c (TQ 0 l_toQueue_rs K) (tstart [(.a [(.c TI a.1), (.c (.sl [TI, (.sl [TI])]) a.2)])])) :=
  Hold.of (by kernel_rfl) h
theorem l_toQueue_t (a : TQueue) (r : TRes) (h : Hold (tawp l_toQueue_G 0 l_toQueue_c (TQ 0 l_toQueue_rs fun r' => r' = r) (tstart [(.a [(.c TI a.1), (.c (.sl [TI, (.sl [TI])]) a.2)])]))) : TCon Try.prog 27 [(.a [(.c TI a.1), (.c (.sl [TI, (.sl [TI])]) a.2)])] r :=
  tcon_gen (sg := [(.a [TI, (.sl [TI, (.sl [TI])])])]) mixed (TOk.cons l_toItemS_ok TOk.nil) l_toQueue_st (by kernel_rfl) (by kernel_rfl) (by kernel_rfl) h
theorem l_toQueue_h : l_toQueue_C := by
  intro a hp
  refine tcon_bd rfl fun hb => l_toQueue_t a _ (l_toQueue_v0 _ a ?_)
  repeat' (first | exact rfl | refine And.intro ?_ ?_)
  all_goals (simp only [p_to, sz_prod, sz_int, sz_bool] at hp ⊢; omega)

theorem l_toQueue_ok : TRowOk Try.prog l_toQueue_row := by
  intro vs pre r hf hr hp
  simp only [l_toQueue_row] at hr
  split at hr
  · rename_i a0_0 a0_1; cases hr; exact l_toQueue_h (a0_0, a0_1) hp
  · cases hr

def l_eqIntS_n : FuncId := 36
def l_eqIntS_R (t : Bool) : TRes := ⟨(.c .bool t), [], [], false⟩
def l_eqIntS_row : TRow := ⟨36, [(.c (.sl [TI])), (.c (.sl [TI]))], fun
  | [.c (.sl [(.int .i64)]) a0, .c (.sl [(.int .i64)]) a1] => some (none, ⟨(.c .bool (m_eq (α := List Int) a0 a1)), [], [], false⟩)
  | _ => none⟩
def l_eqIntS_C : Prop := ∀ (x0 : List Int) (x1 : List Int), TCon Try.prog 36 [(.c (.sl [TI]) x0), (.c (.sl [TI]) x1)] (l_eqIntS_R (m_eq (α := List Int) x0 x1))

/-! laws.eqIntS -/
def l_eqIntS_G : List TRow := []
def l_eqIntS_b2 : TCode :=
  (.seq (.seq (.reg [.op (some 11) (.mov (.s 5)),
     .op (some 12) (.mov (.s 0)),
     .op (some 13) (.len (.s 12)),
     .op (some 14) (.bin .lss (.s 11) (.s 13))])
  (.cond (.s 14) .skip (.exit 0)))
 (.seq (.block 1 (.seq (.draw [.op (some 17) (.mov (.s 0)),
       .op (some 18) (.mov (.s 5)),
       .op (some 19) (.iad (.s 17) (.s 18) [TI]),
       .op (some 20) (.load (.s 19) 1 false),
       .op (some 21) (.mov (.s 1)),
       .op (some 22) (.mov (.s 5)),
       .op (some 23) (.iad (.s 21) (.s 22) [TI]),
       .op (some 24) (.load (.s 23) 1 false),
       .op (some 25) (.bin .neq (.s 20) (.s 24))] [])
    (.cond (.s 25) (.seq (.reg [.op (some 4) (.mov (.k (.c .bool false)))])
      .ret) .skip)))
  (.reg [.op (some 15) (.mov (.s 5)),
     .op (some 16) (.bin .add (.s 15) (.k (.c TI (1 : Int)))),
     .op (some 5) (.mov (.s 16))])))
def l_eqIntS_L2 : List (Nat × Md) := [(0, .one .d), (1, .one .d), (5, .one .d)]
def l_eqIntS_y1 : TCode :=
  (.seq (.reg [.op (some 4) (.mov (.k (.c .bool true)))])
 .ret)
def l_eqIntS_c : TCode :=
  (.seq (.reg [.op (some 4) (.mov (.k (.c .bool false)))])
 (.seq (.seq (.reg [.op (some 6) (.mov (.s 0)),
      .op (some 7) (.len (.s 6)),
      .op (some 8) (.mov (.s 1)),
      .op (some 9) (.len (.s 8)),
      .op (some 10) (.bin .neq (.s 7) (.s 9))])
   (.cond (.s 10) (.seq (.reg [.op (some 4) (.mov (.k (.c .bool false)))])
     .ret) .skip))
  (.seq (.seq (.reg [.op (some 5) (.mov (.k (.c TI (0 : Int))))])
    (.block 0 (.loop l_eqIntS_L2 l_eqIntS_b2)))
   l_eqIntS_y1)))
def l_eqIntS_rs : List (ARv × Md) := [(.t 4, .one .d)]
theorem l_eqIntS_st : compF Try.prog 36 = some (l_eqIntS_c.er, l_eqIntS_rs.map Prod.fst, 26) := by kernel_rfl
def l_eqIntS_Q (K : TRes → Prop) : TPost := TQ 0 l_eqIntS_rs K
def l_eqIntS_q1 (K : TRes → Prop) : TPost := Qseq (tawp l_eqIntS_G 0 l_eqIntS_y1 (l_eqIntS_Q K)) (l_eqIntS_Q K)
def l_eqIntS_q2 (K : TRes → Prop) : TPost := Qblk 0 (l_eqIntS_q1 K)
def l_eqIntS_A2 (K : TRes → Prop) (a : List Int) (b : List Int) (i : Int) : Prop := Loop l_eqIntS_G 0 l_eqIntS_L2 l_eqIntS_b2 (l_eqIntS_q2 K) ⟨[(0, (.c (.sl [TI]) a)), (1, (.c (.sl [TI]) b)), (5, (.c TI i))], [], 0⟩
theorem l_eqIntS_v2 (K : TRes → Prop) (a : List Int) (b : List Int) (i : Int) (h :
  (((decide (i < (a.length : Int))) = true → ((((0 : Int) ≤ i ∧ Int.toNat i < a.length) ∧ ((0 : Int) ≤ i ∧ Int.toNat i < b.length)) ∧ ((((gtd (0 : Int) a (Int.toNat i)) != (gtd (0 : Int) b (Int.toNat i))) = true → K (l_eqIntS_R false)) ∧ (((gtd (0 : Int) a (Int.toNat i)) != (gtd (0 : Int) b (Int.toNat i))) = false → (l_eqIntS_A2 K a b (w64 (i + (1 : Int)))))))) ∧ ((decide (i < (a.length : Int))) = false → K (l_eqIntS_R true)))) : l_eqIntS_A2 K a b i :=
  Loop.of (by kernel_rfl) h
theorem l_eqIntS_v0 (K : TRes → Prop) (a : List Int) (b : List Int) (h :
  ((((a.length : Int) != (b.length : Int)) = true → K (l_eqIntS_R false)) ∧ (((a.length : Int) != (b.length : Int)) = false → (l_eqIntS_A2 K a b (0 : Int))))) : Hold (tawp l_eqIntS_G 0 l_eqIntS_c (TQ 0 l_eqIntS_rs K) (tstart [(.c (.sl [TI]) a), (.c (.sl [TI]) b)])) :=
  Hold.of (by kernel_rfl) h
theorem l_eqIntS_t (a : List Int) (b : List Int) (r : TRes) (h : Hold (tawp l_eqIntS_G 0 l_eqIntS_c (TQ 0 l_eqIntS_rs fun r' => r' = r) (tstart [(.c (.sl [TI]) a), (.c (.sl [TI]) b)]))) : TCon Try.prog 36 [(.c (.sl [TI]) a), (.c (.sl [TI]) b)] r :=
  tcon_gen (sg := [(.c (.sl [TI])), (.c (.sl [TI]))]) mixed TOk.nil l_eqIntS_st (by kernel_rfl) (by kernel_rfl) (by kernel_rfl) h
theorem l_eqIntS_h : l_eqIntS_C := by
  intro a b
  refine tcon_bd rfl fun hb => l_eqIntS_t a b _ (l_eqIntS_v0 _ a b ?_)
  exact eqFlatInt hb.1.1 (fun i h => l_eqIntS_v2 _ a b i h) (Q := fun x => l_eqIntS_R x = l_eqIntS_R (m_eq (α := List Int) a b)) rfl

theorem l_eqIntS_ok : TRowOk Try.prog l_eqIntS_row := by
  intro vs pre r hf hr hp
  simp only [l_eqIntS_row] at hr
  split at hr
  · rename_i a0 a1; cases hr; exact l_eqIntS_h a0 a1
  · cases hr

def l_eqItem_n : FuncId := 46
def l_eqItem_R (t : Bool) : TRes := ⟨(.c .bool t), [], [], false⟩
def l_eqItem_row : TRow := ⟨46, [(.a [TI, (.sl [TI])]), (.a [TI, (.sl [TI])])], fun
  | [.a [.c (.int .i64) a0_0, .c (.sl [(.int .i64)]) a0_1], .a [.c (.int .i64) a1_0, .c (.sl [(.int .i64)]) a1_1]] => some (none, ⟨(.c .bool (m_eq (α := TItem) (a0_0, a0_1) (a1_0, a1_1))), [], [], false⟩)
  | _ => none⟩
def l_eqItem_C : Prop := ∀ (x0 : TItem) (x1 : TItem), TCon Try.prog 46 [(.a [(.c TI x0.1), (.c (.sl [TI]) x0.2)]), (.a [(.c TI x1.1), (.c (.sl [TI]) x1.2)])] (l_eqItem_R (m_eq (α := TItem) x0 x1))

/-! laws.eqItem -/
def l_eqItem_G : List TRow := [l_eqIntS_row]
def l_eqItem_c : TCode :=
  (.seq (.reg [.op (some 2) (.box 66 (.s 0) 2),
    .op (some 3) (.box 66 (.s 1) 2),
    .op (some 4) (.mov (.k (.c .bool false)))])
 (.seq (.seq (.reg [.op (some 5) (.fad (.s 2) 0),
      .op (some 6) (.load (.s 5) 1 false),
      .op (some 7) (.fad (.s 3) 0),
      .op (some 8) (.load (.s 7) 1 false),
      .op (some 9) (.bin .neq (.s 6) (.s 8))])
   (.cond (.s 9) (.seq (.reg [.op (some 4) (.mov (.k (.c .bool false)))])
     .ret) .skip))
  (.seq (.seq (.reg [.op (some 10) (.fad (.s 2) 1),
       .op (some 11) (.load (.s 10) 1 false),
       .op (some 12) (.fad (.s 3) 1),
       .op (some 13) (.load (.s 12) 1 false),
       .op (some 14) (.call 36 [(.s 11), (.s 13)]),
       .op (some 15) (.not (.s 14))])
    (.cond (.s 15) (.seq (.reg [.op (some 4) (.mov (.k (.c .bool false)))])
      .ret) .skip))
   (.seq (.reg [.op (some 4) (.mov (.k (.c .bool true)))])
    .ret))))
def l_eqItem_rs : List (ARv × Md) := [(.t 4, .one .d)]
theorem l_eqItem_st : compF Try.prog 46 = some (l_eqItem_c.er, l_eqItem_rs.map Prod.fst, 16) := by kernel_rfl
def l_eqItem_Q (K : TRes → Prop) : TPost := TQ 0 l_eqItem_rs K
theorem l_eqItem_v0 (K : TRes → Prop) (a : TItem) (b : TItem) (h :
  (((a.1 != b.1) = true → K (l_eqItem_R false)) ∧ ((a.1 != b.1) = false → (((!(m_eq (α := List Int) a.2 b.2)) = true → K (l_eqItem_R false)) ∧ ((!(m_eq (α := List Int) a.2 b.2)) = false → K (l_eqItem_R true)))))) : Hold (tawp l_eqItem_G 0 l_eqItem_c (TQ 0 l_eqItem_rs K) (tstart [(.a [(.c TI a.1), (.c (.sl [TI]) a.2)]), (.a [(.c TI b.1), (.c (.sl [TI]) b.2)])])) :=
  Hold.of (by kernel_rfl) h
theorem l_eqItem_t (a : TItem) (b : TItem) (r : TRes) (h : Hold (tawp l_eqItem_G 0 l_eqItem_c (TQ 0 l_eqItem_rs fun r' => r' = r) (tstart [(.a [(.c TI a.1), (.c (.sl [TI]) a.2)]), (.a [(.c TI b.1), (.c (.sl [TI]) b.2)])]))) : TCon Try.prog 46 [(.a [(.c TI a.1), (.c (.sl [TI]) a.2)]), (.a [(.c TI b.1), (.c (.sl [TI]) b.2)])] r :=
  tcon_gen (sg := [(.a [TI, (.sl [TI])]), (.a [TI, (.sl [TI])])]) mixed (TOk.cons l_eqIntS_ok TOk.nil) l_eqItem_st (by kernel_rfl) (by kernel_rfl) (by kernel_rfl) h
theorem l_eqItem_h : l_eqItem_C := by
  intro a b
  refine tcon_bd rfl fun hb => l_eqItem_t a b _ (l_eqItem_v0 _ a b ?_)
  refine ⟨fun h => R_eq (Eq.symm (decide_eq_false (by rintro rfl; simp [m_eq] at h))), fun h0 => ?_⟩
  refine ⟨fun h => R_eq (Eq.symm (decide_eq_false (by rintro rfl; simp [m_eq] at h))), fun h1 => ?_⟩
  refine R_eq (Eq.symm (decide_eq_true ?_))
  simp [m_eq] at h0 h1
  simp [Prod.ext_iff, *]

theorem l_eqItem_ok : TRowOk Try.prog l_eqItem_row := by
  intro vs pre r hf hr hp
  simp only [l_eqItem_row] at hr
  split at hr
  · rename_i a0_0 a0_1 a1_0 a1_1; cases hr; exact l_eqItem_h (a0_0, a0_1) (a1_0, a1_1)
  · cases hr

def l_eqItemS_n : FuncId := 41
def l_eqItemS_R (t : Bool) : TRes := ⟨(.c .bool t), [], [], false⟩
def l_eqItemS_row : TRow := ⟨41, [(.c (.sl [TI, (.sl [TI])])), (.c (.sl [TI, (.sl [TI])]))], fun
  | [.c (.sl [(.int .i64), (.sl [(.int .i64)])]) a0, .c (.sl [(.int .i64), (.sl [(.int .i64)])]) a1] => some (none, ⟨(.c .bool (m_eq (α := List TItem) a0 a1)), [], [], false⟩)
  | _ => none⟩
def l_eqItemS_C : Prop := ∀ (x0 : List TItem) (x1 : List TItem), TCon Try.prog 41 [(.c (.sl [TI, (.sl [TI])]) x0), (.c (.sl [TI, (.sl [TI])]) x1)] (l_eqItemS_R (m_eq (α := List TItem) x0 x1))

/-! laws.eqItemS -/
def l_eqItemS_G : List TRow := [l_eqItem_row]
def l_eqItemS_b2 : TCode :=
  (.seq (.seq (.reg [.op (some 11) (.mov (.s 5)),
     .op (some 12) (.mov (.s 0)),
     .op (some 13) (.len (.s 12)),
     .op (some 14) (.bin .lss (.s 11) (.s 13))])
  (.cond (.s 14) .skip (.exit 0)))
 (.seq (.block 1 (.seq (.draw [.op (some 17) (.mov (.s 0)),
       .op (some 18) (.mov (.s 5)),
       .op (some 19) (.iad (.s 17) (.s 18) [TI, (.sl [TI])]),
       .op (some 20) (.load (.s 19) 2 true),
       .op (some 21) (.mov (.s 1)),
       .op (some 22) (.mov (.s 5)),
       .op (some 23) (.iad (.s 21) (.s 22) [TI, (.sl [TI])]),
       .op (some 24) (.load (.s 23) 2 true),
       .op (some 25) (.call 46 [(.s 20), (.s 24)]),
       .op (some 26) (.not (.s 25))] [])
    (.cond (.s 26) (.seq (.reg [.op (some 4) (.mov (.k (.c .bool false)))])
      .ret) .skip)))
  (.reg [.op (some 15) (.mov (.s 5)),
     .op (some 16) (.bin .add (.s 15) (.k (.c TI (1 : Int)))),
     .op (some 5) (.mov (.s 16))])))
def l_eqItemS_L2 : List (Nat × Md) := [(0, .one .d), (1, .one .d), (5, .one .d)]
def l_eqItemS_y1 : TCode :=
  (.seq (.reg [.op (some 4) (.mov (.k (.c .bool true)))])
 .ret)
def l_eqItemS_c : TCode :=
  (.seq (.reg [.op (some 4) (.mov (.k (.c .bool false)))])
 (.seq (.seq (.reg [.op (some 6) (.mov (.s 0)),
      .op (some 7) (.len (.s 6)),
      .op (some 8) (.mov (.s 1)),
      .op (some 9) (.len (.s 8)),
      .op (some 10) (.bin .neq (.s 7) (.s 9))])
   (.cond (.s 10) (.seq (.reg [.op (some 4) (.mov (.k (.c .bool false)))])
     .ret) .skip))
  (.seq (.seq (.reg [.op (some 5) (.mov (.k (.c TI (0 : Int))))])
    (.block 0 (.loop l_eqItemS_L2 l_eqItemS_b2)))
   l_eqItemS_y1)))
def l_eqItemS_rs : List (ARv × Md) := [(.t 4, .one .d)]
theorem l_eqItemS_st : compF Try.prog 41 = some (l_eqItemS_c.er, l_eqItemS_rs.map Prod.fst, 27) := by kernel_rfl
def l_eqItemS_Q (K : TRes → Prop) : TPost := TQ 0 l_eqItemS_rs K
def l_eqItemS_q1 (K : TRes → Prop) : TPost := Qseq (tawp l_eqItemS_G 0 l_eqItemS_y1 (l_eqItemS_Q K)) (l_eqItemS_Q K)
def l_eqItemS_q2 (K : TRes → Prop) : TPost := Qblk 0 (l_eqItemS_q1 K)
def l_eqItemS_A2 (K : TRes → Prop) (a : List TItem) (b : List TItem) (i : Int) : Prop := Loop l_eqItemS_G 0 l_eqItemS_L2 l_eqItemS_b2 (l_eqItemS_q2 K) ⟨[(0, (.c (.sl [TI, (.sl [TI])]) a)), (1, (.c (.sl [TI, (.sl [TI])]) b)), (5, (.c TI i))], [], 0⟩
theorem l_eqItemS_v2 (K : TRes → Prop) (a : List TItem) (b : List TItem) (i : Int) (h :
  (((decide (i < (a.length : Int))) = true → ((((0 : Int) ≤ i ∧ Int.toNat i < a.length) ∧ ((0 : Int) ≤ i ∧ Int.toNat i < b.length)) ∧ (((!(m_eq (α := TItem) (gtd ((0, []) : TItem) a (Int.toNat i)) (gtd ((0, []) : TItem) b (Int.toNat i)))) = true → K (l_eqItemS_R false)) ∧ ((!(m_eq (α := TItem) (gtd ((0, []) : TItem) a (Int.toNat i)) (gtd ((0, []) : TItem) b (Int.toNat i)))) = false → (l_eqItemS_A2 K a b (w64 (i + (1 : Int)))))))) ∧ ((decide (i < (a.length : Int))) = false → K (l_eqItemS_R true)))) : l_eqItemS_A2 K a b i :=
  Loop.of (by kernel_rfl) h
theorem l_eqItemS_v0 (K : TRes → Prop) (a : List TItem) (b : List TItem) (h :
  ((((a.length : Int) != (b.length : Int)) = true → K (l_eqItemS_R false)) ∧ (((a.length : Int) != (b.length : Int)) = false → (l_eqItemS_A2 K a b (0 : Int))))) : Hold (tawp l_eqItemS_G 0 l_eqItemS_c (TQ 0 l_eqItemS_rs K) (tstart [(.c (.sl [TI, (.sl [TI])]) a), (.c (.sl [TI, (.sl [TI])]) b)])) :=
  Hold.of (by kernel_rfl) h
theorem l_eqItemS_t (a : List TItem) (b : List TItem) (r : TRes) (h : Hold (tawp l_eqItemS_G 0 l_eqItemS_c (TQ 0 l_eqItemS_rs fun r' => r' = r) (tstart [(.c (.sl [TI, (.sl [TI])]) a), (.c (.sl [TI, (.sl [TI])]) b)]))) : TCon Try.prog 41 [(.c (.sl [TI, (.sl [TI])]) a), (.c (.sl [TI, (.sl [TI])]) b)] r :=
  tcon_gen (sg := [(.c (.sl [TI, (.sl [TI])])), (.c (.sl [TI, (.sl [TI])]))]) mixed (TOk.cons l_eqItem_ok TOk.nil) l_eqItemS_st (by kernel_rfl) (by kernel_rfl) (by kernel_rfl) h
theorem l_eqItemS_h : l_eqItemS_C := by
  intro a b
  refine tcon_bd rfl fun hb => l_eqItemS_t a b _ (l_eqItemS_v0 _ a b ?_)
  exact eqLoopG ((0, []) : TItem) (E := m_eq) (fun _ _ => rfl) hb.1.1 (fun i h => l_eqItemS_v2 _ a b i h) (Q := fun x => l_eqItemS_R x = l_eqItemS_R (m_eq (α := List TItem) a b)) rfl

theorem l_eqItemS_ok : TRowOk Try.prog l_eqItemS_row := by
  intro vs pre r hf hr hp
  simp only [l_eqItemS_row] at hr
  split at hr
  · rename_i a0 a1; cases hr; exact l_eqItemS_h a0 a1
  · cases hr

def l_eqQueue_n : FuncId := 29
def l_eqQueue_R (t : Bool) : TRes := ⟨(.c .bool t), [], [], false⟩
def l_eqQueue_row : TRow := ⟨29, [(.a [TI, (.sl [TI, (.sl [TI])])]), (.a [TI, (.sl [TI, (.sl [TI])])])], fun
  | [.a [.c (.int .i64) a0_0, .c (.sl [(.int .i64), (.sl [(.int .i64)])]) a0_1], .a [.c (.int .i64) a1_0, .c (.sl [(.int .i64), (.sl [(.int .i64)])]) a1_1]] => some (none, ⟨(.c .bool (m_eq (α := TQueue) (a0_0, a0_1) (a1_0, a1_1))), [], [], false⟩)
  | _ => none⟩
def l_eqQueue_C : Prop := ∀ (x0 : TQueue) (x1 : TQueue), TCon Try.prog 29 [(.a [(.c TI x0.1), (.c (.sl [TI, (.sl [TI])]) x0.2)]), (.a [(.c TI x1.1), (.c (.sl [TI, (.sl [TI])]) x1.2)])] (l_eqQueue_R (m_eq (α := TQueue) x0 x1))

/-! laws.eqQueue -/
def l_eqQueue_G : List TRow := [l_eqItemS_row]
def l_eqQueue_c : TCode :=
  (.seq (.reg [.op (some 2) (.box 49 (.s 0) 2),
    .op (some 3) (.box 49 (.s 1) 2),
    .op (some 4) (.mov (.k (.c .bool false)))])
 (.seq (.seq (.reg [.op (some 5) (.fad (.s 2) 0),
      .op (some 6) (.load (.s 5) 1 false),
      .op (some 7) (.fad (.s 3) 0),
      .op (some 8) (.load (.s 7) 1 false),
      .op (some 9) (.bin .neq (.s 6) (.s 8))])
   (.cond (.s 9) (.seq (.reg [.op (some 4) (.mov (.k (.c .bool false)))])
     .ret) .skip))
  (.seq (.seq (.reg [.op (some 10) (.fad (.s 2) 1),
       .op (some 11) (.load (.s 10) 1 false),
       .op (some 12) (.fad (.s 3) 1),
       .op (some 13) (.load (.s 12) 1 false),
       .op (some 14) (.call 41 [(.s 11), (.s 13)]),
       .op (some 15) (.not (.s 14))])
    (.cond (.s 15) (.seq (.reg [.op (some 4) (.mov (.k (.c .bool false)))])
      .ret) .skip))
   (.seq (.reg [.op (some 4) (.mov (.k (.c .bool true)))])
    .ret))))
def l_eqQueue_rs : List (ARv × Md) := [(.t 4, .one .d)]
theorem l_eqQueue_st : compF Try.prog 29 = some (l_eqQueue_c.er, l_eqQueue_rs.map Prod.fst, 16) := by kernel_rfl
def l_eqQueue_Q (K : TRes → Prop) : TPost := TQ 0 l_eqQueue_rs K
theorem l_eqQueue_v0 (K : TRes → Prop) (a : TQueue) (b : TQueue) (h :
  (((a.1 != b.1) = true → K (l_eqQueue_R false)) ∧ ((a.1 != b.1) = false → (((!(m_eq (α := List TItem) a.2 b.2)) = true → K (l_eqQueue_R false)) ∧ ((!(m_eq (α := List TItem) a.2 b.2)) = false → K (l_eqQueue_R true)))))) : Hold (tawp l_eqQueue_G 0 l_eqQueue_c (TQ 0 l_eqQueue_rs K) (tstart [(.a [(.c TI a.1), (.c (.sl [TI, (.sl [TI])]) a.2)]), (.a [(.c TI b.1), (.c (.sl [TI, (.sl [TI])]) b.2)])])) :=
  Hold.of (by kernel_rfl) h
theorem l_eqQueue_t (a : TQueue) (b : TQueue) (r : TRes) (h : Hold (tawp l_eqQueue_G 0 l_eqQueue_c (TQ 0 l_eqQueue_rs fun r' => r' = r) (tstart [(.a [(.c TI a.1), (.c (.sl [TI, (.sl [TI])]) a.2)]), (.a [(.c TI b.1), (.c (.sl [TI, (.sl [TI])]) b.2)])]))) : TCon Try.prog 29 [(.a [(.c TI a.1), (.c (.sl [TI, (.sl [TI])]) a.2)]), (.a [(.c TI b.1), (.c (.sl [TI, (.sl [TI])]) b.2)])] r :=
  tcon_gen (sg := [(.a [TI, (.sl [TI, (.sl [TI])])]), (.a [TI, (.sl [TI, (.sl [TI])])])]) mixed (TOk.cons l_eqItemS_ok TOk.nil) l_eqQueue_st (by kernel_rfl) (by kernel_rfl) (by kernel_rfl) h
theorem l_eqQueue_h : l_eqQueue_C := by
  intro a b
  refine tcon_bd rfl fun hb => l_eqQueue_t a b _ (l_eqQueue_v0 _ a b ?_)
  refine ⟨fun h => R_eq (Eq.symm (decide_eq_false (by rintro rfl; simp [m_eq] at h))), fun h0 => ?_⟩
  refine ⟨fun h => R_eq (Eq.symm (decide_eq_false (by rintro rfl; simp [m_eq] at h))), fun h1 => ?_⟩
  refine R_eq (Eq.symm (decide_eq_true ?_))
  simp [m_eq] at h0 h1
  simp [Prod.ext_iff, *]

theorem l_eqQueue_ok : TRowOk Try.prog l_eqQueue_row := by
  intro vs pre r hf hr hp
  simp only [l_eqQueue_row] at hr
  split at hr
  · rename_i a0_0 a0_1 a1_0 a1_1; cases hr; exact l_eqQueue_h (a0_0, a0_1) (a1_0, a1_1)
  · cases hr

def l_szInsS_n : FuncId := 15
def l_szInsS_R (t : Int) : TRes := ⟨(.c TI t), [], [], false⟩
def l_szInsS_row : TRow := ⟨15, [(.c (.sl [TI, TI])), (.c TI)], fun
  | [.c (.sl [(.int .i64), (.int .i64)]) a0, .c (.int .i64) a1] => some (some (p_sz (α := List TIns) a0 a1), ⟨(.c TI (m_sz (α := List TIns) a0 a1)), [], [], false⟩)
  | _ => none⟩
def l_szInsS_C : Prop := ∀ (x0 : List TIns) (x1 : Int), (p_sz (α := List TIns) x0 x1) → TCon Try.prog 15 [(.c (.sl [TI, TI]) x0), (.c TI x1)] (l_szInsS_R (m_sz (α := List TIns) x0 x1))

/-! laws.szInsS -/
def l_szInsS_G : List TRow := []
def l_szInsS_c : TCode :=
  (.seq (.reg [.op (some 4) (.mov (.k (.c TI (0 : Int))))])
 (.seq (.reg [.op (some 5) (.mov (.s 1)),
     .op (some 6) (.mov (.s 0)),
     .op (some 7) (.len (.s 6)),
     .op (some 8) (.bin .sub (.s 5) (.s 7)),
     .op (some 1) (.mov (.s 8))])
  (.seq (.seq (.reg [.op (some 9) (.mov (.s 1)),
       .op (some 10) (.bin .lss (.s 9) (.k (.c TI (0 : Int))))])
    (.cond (.s 10) (.seq (.reg [.op (some 4) (.mov (.k (.c TI (-1 : Int))))])
      .ret) .skip))
   (.seq (.reg [.op (some 11) (.mov (.s 1)),
       .op (some 4) (.mov (.s 11))])
    .ret))))
def l_szInsS_rs : List (ARv × Md) := [(.t 4, .one .d)]
theorem l_szInsS_st : compF Try.prog 15 = some (l_szInsS_c.er, l_szInsS_rs.map Prod.fst, 12) := by kernel_rfl
def l_szInsS_Q (K : TRes → Prop) : TPost := TQ 0 l_szInsS_rs K
theorem l_szInsS_v0 (K : TRes → Prop) (a : List TIns) (left : Int) (h :
  (((decide ((w64 (left - (a.length : Int))) < (0 : Int))) = true → K (l_szInsS_R (-1 : Int))) ∧ ((decide ((w64 (left - (a.length : Int))) < (0 : Int))) = false → K (l_szInsS_R (w64 (left - (a.length : Int))))))) : Hold (tawp l_szInsS_G 0 l_szInsS_c (TQ 0 l_szInsS_rs K) (tstart [(.c (.sl [TI, TI]) a), (.c TI left)])) :=
  Hold.of (by kernel_rfl) h
theorem l_szInsS_t (a : List TIns) (left : Int) (r : TRes) (h : Hold (tawp l_szInsS_G 0 l_szInsS_c (TQ 0 l_szInsS_rs fun r' => r' = r) (tstart [(.c (.sl [TI, TI]) a), (.c TI left)]))) : TCon Try.prog 15 [(.c (.sl [TI, TI]) a), (.c TI left)] r :=
  tcon_gen (sg := [(.c (.sl [TI, TI])), (.c TI)]) mixed TOk.nil l_szInsS_st (by kernel_rfl) (by kernel_rfl) (by kernel_rfl) h
theorem l_szInsS_h : l_szInsS_C := by
  intro a left hp
  refine tcon_bd rfl fun hb => l_szInsS_t a left _ (l_szInsS_v0 _ a left ?_)
  exact szFlat (Q := fun x => l_szInsS_R x = l_szInsS_R (m_sz (α := List TIns) a left)) (fun _ => rfl) hp hb.1.1 rfl

theorem l_szInsS_ok : TRowOk Try.prog l_szInsS_row := by
  intro vs pre r hf hr hp
  simp only [l_szInsS_row] at hr
  split at hr
  · rename_i a0 a1; cases hr; exact l_szInsS_h a0 a1 hp
  · cases hr

def l_toIns_n : FuncId := 32
def l_toIns_R (t : TIns) : TRes := ⟨(.a [(.c TI t.1), (.c TI t.2)]), [], [], false⟩
def l_toIns_row : TRow := ⟨32, [(.a [TI, TI])], fun
  | [.a [.c (.int .i64) a0_0, .c (.int .i64) a0_1]] => some (some (p_to (α := TIns) (a0_0, a0_1)), ⟨(.a [(.c TI ((id (α := TIns) (a0_0, a0_1)).1)), (.c TI ((id (α := TIns) (a0_0, a0_1)).2))]), [], [], false⟩)
  | _ => none⟩
def l_toIns_C : Prop := ∀ (x0 : TIns), (p_to (α := TIns) x0) → TCon Try.prog 32 [(.a [(.c TI x0.1), (.c TI x0.2)])] (l_toIns_R (id (α := TIns) x0))

/-! laws.toIns -/
def l_toIns_G : List TRow := []
def l_toIns_c : TCode :=
  (.seq (.reg [.op (some 1) (.box 58 (.s 0) 2),
    .op (some 2) (.new 56 [(.c TI (0 : Int)), (.c TI (0 : Int))])])
 (.seq (.reg [.op (some 3) (.new 56 [(.c TI (0 : Int)), (.c TI (0 : Int))])])
  (.seq (.reg [.op (some 4) (.fad (.s 1) 0),
      .op (some 5) (.load (.s 4) 1 false),
      .op (some 6) (.fad (.s 3) 0),
      .op none (.store (.s 6) (.s 5) 1)])
   (.seq (.reg [.op (some 7) (.fad (.s 1) 1),
       .op (some 8) (.load (.s 7) 1 false),
       .op (some 9) (.fad (.s 3) 1),
       .op none (.store (.s 9) (.s 8) 1)])
    (.seq (.reg [.op (some 10) (.load (.s 3) 2 true),
        .op none (.store (.s 2) (.s 10) 2)])
     .ret)))))
def l_toIns_rs : List (ARv × Md) := [(.l 2 2 true, .b [.d, .d])]
theorem l_toIns_st : compF Try.prog 32 = some (l_toIns_c.er, l_toIns_rs.map Prod.fst, 11) := by kernel_rfl
def l_toIns_Q (K : TRes → Prop) : TPost := TQ 0 l_toIns_rs K
theorem l_toIns_v0 (K : TRes → Prop) (a : TIns) (h :
  K (l_toIns_R a)) : Hold (tawp l_toIns_G 0 l_toIns_c (TQ 0 l_toIns_rs K) (tstart [(.a [(.c TI a.1), (.c TI a.2)])])) :=
  Hold.of (by kernel_rfl) h
theorem l_toIns_t (a : TIns) (r : TRes) (h : Hold (tawp l_toIns_G 0 l_toIns_c (TQ 0 l_toIns_rs fun r' => r' = r) (tstart [(.a [(.c TI a.1), (.c TI a.2)])]))) : TCon Try.prog 32 [(.a [(.c TI a.1), (.c TI a.2)])] r :=
  tcon_gen (sg := [(.a [TI, TI])]) mixed TOk.nil l_toIns_st (by kernel_rfl) (by kernel_rfl) (by kernel_rfl) h
theorem l_toIns_h : l_toIns_C := by
  intro a hp
  refine tcon_bd rfl fun hb => l_toIns_t a _ (l_toIns_v0 _ a ?_)
  exact R_eq rfl

theorem l_toIns_ok : TRowOk Try.prog l_toIns_row := by
  intro vs pre r hf hr hp
  simp only [l_toIns_row] at hr
  split at hr
  · rename_i a0_0 a0_1; cases hr; exact l_toIns_h (a0_0, a0_1) hp
  · cases hr

def l_toInsS_n : FuncId := 17
def l_toInsS_R (t : (List TIns)) : TRes := ⟨(.c (.sl [TI, TI]) t), [], [], true⟩
def l_toInsS_row : TRow := ⟨17, [(.c (.sl [TI, TI]))], fun
  | [.c (.sl [(.int .i64), (.int .i64)]) a0] => some (some (p_to (α := List TIns) a0), ⟨(.c (.sl [TI, TI]) (id (α := List TIns) a0)), [], [], true⟩)
  | _ => none⟩
def l_toInsS_C : Prop := ∀ (x0 : List TIns), (p_to (α := List TIns) x0) → TCon Try.prog 17 [(.c (.sl [TI, TI]) x0)] (l_toInsS_R (id (α := List TIns) x0))

/-! laws.toInsS -/
def l_toInsS_G : List TRow := [l_toIns_row]
def l_toInsS_b2 : TCode :=
  (.seq (.seq (.reg [.op (some 8) (.mov (.s 4)),
     .op (some 9) (.mov (.s 0)),
     .op (some 10) (.len (.s 9)),
     .op (some 11) (.bin .lss (.s 8) (.s 10))])
  (.cond (.s 11) .skip (.exit 0)))
 (.seq (.block 1 (.reg [.op (some 14) (.mov (.s 3)),
      .op (some 15) (.mov (.s 4)),
      .op (some 16) (.mov (.s 0)),
      .op (some 17) (.mov (.s 4)),
      .op (some 18) (.iad (.s 16) (.s 17) [TI, TI]),
      .op (some 19) (.load (.s 18) 2 true),
      .op (some 20) (.call 32 [(.s 19)]),
      .op (some 21) (.iad (.s 14) (.s 15) [TI, TI]),
      .op none (.store (.s 21) (.s 20) 2)]))
  (.reg [.op (some 12) (.mov (.s 4)),
     .op (some 13) (.bin .add (.s 12) (.k (.c TI (1 : Int)))),
     .op (some 4) (.mov (.s 13))])))
def l_toInsS_L2 : List (Nat × Md) := [(0, .one .d), (3, .one .f), (4, .one .d)]
def l_toInsS_y1 : TCode :=
  (.seq (.reg [.op (some 22) (.mov (.s 3)),
    .op (some 2) (.mov (.s 22))])
 .ret)
def l_toInsS_c : TCode :=
  (.seq (.reg [.op (some 2) (.mov (.k (.n [TI, TI])))])
 (.seq (.reg [.op (some 5) (.mov (.s 0)),
     .op (some 6) (.len (.s 5)),
     .op (some 7) (.mk 56 [TI, TI] [(.c TI (0 : Int)), (.c TI (0 : Int))] (.s 6)),
     .op (some 3) (.mov (.s 7))])
  (.seq (.seq (.reg [.op (some 4) (.mov (.k (.c TI (0 : Int))))])
    (.block 0 (.loop l_toInsS_L2 l_toInsS_b2)))
   l_toInsS_y1)))
def l_toInsS_rs : List (ARv × Md) := [(.t 2, .one .d)]
theorem l_toInsS_st : compF Try.prog 17 = some (l_toInsS_c.er, l_toInsS_rs.map Prod.fst, 23) := by kernel_rfl
def l_toInsS_Q (K : TRes → Prop) : TPost := TQ 0 l_toInsS_rs K
def l_toInsS_q1 (K : TRes → Prop) : TPost := Qseq (tawp l_toInsS_G 0 l_toInsS_y1 (l_toInsS_Q K)) (l_toInsS_Q K)
def l_toInsS_q2 (K : TRes → Prop) : TPost := Qblk 0 (l_toInsS_q1 K)
def l_toInsS_A2 (K : TRes → Prop) (a : List TIns) (i : Int) (out : List TIns) : Prop := Loop l_toInsS_G 0 l_toInsS_L2 l_toInsS_b2 (l_toInsS_q2 K) ⟨[(0, (.c (.sl [TI, TI]) a)), (3, (.r [TI, TI] 0 0 out.length)), (4, (.c TI i))], [(0, (.sl 56 [TI, TI] true out))], 1⟩
theorem l_toInsS_v2 (K : TRes → Prop) (a : List TIns) (i : Int) (out : List TIns) (h :
  (((decide (i < (a.length : Int))) = true → ((((0 : Int) ≤ i ∧ Int.toNat i < a.length) ∧ ((p_to (α := TIns) (gtd ((0, 0) : TIns) a (Int.toNat i))) ∧ (((0 : Int) ≤ i ∧ Int.toNat i < out.length) ∧ ((0 + (Int.toNat i)) < out.length)))) ∧ (l_toInsS_A2 K a (w64 (i + (1 : Int))) (List.take out.length ((out).set (0 + (Int.toNat i)) (id (α := TIns) (gtd ((0, 0) : TIns) a (Int.toNat i)))))))) ∧ ((decide (i < (a.length : Int))) = false → K (l_toInsS_R (List.take out.length (List.drop 0 out)))))) : l_toInsS_A2 K a i out :=
  Loop.of (by kernel_rfl) h
theorem l_toInsS_v0 (K : TRes → Prop) (a : List TIns) (h :
  (((0 : Int) ≤ (a.length : Int) ∧ (a.length : Int) ≤ big) ∧ (l_toInsS_A2 K a (0 : Int) (List.take (Int.toNat (a.length : Int)) (List.replicate (Int.toNat (a.length : Int)) ((0 : Int), (0 : Int))))))) : Hold (tawp l_toInsS_G 0 l_toInsS_c (TQ 0 l_toInsS_rs K) (tstart [(.c (.sl [TI, TI]) a)])) :=
  Hold.of (by kernel_rfl) h
theorem l_toInsS_t (a : List TIns) (r : TRes) (h : Hold (tawp l_toInsS_G 0 l_toInsS_c (TQ 0 l_toInsS_rs fun r' => r' = r) (tstart [(.c (.sl [TI, TI]) a)]))) : TCon Try.prog 17 [(.c (.sl [TI, TI]) a)] r :=
  tcon_gen (sg := [(.c (.sl [TI, TI]))]) mixed (TOk.cons l_toIns_ok TOk.nil) l_toInsS_st (by kernel_rfl) (by kernel_rfl) (by kernel_rfl) h
theorem l_toInsS_h : l_toInsS_C := by
  intro a hp
  refine tcon_bd rfl fun hb => l_toInsS_t a _ (l_toInsS_v0 _ a ?_)
  exact toLoop (Q := fun x => l_toInsS_R x = l_toInsS_R (id (α := List TIns) a)) ((0, 0) : TIns) hp (fun i out h => l_toInsS_v2 _ a i out h) rfl

theorem l_toInsS_ok : TRowOk Try.prog l_toInsS_row := by
  intro vs pre r hf hr hp
  simp only [l_toInsS_row] at hr
  split at hr
  · rename_i a0; cases hr; exact l_toInsS_h a0 hp
  · cases hr

def l_eqIns_n : FuncId := 33
def l_eqIns_R (t : Bool) : TRes := ⟨(.c .bool t), [], [], false⟩
def l_eqIns_row : TRow := ⟨33, [(.a [TI, TI]), (.a [TI, TI])], fun
  | [.a [.c (.int .i64) a0_0, .c (.int .i64) a0_1], .a [.c (.int .i64) a1_0, .c (.int .i64) a1_1]] => some (none, ⟨(.c .bool (m_eq (α := TIns) (a0_0, a0_1) (a1_0, a1_1))), [], [], false⟩)
  | _ => none⟩
def l_eqIns_C : Prop := ∀ (x0 : TIns) (x1 : TIns), TCon Try.prog 33 [(.a [(.c TI x0.1), (.c TI x0.2)]), (.a [(.c TI x1.1), (.c TI x1.2)])] (l_eqIns_R (m_eq (α := TIns) x0 x1))

/-! laws.eqIns -/
def l_eqIns_G : List TRow := []
def l_eqIns_c : TCode :=
  (.seq (.reg [.op (some 2) (.box 56 (.s 0) 2),
    .op (some 3) (.box 56 (.s 1) 2),
    .op (some 4) (.mov (.k (.c .bool false)))])
 (.seq (.seq (.reg [.op (some 5) (.fad (.s 2) 0),
      .op (some 6) (.load (.s 5) 1 false),
      .op (some 7) (.fad (.s 3) 0),
      .op (some 8) (.load (.s 7) 1 false),
      .op (some 9) (.bin .neq (.s 6) (.s 8))])
   (.cond (.s 9) (.seq (.reg [.op (some 4) (.mov (.k (.c .bool false)))])
     .ret) .skip))
  (.seq (.seq (.reg [.op (some 10) (.fad (.s 2) 1),
       .op (some 11) (.load (.s 10) 1 false),
       .op (some 12) (.fad (.s 3) 1),
       .op (some 13) (.load (.s 12) 1 false),
       .op (some 14) (.bin .neq (.s 11) (.s 13))])
    (.cond (.s 14) (.seq (.reg [.op (some 4) (.mov (.k (.c .bool false)))])
      .ret) .skip))
   (.seq (.reg [.op (some 4) (.mov (.k (.c .bool true)))])
    .ret))))
def l_eqIns_rs : List (ARv × Md) := [(.t 4, .one .d)]
theorem l_eqIns_st : compF Try.prog 33 = some (l_eqIns_c.er, l_eqIns_rs.map Prod.fst, 15) := by kernel_rfl
def l_eqIns_Q (K : TRes → Prop) : TPost := TQ 0 l_eqIns_rs K
theorem l_eqIns_v0 (K : TRes → Prop) (a : TIns) (b : TIns) (h :
  (((a.1 != b.1) = true → K (l_eqIns_R false)) ∧ ((a.1 != b.1) = false → (((a.2 != b.2) = true → K (l_eqIns_R false)) ∧ ((a.2 != b.2) = false → K (l_eqIns_R true)))))) : Hold (tawp l_eqIns_G 0 l_eqIns_c (TQ 0 l_eqIns_rs K) (tstart [(.a [(.c TI a.1), (.c TI a.2)]), (.a [(.c TI b.1), (.c TI b.2)])])) :=
  Hold.of (by kernel_rfl) h
theorem l_eqIns_t (a : TIns) (b : TIns) (r : TRes) (h : Hold (tawp l_eqIns_G 0 l_eqIns_c (TQ 0 l_eqIns_rs fun r' => r' = r) (tstart [(.a [(.c TI a.1), (.c TI a.2)]), (.a [(.c TI b.1), (.c TI b.2)])]))) : TCon Try.prog 33 [(.a [(.c TI a.1), (.c TI a.2)]), (.a [(.c TI b.1), (.c TI b.2)])] r :=
  tcon_gen (sg := [(.a [TI, TI]), (.a [TI, TI])]) mixed TOk.nil l_eqIns_st (by kernel_rfl) (by kernel_rfl) (by kernel_rfl) h
theorem l_eqIns_h : l_eqIns_C := by
  intro a b
  refine tcon_bd rfl fun hb => l_eqIns_t a b _ (l_eqIns_v0 _ a b ?_)
  refine ⟨fun h => R_eq (Eq.symm (decide_eq_false (by rintro rfl; simp [m_eq] at h))), fun h0 => ?_⟩
  refine ⟨fun h => R_eq (Eq.symm (decide_eq_false (by rintro rfl; simp [m_eq] at h))), fun h1 => ?_⟩
  refine R_eq (Eq.symm (decide_eq_true ?_))
  simp [m_eq] at h0 h1
  simp [Prod.ext_iff, *]

theorem l_eqIns_ok : TRowOk Try.prog l_eqIns_row := by
  intro vs pre r hf hr hp
  simp only [l_eqIns_row] at hr
  split at hr
  · rename_i a0_0 a0_1 a1_0 a1_1; cases hr; exact l_eqIns_h (a0_0, a0_1) (a1_0, a1_1)
  · cases hr

def l_eqInsS_n : FuncId := 19
def l_eqInsS_R (t : Bool) : TRes := ⟨(.c .bool t), [], [], false⟩
def l_eqInsS_row : TRow := ⟨19, [(.c (.sl [TI, TI])), (.c (.sl [TI, TI]))], fun
  | [.c (.sl [(.int .i64), (.int .i64)]) a0, .c (.sl [(.int .i64), (.int .i64)]) a1] => some (none, ⟨(.c .bool (m_eq (α := List TIns) a0 a1)), [], [], false⟩)
  | _ => none⟩
def l_eqInsS_C : Prop := ∀ (x0 : List TIns) (x1 : List TIns), TCon Try.prog 19 [(.c (.sl [TI, TI]) x0), (.c (.sl [TI, TI]) x1)] (l_eqInsS_R (m_eq (α := List TIns) x0 x1))

/-! laws.eqInsS -/
def l_eqInsS_G : List TRow := [l_eqIns_row]
def l_eqInsS_b2 : TCode :=
  (.seq (.seq (.reg [.op (some 11) (.mov (.s 5)),
     .op (some 12) (.mov (.s 0)),
     .op (some 13) (.len (.s 12)),
     .op (some 14) (.bin .lss (.s 11) (.s 13))])
  (.cond (.s 14) .skip (.exit 0)))
 (.seq (.block 1 (.seq (.draw [.op (some 17) (.mov (.s 0)),
       .op (some 18) (.mov (.s 5)),
       .op (some 19) (.iad (.s 17) (.s 18) [TI, TI]),
       .op (some 20) (.load (.s 19) 2 true),
       .op (some 21) (.mov (.s 1)),
       .op (some 22) (.mov (.s 5)),
       .op (some 23) (.iad (.s 21) (.s 22) [TI, TI]),
       .op (some 24) (.load (.s 23) 2 true),
       .op (some 25) (.call 33 [(.s 20), (.s 24)]),
       .op (some 26) (.not (.s 25))] [])
    (.cond (.s 26) (.seq (.reg [.op (some 4) (.mov (.k (.c .bool false)))])
      .ret) .skip)))
  (.reg [.op (some 15) (.mov (.s 5)),
     .op (some 16) (.bin .add (.s 15) (.k (.c TI (1 : Int)))),
     .op (some 5) (.mov (.s 16))])))
def l_eqInsS_L2 : List (Nat × Md) := [(0, .one .d), (1, .one .d), (5, .one .d)]
def l_eqInsS_y1 : TCode :=
  (.seq (.reg [.op (some 4) (.mov (.k (.c .bool true)))])
 .ret)
def l_eqInsS_c : TCode :=
  (.seq (.reg [.op (some 4) (.mov (.k (.c .bool false)))])
 (.seq (.seq (.reg [.op (some 6) (.mov (.s 0)),
      .op (some 7) (.len (.s 6)),
      .op (some 8) (.mov (.s 1)),
      .op (some 9) (.len (.s 8)),
      .op (some 10) (.bin .neq (.s 7) (.s 9))])
   (.cond (.s 10) (.seq (.reg [.op (some 4) (.mov (.k (.c .bool false)))])
     .ret) .skip))
  (.seq (.seq (.reg [.op (some 5) (.mov (.k (.c TI (0 : Int))))])
    (.block 0 (.loop l_eqInsS_L2 l_eqInsS_b2)))
   l_eqInsS_y1)))
def l_eqInsS_rs : List (ARv × Md) := [(.t 4, .one .d)]
theorem l_eqInsS_st : compF Try.prog 19 = some (l_eqInsS_c.er, l_eqInsS_rs.map Prod.fst, 27) := by kernel_rfl
def l_eqInsS_Q (K : TRes → Prop) : TPost := TQ 0 l_eqInsS_rs K
def l_eqInsS_q1 (K : TRes → Prop) : TPost := Qseq (tawp l_eqInsS_G 0 l_eqInsS_y1 (l_eqInsS_Q K)) (l_eqInsS_Q K)
def l_eqInsS_q2 (K : TRes → Prop) : TPost := Qblk 0 (l_eqInsS_q1 K)
def l_eqInsS_A2 (K : TRes → Prop) (a : List TIns) (b : List TIns) (i : Int) : Prop := Loop l_eqInsS_G 0 l_eqInsS_L2 l_eqInsS_b2 (l_eqInsS_q2 K) ⟨[(0, (.c (.sl [TI, TI]) a)), (1, (.c (.sl [TI, TI]) b)), (5, (.c TI i))], [], 0⟩
theorem l_eqInsS_v2 (K : TRes → Prop) (a : List TIns) (b : List TIns) (i : Int) (h :
  (((decide (i < (a.length : Int))) = true → ((((0 : Int) ≤ i ∧ Int.toNat i < a.length) ∧ ((0 : Int) ≤ i ∧ Int.toNat i < b.length)) ∧ (((!(m_eq (α := TIns) (gtd ((0, 0) : TIns) a (Int.toNat i)) (gtd ((0, 0) : TIns) b (Int.toNat i)))) = true → K (l_eqInsS_R false)) ∧ ((!(m_eq (α := TIns) (gtd ((0, 0) : TIns) a (Int.toNat i)) (gtd ((0, 0) : TIns) b (Int.toNat i)))) = false → (l_eqInsS_A2 K a b (w64 (i + (1 : Int)))))))) ∧ ((decide (i < (a.length : Int))) = false → K (l_eqInsS_R true)))) : l_eqInsS_A2 K a b i :=
  Loop.of (by kernel_rfl) h
theorem l_eqInsS_v0 (K : TRes → Prop) (a : List TIns) (b : List TIns) (h :
  ((((a.length : Int) != (b.length : Int)) = true → K (l_eqInsS_R false)) ∧ (((a.length : Int) != (b.length : Int)) = false → (l_eqInsS_A2 K a b (0 : Int))))) : Hold (tawp l_eqInsS_G 0 l_eqInsS_c (TQ 0 l_eqInsS_rs K) (tstart [(.c (.sl [TI, TI]) a), (.c (.sl [TI, TI]) b)])) :=
  Hold.of (by kernel_rfl) h
theorem l_eqInsS_t (a : List TIns) (b : List TIns) (r : TRes) (h : Hold (tawp l_eqInsS_G 0 l_eqInsS_c (TQ 0 l_eqInsS_rs fun r' => r' = r) (tstart [(.c (.sl [TI, TI]) a), (.c (.sl [TI, TI]) b)]))) : TCon Try.prog 19 [(.c (.sl [TI, TI]) a), (.c (.sl [TI, TI]) b)] r :=
  tcon_gen (sg := [(.c (.sl [TI, TI])), (.c (.sl [TI, TI]))]) mixed (TOk.cons l_eqIns_ok TOk.nil) l_eqInsS_st (by kernel_rfl) (by kernel_rfl) (by kernel_rfl) h
theorem l_eqInsS_h : l_eqInsS_C := by
  intro a b
  refine tcon_bd rfl fun hb => l_eqInsS_t a b _ (l_eqInsS_v0 _ a b ?_)
  exact eqLoopG ((0, 0) : TIns) (E := m_eq) (fun _ _ => rfl) hb.1.1 (fun i h => l_eqInsS_v2 _ a b i h) (Q := fun x => l_eqInsS_R x = l_eqInsS_R (m_eq (α := List TIns) a b)) rfl

theorem l_eqInsS_ok : TRowOk Try.prog l_eqInsS_row := by
  intro vs pre r hf hr hp
  simp only [l_eqInsS_row] at hr
  split at hr
  · rename_i a0 a1; cases hr; exact l_eqInsS_h a0 a1
  · cases hr

def s_Bubble_n : FuncId := 21
def s_Bubble_R (t : Int) : TRes := ⟨(.c TI t), [], [], false⟩
def s_Bubble_row : TRow := ⟨21, [(.a [TI, (.sl [TI]), (.sl [TI]), .bool])], fun
  | [.a [.c (.int .i64) a0_0, .c (.sl [(.int .i64)]) a0_1, .c (.sl [(.int .i64)]) a0_2, .c .bool a0_3]] => some (none, ⟨(.c TI (m_bubble (a0_0, a0_1, a0_2, a0_3))), [], [], false⟩)
  | _ => none⟩
def s_Bubble_C : Prop := ∀ (x0 : TSim), TCon Try.prog 21 [(.a [(.c TI x0.1), (.c (.sl [TI]) x0.2.1), (.c (.sl [TI]) x0.2.2.1), (.c .bool x0.2.2.2)])] (s_Bubble_R (m_bubble x0))

/-! spec.Bubble -/
def s_Bubble_G : List TRow := []
def s_Bubble_b2 : TCode :=
  (.seq (.seq (.reg [.op (some 11) (.mov (.s 4)),
     .op (some 12) (.fad (.s 1) 1),
     .op (some 13) (.load (.s 12) 1 false),
     .op (some 14) (.len (.s 13)),
     .op (some 15) (.bin .lss (.s 11) (.s 14))])
  (.cond (.s 15) .skip (.exit 0)))
 (.seq (.block 1 (.reg [.op (some 18) (.mov (.s 3)),
      .op (some 19) (.fad (.s 1) 1),
      .op (some 20) (.load (.s 19) 1 false),
      .op (some 21) (.mov (.s 4)),
      .op (some 22) (.iad (.s 20) (.s 21) [TI]),
      .op (some 23) (.load (.s 22) 1 false),
      .op (some 24) (.bin .sub (.s 18) (.s 23)),
      .op (some 3) (.mov (.s 24))]))
  (.reg [.op (some 16) (.mov (.s 4)),
     .op (some 17) (.bin .add (.s 16) (.k (.c TI (1 : Int)))),
     .op (some 4) (.mov (.s 17))])))
def s_Bubble_L2 : List (Nat × Md) := [(1, .b [.d, .d, .d, .d]), (3, .one .d), (4, .one .d)]
def s_Bubble_y1 : TCode :=
  (.seq (.reg [.op (some 25) (.mov (.s 3)),
    .op (some 2) (.mov (.s 25))])
 .ret)
def s_Bubble_c : TCode :=
  (.seq (.reg [.op (some 1) (.box 38 (.s 0) 4),
    .op (some 2) (.mov (.k (.c TI (0 : Int))))])
 (.seq (.reg [.op (some 5) (.fad (.s 1) 0),
     .op (some 6) (.load (.s 5) 1 false),
     .op (some 7) (.fad (.s 1) 1),
     .op (some 8) (.load (.s 7) 1 false),
     .op (some 9) (.len (.s 8)),
     .op (some 10) (.bin .mul (.s 6) (.s 9)),
     .op (some 3) (.mov (.s 10))])
  (.seq (.seq (.reg [.op (some 4) (.mov (.k (.c TI (0 : Int))))])
    (.block 0 (.loop s_Bubble_L2 s_Bubble_b2)))
   s_Bubble_y1)))
def s_Bubble_rs : List (ARv × Md) := [(.t 2, .one .d)]
theorem s_Bubble_st : compF Try.prog 21 = some (s_Bubble_c.er, s_Bubble_rs.map Prod.fst, 26) := by kernel_rfl
def s_Bubble_Q (K : TRes → Prop) : TPost := TQ 0 s_Bubble_rs K
def s_Bubble_q1 (K : TRes → Prop) : TPost := Qseq (tawp s_Bubble_G 0 s_Bubble_y1 (s_Bubble_Q K)) (s_Bubble_Q K)
def s_Bubble_q2 (K : TRes → Prop) : TPost := Qblk 0 (s_Bubble_q1 K)
def s_Bubble_A2 (K : TRes → Prop) (s : TSim) (n : Int) (i : Int) : Prop := Loop s_Bubble_G 0 s_Bubble_L2 s_Bubble_b2 (s_Bubble_q2 K) ⟨[(1, (.p 0 0 0)), (3, (.c TI n)), (4, (.c TI i))], [(0, (.box [(.c TI s.1), (.c (.sl [TI]) s.2.1), (.c (.sl [TI]) s.2.2.1), (.c .bool s.2.2.2)]))], 1⟩
theorem s_Bubble_v2 (K : TRes → Prop) (s : TSim) (n : Int) (i : Int) (h :
  (((decide (i < ((s.2.1).length : Int))) = true → (((0 : Int) ≤ i ∧ Int.toNat i < (s.2.1).length) ∧ (s_Bubble_A2 K s (w64 (n - (gtd (0 : Int) s.2.1 (Int.toNat i)))) (w64 (i + (1 : Int)))))) ∧ ((decide (i < ((s.2.1).length : Int))) = false → K (s_Bubble_R n)))) : s_Bubble_A2 K s n i :=
  Loop.of (by kernel_rfl) h
theorem s_Bubble_v0 (K : TRes → Prop) (s : TSim) (h :
  (s_Bubble_A2 K s (w64 (s.1 * ((s.2.1).length : Int))) (0 : Int))) : Hold (tawp s_Bubble_G 0 s_Bubble_c (TQ 0 s_Bubble_rs K) (tstart [(.a [(.c TI s.1), (.c (.sl [TI]) s.2.1), (.c (.sl [TI]) s.2.2.1), (.c .bool s.2.2.2)])])) :=
  Hold.of (by kernel_rfl) h
theorem s_Bubble_t (s : TSim) (r : TRes) (h : Hold (tawp s_Bubble_G 0 s_Bubble_c (TQ 0 s_Bubble_rs fun r' => r' = r) (tstart [(.a [(.c TI s.1), (.c (.sl [TI]) s.2.1), (.c (.sl [TI]) s.2.2.1), (.c .bool s.2.2.2)])]))) : TCon Try.prog 21 [(.a [(.c TI s.1), (.c (.sl [TI]) s.2.1), (.c (.sl [TI]) s.2.2.1), (.c .bool s.2.2.2)])] r :=
  tcon_gen (sg := [(.a [TI, (.sl [TI]), (.sl [TI]), .bool])]) mixed TOk.nil s_Bubble_st (by kernel_rfl) (by kernel_rfl) (by kernel_rfl) h
theorem s_Bubble_h : s_Bubble_C := by
  intro s
  refine tcon_bd rfl fun hb => s_Bubble_t s _ (s_Bubble_v0 _ s ?_)
  have hl_s_1 : (s.2.1).length ≤ 9223372036854775807 := hb.1.2.1.1
  have hl_s_2 : (s.2.2.1).length ≤ 9223372036854775807 := hb.1.2.2.1.1
  refine listLoop s.2.1 (fun r k => ∀ n : Int, bubGo r n = m_bubble s → s_Bubble_A2 (fun r' => r' = s_Bubble_R (m_bubble s)) s n k) ?_ ?_ _ rfl
  · intro n he
    refine s_Bubble_v2 (fun r' => r' = s_Bubble_R (m_bubble s)) s n _ ⟨fun h => by simp at h, fun _ => ?_⟩
    grind [bubGo]
  · intro k x r hk hlt hg ih n he
    refine s_Bubble_v2 (fun r' => r' = s_Bubble_R (m_bubble s)) s n _ ⟨fun _ => ?_, fun h => by simp at h; omega⟩
    rw [Int.toNat_natCast, hg, w64_ok (x := (k : Int) + 1) (by omega) (by omega)]
    grind [bubGo]

theorem s_Bubble_ok : TRowOk Try.prog s_Bubble_row := by
  intro vs pre r hf hr hp
  simp only [s_Bubble_row] at hr
  split at hr
  · rename_i a0_0 a0_1 a0_2 a0_3; cases hr; exact s_Bubble_h (a0_0, a0_1, a0_2, a0_3)
  · cases hr

def i_Bubble_n : FuncId := 23
def i_Bubble_R (t : Int) : TRes := ⟨(.c TI t), [], [], false⟩
def i_Bubble_row : TRow := ⟨23, [(.a [TI, (.sl [TI]), (.sl [TI]), .bool])], fun
  | [.a [.c (.int .i64) a0_0, .c (.sl [(.int .i64)]) a0_1, .c (.sl [(.int .i64)]) a0_2, .c .bool a0_3]] => some (none, ⟨(.c TI (m_bubble (a0_0, a0_1, a0_2, a0_3))), [], [], false⟩)
  | _ => none⟩
def i_Bubble_C : Prop := ∀ (x0 : TSim), TCon Try.prog 23 [(.a [(.c TI x0.1), (.c (.sl [TI]) x0.2.1), (.c (.sl [TI]) x0.2.2.1), (.c .bool x0.2.2.2)])] (i_Bubble_R (m_bubble x0))

/-! impl.Bubble -/
def i_Bubble_G : List TRow := []
def i_Bubble_b2 : TCode :=
  (.seq (.reg [.op (some 16) (.bin .lss (.s 15) (.s 14))])
 (.seq (.cond (.s 16) .skip (.exit 0))
  (.seq (.block 1 (.seq (.reg [.op (some 17) (.iad (.s 13) (.s 15) [TI]),
        .op (some 18) (.load (.s 17) 1 false),
        .op (some 5) (.mov (.s 18))])
     (.reg [.op (some 19) (.mov (.s 3)),
        .op (some 20) (.mov (.s 5)),
        .op (some 21) (.bin .sub (.s 19) (.s 20)),
        .op (some 3) (.mov (.s 21))])))
   (.reg [.op (some 22) (.bin .add (.s 15) (.k (.c TI (1 : Int)))),
      .op (some 15) (.mov (.s 22))]))))
def i_Bubble_L2 : List (Nat × Md) := [(3, .one .d), (13, .one .d), (14, .one .d), (15, .one .d)]
def i_Bubble_y1 : TCode :=
  (.seq (.reg [.op (some 23) (.mov (.s 3)),
    .op (some 2) (.mov (.s 23))])
 .ret)
def i_Bubble_c : TCode :=
  (.seq (.reg [.op (some 1) (.box 38 (.s 0) 4),
    .op (some 2) (.mov (.k (.c TI (0 : Int))))])
 (.seq (.reg [.op (some 6) (.fad (.s 1) 0),
     .op (some 7) (.load (.s 6) 1 false),
     .op (some 8) (.fad (.s 1) 1),
     .op (some 9) (.load (.s 8) 1 false),
     .op (some 10) (.len (.s 9)),
     .op (some 11) (.bin .mul (.s 7) (.s 10)),
     .op (some 3) (.mov (.s 11))])
  (.seq (.seq (.reg [.op (some 12) (.fad (.s 1) 1),
       .op (some 13) (.load (.s 12) 1 false),
       .op (some 14) (.len (.s 13)),
       .op (some 15) (.mov (.k (.c TI (0 : Int))))])
    (.block 0 (.loop i_Bubble_L2 i_Bubble_b2)))
   i_Bubble_y1)))
def i_Bubble_rs : List (ARv × Md) := [(.t 2, .one .d)]
theorem i_Bubble_st : compF Try.prog 23 = some (i_Bubble_c.er, i_Bubble_rs.map Prod.fst, 24) := by kernel_rfl
def i_Bubble_Q (K : TRes → Prop) : TPost := TQ 0 i_Bubble_rs K
def i_Bubble_q1 (K : TRes → Prop) : TPost := Qseq (tawp i_Bubble_G 0 i_Bubble_y1 (i_Bubble_Q K)) (i_Bubble_Q K)
def i_Bubble_q2 (K : TRes → Prop) : TPost := Qblk 0 (i_Bubble_q1 K)
def i_Bubble_A2 (K : TRes → Prop) (s : TSim) (n : Int) (x : Int) : Prop := Loop i_Bubble_G 0 i_Bubble_L2 i_Bubble_b2 (i_Bubble_q2 K) ⟨[(3, (.c TI n)), (13, (.c (.sl [TI]) s.2.1)), (14, (.c TI ((s.2.1).length : Int))), (15, (.c TI x))], [], 0⟩
theorem i_Bubble_v2 (K : TRes → Prop) (s : TSim) (n : Int) (x : Int) (h :
  (((decide (x < ((s.2.1).length : Int))) = true → (((0 : Int) ≤ x ∧ Int.toNat x < (s.2.1).length) ∧ (i_Bubble_A2 K s (w64 (n - (gtd (0 : Int) s.2.1 (Int.toNat x)))) (w64 (x + (1 : Int)))))) ∧ ((decide (x < ((s.2.1).length : Int))) = false → K (i_Bubble_R n)))) : i_Bubble_A2 K s n x :=
  Loop.of (by kernel_rfl) h
theorem i_Bubble_v0 (K : TRes → Prop) (s : TSim) (h :
  (i_Bubble_A2 K s (w64 (s.1 * ((s.2.1).length : Int))) (0 : Int))) : Hold (tawp i_Bubble_G 0 i_Bubble_c (TQ 0 i_Bubble_rs K) (tstart [(.a [(.c TI s.1), (.c (.sl [TI]) s.2.1), (.c (.sl [TI]) s.2.2.1), (.c .bool s.2.2.2)])])) :=
  Hold.of (by kernel_rfl) h
theorem i_Bubble_t (s : TSim) (r : TRes) (h : Hold (tawp i_Bubble_G 0 i_Bubble_c (TQ 0 i_Bubble_rs fun r' => r' = r) (tstart [(.a [(.c TI s.1), (.c (.sl [TI]) s.2.1), (.c (.sl [TI]) s.2.2.1), (.c .bool s.2.2.2)])]))) : TCon Try.prog 23 [(.a [(.c TI s.1), (.c (.sl [TI]) s.2.1), (.c (.sl [TI]) s.2.2.1), (.c .bool s.2.2.2)])] r :=
  tcon_gen (sg := [(.a [TI, (.sl [TI]), (.sl [TI]), .bool])]) mixed TOk.nil i_Bubble_st (by kernel_rfl) (by kernel_rfl) (by kernel_rfl) h
theorem i_Bubble_h : i_Bubble_C := by
  intro s
  refine tcon_bd rfl fun hb => i_Bubble_t s _ (i_Bubble_v0 _ s ?_)
  have hl_s_1 : (s.2.1).length ≤ 9223372036854775807 := hb.1.2.1.1
  have hl_s_2 : (s.2.2.1).length ≤ 9223372036854775807 := hb.1.2.2.1.1
  refine listLoop s.2.1 (fun r k => ∀ n : Int, bubGo r n = m_bubble s → i_Bubble_A2 (fun r' => r' = i_Bubble_R (m_bubble s)) s n k) ?_ ?_ _ rfl
  · intro n he
    refine i_Bubble_v2 (fun r' => r' = i_Bubble_R (m_bubble s)) s n _ ⟨fun h => by simp at h, fun _ => ?_⟩
    grind [bubGo]
  · intro k x r hk hlt hg ih n he
    refine i_Bubble_v2 (fun r' => r' = i_Bubble_R (m_bubble s)) s n _ ⟨fun _ => ?_, fun h => by simp at h; omega⟩
    rw [Int.toNat_natCast, hg, w64_ok (x := (k : Int) + 1) (by omega) (by omega)]
    grind [bubGo]

theorem i_Bubble_ok : TRowOk Try.prog i_Bubble_row := by
  intro vs pre r hf hr hp
  simp only [i_Bubble_row] at hr
  split at hr
  · rename_i a0_0 a0_1 a0_2 a0_3; cases hr; exact i_Bubble_h (a0_0, a0_1, a0_2, a0_3)
  · cases hr

def l_szSim_n : FuncId := 20
def l_szSim_R (t : Int) : TRes := ⟨(.c TI t), [], [], false⟩
def l_szSim_row : TRow := ⟨20, [(.a [TI, (.sl [TI]), (.sl [TI]), .bool]), (.c TI)], fun
  | [.a [.c (.int .i64) a0_0, .c (.sl [(.int .i64)]) a0_1, .c (.sl [(.int .i64)]) a0_2, .c .bool a0_3], .c (.int .i64) a1] => some (some (p_sz (α := TSim) (a0_0, a0_1, a0_2, a0_3) a1), ⟨(.c TI (m_sz (α := TSim) (a0_0, a0_1, a0_2, a0_3) a1)), [], [], false⟩)
  | _ => none⟩
def l_szSim_C : Prop := ∀ (x0 : TSim) (x1 : Int), (p_sz (α := TSim) x0 x1) → TCon Try.prog 20 [(.a [(.c TI x0.1), (.c (.sl [TI]) x0.2.1), (.c (.sl [TI]) x0.2.2.1), (.c .bool x0.2.2.2)]), (.c TI x1)] (l_szSim_R (m_sz (α := TSim) x0 x1))

/-! laws.szSim -/
def l_szSim_G : List TRow := [l_szIntS_row]
def l_szSim_c : TCode :=
  (.seq (.reg [.op (some 2) (.box 35 (.s 0) 4),
    .op (some 4) (.mov (.k (.c TI (0 : Int))))])
 (.seq (.reg [.op (some 5) (.fad (.s 2) 1),
     .op (some 6) (.load (.s 5) 1 false),
     .op (some 7) (.mov (.s 1)),
     .op (some 8) (.call 34 [(.s 6), (.s 7)]),
     .op (some 1) (.mov (.s 8))])
  (.seq (.seq (.reg [.op (some 9) (.mov (.s 1)),
       .op (some 10) (.bin .lss (.s 9) (.k (.c TI (0 : Int))))])
    (.cond (.s 10) (.seq (.reg [.op (some 4) (.mov (.k (.c TI (-1 : Int))))])
      .ret) .skip))
   (.seq (.reg [.op (some 11) (.fad (.s 2) 2),
       .op (some 12) (.load (.s 11) 1 false),
       .op (some 13) (.mov (.s 1)),
       .op (some 14) (.call 34 [(.s 12), (.s 13)]),
       .op (some 1) (.mov (.s 14))])
    (.seq (.seq (.reg [.op (some 15) (.mov (.s 1)),
         .op (some 16) (.bin .lss (.s 15) (.k (.c TI (0 : Int))))])
      (.cond (.s 16) (.seq (.reg [.op (some 4) (.mov (.k (.c TI (-1 : Int))))])
        .ret) .skip))
     (.seq (.reg [.op (some 17) (.mov (.s 1)),
         .op (some 4) (.mov (.s 17))])
      .ret))))))
def l_szSim_rs : List (ARv × Md) := [(.t 4, .one .d)]
theorem l_szSim_st : compF Try.prog 20 = some (l_szSim_c.er, l_szSim_rs.map Prod.fst, 18) := by kernel_rfl
def l_szSim_Q (K : TRes → Prop) : TPost := TQ 0 l_szSim_rs K
theorem l_szSim_v0 (K : TRes → Prop) (a : TSim) (left : Int) (h :
  ((p_sz (α := List Int) a.2.1 left) ∧ (((decide ((m_sz (α := List Int) a.2.1 left) < (0 : Int))) = true → K (l_szSim_R (-1 : Int))) ∧ ((decide ((m_sz (α := List Int) a.2.1 left) < (0 : Int))) = false → ((p_sz (α := List Int) a.2.2.1 (m_sz (α := List Int) a.2.1 left)) ∧ (((decide ((m_sz (α := List Int) a.2.2.1 (m_sz (α := List Int) a.2.1 left)) < (0 : Int))) = true → K (l_szSim_R (-1 : Int))) ∧ ((decide ((m_sz (α := List Int) a.2.2.1 (m_sz (α := List Int) a.2.1 left)) < (0 : Int))) = false → K (l_szSim_R (m_sz (α := List Int) a.2.2.1 (m_sz (α := List Int) a.2.1 left)))))))))) : Hold (tawp l_szSim_G 0 l_szSim_c (TQ 0 l_szSim_rs K) (tstart [(.a [(.c TI a.1), (.c (.sl [TI]) a.2.1), (.c (.sl [TI]) a.2.2.1), (.c .bool a.2.2.2)]), (.c TI left)])) :=
  Hold.of (by kernel_rfl) h
theorem l_szSim_t (a : TSim) (left : Int) (r : TRes) (h : Hold (tawp l_szSim_G 0 l_szSim_c (TQ 0 l_szSim_rs fun r' => r' = r) (tstart [(.a [(.c TI a.1), (.c (.sl [TI]) a.2.1), (.c (.sl [TI]) a.2.2.1), (.c .bool a.2.2.2)]), (.c TI left)]))) : TCon Try.prog 20 [(.a [(.c TI a.1), (.c (.sl [TI]) a.2.1), (.c (.sl [TI]) a.2.2.1), (.c .bool a.2.2.2)]), (.c TI left)] r :=
  tcon_gen (sg := [(.a [TI, (.sl [TI]), (.sl [TI]), .bool]), (.c TI)]) mixed (TOk.cons l_szIntS_ok TOk.nil) l_szSim_st (by kernel_rfl) (by kernel_rfl) (by kernel_rfl) h
theorem l_szSim_h : l_szSim_C := by
  intro a left hp
  refine tcon_bd rfl fun hb => l_szSim_t a left _ (l_szSim_v0 _ a left ?_)
  refine ⟨hp, fun h => R_eq (sz_neg (of_decide_eq_true h) (by simp only [sz_prod, sz_int, sz_bool]; omega) hp.1), fun h => ?_⟩
  rw [sz_step (Int.not_lt.1 (of_decide_eq_false h))]
  refine ⟨pl_szN hp, fun h => R_eq (sz_neg (of_decide_eq_true h) (by simp only [sz_prod, sz_int, sz_bool]; omega) hp.1), fun h => ?_⟩
  exact R_eq (congrArg (m_szN · _) (by simp only [sz_prod, sz_int, sz_bool]; omega))

theorem l_szSim_ok : TRowOk Try.prog l_szSim_row := by
  intro vs pre r hf hr hp
  simp only [l_szSim_row] at hr
  split at hr
  · rename_i a0_0 a0_1 a0_2 a0_3 a1; cases hr; exact l_szSim_h (a0_0, a0_1, a0_2, a0_3) a1 hp
  · cases hr

def l_toSim_n : FuncId := 22
def l_toSim_R (t : TSim) : TRes := ⟨(.a [(.c TI t.1), (.c (.sl [TI]) t.2.1), (.c (.sl [TI]) t.2.2.1), (.c .bool t.2.2.2)]), [], [], true⟩
def l_toSim_row : TRow := ⟨22, [(.a [TI, (.sl [TI]), (.sl [TI]), .bool])], fun
  | [.a [.c (.int .i64) a0_0, .c (.sl [(.int .i64)]) a0_1, .c (.sl [(.int .i64)]) a0_2, .c .bool a0_3]] => some (some (p_to (α := TSim) (a0_0, a0_1, a0_2, a0_3)), ⟨(.a [(.c TI ((id (α := TSim) (a0_0, a0_1, a0_2, a0_3)).1)), (.c (.sl [TI]) ((id (α := TSim) (a0_0, a0_1, a0_2, a0_3)).2.1)), (.c (.sl [TI]) ((id (α := TSim) (a0_0, a0_1, a0_2, a0_3)).2.2.1)), (.c .bool ((id (α := TSim) (a0_0, a0_1, a0_2, a0_3)).2.2.2))]), [], [], true⟩)
  | _ => none⟩
def l_toSim_C : Prop := ∀ (x0 : TSim), (p_to (α := TSim) x0) → TCon Try.prog 22 [(.a [(.c TI x0.1), (.c (.sl [TI]) x0.2.1), (.c (.sl [TI]) x0.2.2.1), (.c .bool x0.2.2.2)])] (l_toSim_R (id (α := TSim) x0))

/-! laws.toSim -/
def l_toSim_G : List TRow := [l_toIntS_row]
def l_toSim_c : TCode :=
  (.seq (.reg [.op (some 1) (.box 35 (.s 0) 4),
    .op (some 2) (.new 38 [(.c TI (0 : Int)), (.n [TI]), (.n [TI]), (.c .bool false)])])
 (.seq (.reg [.op (some 3) (.new 38 [(.c TI (0 : Int)), (.n [TI]), (.n [TI]), (.c .bool false)])])
  (.seq (.reg [.op (some 4) (.fad (.s 1) 0),
      .op (some 5) (.load (.s 4) 1 false),
      .op (some 6) (.fad (.s 3) 0),
      .op none (.store (.s 6) (.s 5) 1)])
   (.seq (.reg [.op (some 7) (.fad (.s 1) 1),
       .op (some 8) (.load (.s 7) 1 false),
       .op (some 9) (.call 35 [(.s 8)]),
       .op (some 10) (.fad (.s 3) 1),
       .op none (.store (.s 10) (.s 9) 1)])
    (.seq (.reg [.op (some 11) (.fad (.s 1) 2),
        .op (some 12) (.load (.s 11) 1 false),
        .op (some 13) (.call 35 [(.s 12)]),
        .op (some 14) (.fad (.s 3) 2),
        .op none (.store (.s 14) (.s 13) 1)])
     (.seq (.reg [.op (some 15) (.fad (.s 1) 3),
         .op (some 16) (.load (.s 15) 1 false),
         .op (some 17) (.fad (.s 3) 3),
         .op none (.store (.s 17) (.s 16) 1)])
      (.seq (.reg [.op (some 18) (.load (.s 3) 4 true),
          .op none (.store (.s 2) (.s 18) 4)])
       .ret)))))))
def l_toSim_rs : List (ARv × Md) := [(.l 2 4 true, .b [.d, .d, .d, .d])]
theorem l_toSim_st : compF Try.prog 22 = some (l_toSim_c.er, l_toSim_rs.map Prod.fst, 19) := by kernel_rfl
def l_toSim_Q (K : TRes → Prop) : TPost := TQ 0 l_toSim_rs K
theorem l_toSim_v0 (K : TRes → Prop) (a : TSim) (h :
  ((p_to (α := List Int) a.2.1) ∧ ((p_to (α := List Int) a.2.2.1) ∧ K (l_toSim_R (a.1, (id (α := List Int) a.2.1), (id (α := List Int) a.2.2.1), a.2.2.2))))) : Hold (tawp l_toSim_G 0 l_toSim_c (TQ 0 l_toSim_rs K) (tstart [(.a [(.c TI a.1), (.c (.sl [TI]) a.2.1), (.c (.sl [TI]) a.2.2.1), (.c .bool a.2.2.2)])])) :=
  Hold.of (by kernel_rfl) h
theorem l_toSim_t (a : TSim) (r : TRes) (h : Hold (tawp l_toSim_G 0 l_toSim_c (TQ 0 l_toSim_rs fun r' => r' = r) (tstart [(.a [(.c TI a.1), (.c (.sl [TI]) a.2.1), (.c (.sl [TI]) a.2.2.1), (.c .bool a.2.2.2)])]))) : TCon Try.prog 22 [(.a [(.c TI a.1), (.c (.sl [TI]) a.2.1), (.c (.sl [TI]) a.2.2.1), (.c .bool a.2.2.2)])] r :=
  tcon_gen (sg := [(.a [TI, (.sl [TI]), (.sl [TI]), .bool])]) mixed (TOk.cons l_toIntS_ok TOk.nil) l_toSim_st (by kernel_rfl) (by kernel_rfl) (by kernel_rfl) h
theorem l_toSim_h : l_toSim_C := by
  intro a hp
  refine tcon_bd rfl fun hb => l_toSim_t a _ (l_toSim_v0 _ a ?_)
  repeat' (first | exact rfl | refine And.intro ?_ ?_)
  all_goals (simp only [p_to, sz_prod, sz_int, sz_bool] at hp ⊢; omega)

theorem l_toSim_ok : TRowOk Try.prog l_toSim_row := by
  intro vs pre r hf hr hp
  simp only [l_toSim_row] at hr
  split at hr
  · rename_i a0_0 a0_1 a0_2 a0_3; cases hr; exact l_toSim_h (a0_0, a0_1, a0_2, a0_3) hp
  · cases hr

def l_eqSim_n : FuncId := 24
def l_eqSim_R (t : Bool) : TRes := ⟨(.c .bool t), [], [], false⟩
def l_eqSim_row : TRow := ⟨24, [(.a [TI, (.sl [TI]), (.sl [TI]), .bool]), (.a [TI, (.sl [TI]), (.sl [TI]), .bool])], fun
  | [.a [.c (.int .i64) a0_0, .c (.sl [(.int .i64)]) a0_1, .c (.sl [(.int .i64)]) a0_2, .c .bool a0_3], .a [.c (.int .i64) a1_0, .c (.sl [(.int .i64)]) a1_1, .c (.sl [(.int .i64)]) a1_2, .c .bool a1_3]] => some (none, ⟨(.c .bool (m_eq (α := TSim) (a0_0, a0_1, a0_2, a0_3) (a1_0, a1_1, a1_2, a1_3))), [], [], false⟩)
  | _ => none⟩
def l_eqSim_C : Prop := ∀ (x0 : TSim) (x1 : TSim), TCon Try.prog 24 [(.a [(.c TI x0.1), (.c (.sl [TI]) x0.2.1), (.c (.sl [TI]) x0.2.2.1), (.c .bool x0.2.2.2)]), (.a [(.c TI x1.1), (.c (.sl [TI]) x1.2.1), (.c (.sl [TI]) x1.2.2.1), (.c .bool x1.2.2.2)])] (l_eqSim_R (m_eq (α := TSim) x0 x1))

/-! laws.eqSim -/
def l_eqSim_G : List TRow := [l_eqIntS_row]
def l_eqSim_c : TCode :=
  (.seq (.reg [.op (some 2) (.box 38 (.s 0) 4),
    .op (some 3) (.box 38 (.s 1) 4),
    .op (some 4) (.mov (.k (.c .bool false)))])
 (.seq (.seq (.reg [.op (some 5) (.fad (.s 2) 0),
      .op (some 6) (.load (.s 5) 1 false),
      .op (some 7) (.fad (.s 3) 0),
      .op (some 8) (.load (.s 7) 1 false),
      .op (some 9) (.bin .neq (.s 6) (.s 8))])
   (.cond (.s 9) (.seq (.reg [.op (some 4) (.mov (.k (.c .bool false)))])
     .ret) .skip))
  (.seq (.seq (.reg [.op (some 10) (.fad (.s 2) 1),
       .op (some 11) (.load (.s 10) 1 false),
       .op (some 12) (.fad (.s 3) 1),
       .op (some 13) (.load (.s 12) 1 false),
       .op (some 14) (.call 36 [(.s 11), (.s 13)]),
       .op (some 15) (.not (.s 14))])
    (.cond (.s 15) (.seq (.reg [.op (some 4) (.mov (.k (.c .bool false)))])
      .ret) .skip))
   (.seq (.seq (.reg [.op (some 16) (.fad (.s 2) 2),
        .op (some 17) (.load (.s 16) 1 false),
        .op (some 18) (.fad (.s 3) 2),
        .op (some 19) (.load (.s 18) 1 false),
        .op (some 20) (.call 36 [(.s 17), (.s 19)]),
        .op (some 21) (.not (.s 20))])
     (.cond (.s 21) (.seq (.reg [.op (some 4) (.mov (.k (.c .bool false)))])
       .ret) .skip))
    (.seq (.seq (.reg [.op (some 22) (.fad (.s 2) 3),
         .op (some 23) (.load (.s 22) 1 false),
         .op (some 24) (.fad (.s 3) 3),
         .op (some 25) (.load (.s 24) 1 false),
         .op (some 26) (.eqb true (.s 23) (.s 25))])
      (.cond (.s 26) (.seq (.reg [.op (some 4) (.mov (.k (.c .bool false)))])
        .ret) .skip))
     (.seq (.reg [.op (some 4) (.mov (.k (.c .bool true)))])
      .ret))))))
def l_eqSim_rs : List (ARv × Md) := [(.t 4, .one .d)]
theorem l_eqSim_st : compF Try.prog 24 = some (l_eqSim_c.er, l_eqSim_rs.map Prod.fst, 27) := by kernel_rfl
def l_eqSim_Q (K : TRes → Prop) : TPost := TQ 0 l_eqSim_rs K
theorem l_eqSim_v0 (K : TRes → Prop) (a : TSim) (b : TSim) (h :
  (((a.1 != b.1) = true → K (l_eqSim_R false)) ∧ ((a.1 != b.1) = false → (((!(m_eq (α := List Int) a.2.1 b.2.1)) = true → K (l_eqSim_R false)) ∧ ((!(m_eq (α := List Int) a.2.1 b.2.1)) = false → (((!(m_eq (α := List Int) a.2.2.1 b.2.2.1)) = true → K (l_eqSim_R false)) ∧ ((!(m_eq (α := List Int) a.2.2.1 b.2.2.1)) = false → (((!(a.2.2.2 == b.2.2.2)) = true → K (l_eqSim_R false)) ∧ ((!(a.2.2.2 == b.2.2.2)) = false → K (l_eqSim_R true)))))))))) : Hold (tawp l_eqSim_G 0 l_eqSim_c (TQ 0 l_eqSim_rs K) (tstart [(.a [(.c TI a.1), (.c (.sl [TI]) a.2.1), (.c (.sl [TI]) a.2.2.1), (.c .bool a.2.2.2)]), (.a [(.c TI b.1), (.c (.sl [TI]) b.2.1), (.c (.sl [TI]) b.2.2.1), (.c .bool b.2.2.2)])])) :=
  Hold.of (by kernel_rfl) h
theorem l_eqSim_t (a : TSim) (b : TSim) (r : TRes) (h : Hold (tawp l_eqSim_G 0 l_eqSim_c (TQ 0 l_eqSim_rs fun r' => r' = r) (tstart [(.a [(.c TI a.1), (.c (.sl [TI]) a.2.1), (.c (.sl [TI]) a.2.2.1), (.c .bool a.2.2.2)]), (.a [(.c TI b.1), (.c (.sl [TI]) b.2.1), (.c (.sl [TI]) b.2.2.1), (.c .bool b.2.2.2)])]))) : TCon Try.prog 24 [(.a [(.c TI a.1), (.c (.sl [TI]) a.2.1), (.c (.sl [TI]) a.2.2.1), (.c .bool a.2.2.2)]), (.a [(.c TI b.1), (.c (.sl [TI]) b.2.1), (.c (.sl [TI]) b.2.2.1), (.c .bool b.2.2.2)])] r :=
  tcon_gen (sg := [(.a [TI, (.sl [TI]), (.sl [TI]), .bool]), (.a [TI, (.sl [TI]), (.sl [TI]), .bool])]) mixed (TOk.cons l_eqIntS_ok TOk.nil) l_eqSim_st (by kernel_rfl) (by kernel_rfl) (by kernel_rfl) h
theorem l_eqSim_h : l_eqSim_C := by
  intro a b
  refine tcon_bd rfl fun hb => l_eqSim_t a b _ (l_eqSim_v0 _ a b ?_)
  refine ⟨fun h => R_eq (Eq.symm (decide_eq_false (by rintro rfl; simp [m_eq] at h))), fun h0 => ?_⟩
  refine ⟨fun h => R_eq (Eq.symm (decide_eq_false (by rintro rfl; simp [m_eq] at h))), fun h1 => ?_⟩
  refine ⟨fun h => R_eq (Eq.symm (decide_eq_false (by rintro rfl; simp [m_eq] at h))), fun h2 => ?_⟩
  refine ⟨fun h => R_eq (Eq.symm (decide_eq_false (by rintro rfl; simp [m_eq] at h))), fun h3 => ?_⟩
  refine R_eq (Eq.symm (decide_eq_true ?_))
  simp [m_eq] at h0 h1 h2 h3
  simp [Prod.ext_iff, *]

theorem l_eqSim_ok : TRowOk Try.prog l_eqSim_row := by
  intro vs pre r hf hr hp
  simp only [l_eqSim_row] at hr
  split at hr
  · rename_i a0_0 a0_1 a0_2 a0_3 a1_0 a1_1 a1_2 a1_3; cases hr; exact l_eqSim_h (a0_0, a0_1, a0_2, a0_3) (a1_0, a1_1, a1_2, a1_3)
  · cases hr

def l_FnExactInFlight_n : FuncId := 6
def l_FnExactInFlight_R (t : Bool) : TRes := ⟨(.c .bool t), [], [], false⟩
def l_FnExactInFlight_row : TRow := ⟨6, [(.c (.sl [TI, TI]))], fun
  | [.c (.sl [(.int .i64), (.int .i64)]) a0] => some (none, ⟨(.c .bool (mTrue a0)), [], [], false⟩)
  | _ => none⟩
def l_FnExactInFlight_C : Prop := ∀ (x0 : List TIns), TCon Try.prog 6 [(.c (.sl [TI, TI]) x0)] (l_FnExactInFlight_R (mTrue x0))

/-! laws.FnExactInFlight -/
def l_FnExactInFlight_G : List TRow := [l_szInsS_row, l_toInsS_row, s_InFlight_row, i_InFlight_row, l_eqInsS_row]
def l_FnExactInFlight_c : TCode :=
  (.seq (.reg [.op (some 2) (.mov (.k (.c .bool false)))])
 (.seq (.reg [.op (some 3) (.mov (.k (.c TI (1048576 : Int))))])
  (.seq (.reg [.op (some 7) (.mov (.s 0)),
      .op (some 8) (.mov (.s 3)),
      .op (some 9) (.call 15 [(.s 7), (.s 8)]),
      .op (some 3) (.mov (.s 9))])
   (.seq (.seq (.reg [.op (some 10) (.mov (.s 3)),
        .op (some 11) (.bin .lss (.s 10) (.k (.c TI (0 : Int))))])
     (.cond (.s 11) (.seq (.reg [.op (some 2) (.mov (.k (.c .bool true)))])
       .ret) .skip))
    (.seq (.reg [.op (some 12) (.mov (.s 0)),
        .op (some 13) (.call 17 [(.s 12)]),
        .op (some 14) (.call 16 [(.s 13)]),
        .op (some 4) (.mov (.s 14))])
     (.seq (.reg [.op (some 15) (.mov (.s 0)),
         .op (some 16) (.call 17 [(.s 15)]),
         .op (some 5) (.mov (.s 16))])
      (.seq (.reg [.op (some 17) (.mov (.s 5)),
          .op (some 18) (.call 18 [(.s 17)]),
          .op (some 6) (.mov (.s 18))])
       (.seq (.seq (.reg [.op (some 19) (.mov (.s 6)),
            .op (some 20) (.mov (.s 4)),
            .op (some 21) (.bin .neq (.s 19) (.s 20))])
         (.cond (.s 21) (.seq (.reg [.op (some 2) (.mov (.k (.c .bool false)))])
           .ret) .skip))
        (.seq (.seq (.reg [.op (some 22) (.mov (.s 5)),
             .op (some 23) (.mov (.s 0)),
             .op (some 24) (.call 17 [(.s 23)]),
             .op (some 25) (.call 19 [(.s 22), (.s 24)]),
             .op (some 26) (.not (.s 25))])
          (.cond (.s 26) (.seq (.reg [.op (some 2) (.mov (.k (.c .bool false)))])
            .ret) .skip))
         (.seq (.reg [.op (some 2) (.mov (.k (.c .bool true)))])
          .ret))))))))))
def l_FnExactInFlight_rs : List (ARv × Md) := [(.t 2, .one .d)]
theorem l_FnExactInFlight_st : compF Try.prog 6 = some (l_FnExactInFlight_c.er, l_FnExactInFlight_rs.map Prod.fst, 27) := by kernel_rfl
def l_FnExactInFlight_Q (K : TRes → Prop) : TPost := TQ 0 l_FnExactInFlight_rs K
theorem l_FnExactInFlight_v0 (K : TRes → Prop) (aL : List TIns) (h :
  ((p_sz (α := List TIns) aL (1048576 : Int)) ∧ (((decide ((m_sz (α := List TIns) aL (1048576 : Int)) < (0 : Int))) = true → K (l_FnExactInFlight_R true)) ∧ ((decide ((m_sz (α := List TIns) aL (1048576 : Int)) < (0 : Int))) = false → ((p_to (α := List TIns) aL) ∧ ((p_to (α := List TIns) aL) ∧ ((((m_inFlight (id (α := List TIns) aL)) != (m_inFlight (id (α := List TIns) aL))) = true → K (l_FnExactInFlight_R false)) ∧ (((m_inFlight (id (α := List TIns) aL)) != (m_inFlight (id (α := List TIns) aL))) = false → ((p_to (α := List TIns) aL) ∧ (((!(m_eq (α := List TIns) (id (α := List TIns) aL) (id (α := List TIns) aL))) = true → K (l_FnExactInFlight_R false)) ∧ ((!(m_eq (α := List TIns) (id (α := List TIns) aL) (id (α := List TIns) aL))) = false → K (l_FnExactInFlight_R true)))))))))))) : Hold (tawp l_FnExactInFlight_G 0 l_FnExactInFlight_c (TQ 0 l_FnExactInFlight_rs K) (tstart [(.c (.sl [TI, TI]) aL)])) :=
  Hold.of (by kernel_rfl) h
theorem l_FnExactInFlight_t (aL : List TIns) (r : TRes) (h : Hold (tawp l_FnExactInFlight_G 0 l_FnExactInFlight_c (TQ 0 l_FnExactInFlight_rs fun r' => r' = r) (tstart [(.c (.sl [TI, TI]) aL)]))) : TCon Try.prog 6 [(.c (.sl [TI, TI]) aL)] r :=
  tcon_gen (sg := [(.c (.sl [TI, TI]))]) mixed (TOk.cons l_szInsS_ok (TOk.cons l_toInsS_ok (TOk.cons s_InFlight_ok (TOk.cons i_InFlight_ok (TOk.cons l_eqInsS_ok TOk.nil))))) l_FnExactInFlight_st (by kernel_rfl) (by kernel_rfl) (by kernel_rfl) h
theorem l_FnExactInFlight_h : l_FnExactInFlight_C := by
  intro aL
  refine tcon_bd rfl fun hb => l_FnExactInFlight_t aL _ (l_FnExactInFlight_v0 _ aL ?_)
  refine ⟨pl_0, fun _ => rfl, fun g_aL => ?_⟩
  have q_aL := law_p (of_decide_eq_false g_aL) (Int.le_refl _)
  simp [m_eq, mTrue, q_aL]

theorem l_FnExactInFlight_ok : TRowOk Try.prog l_FnExactInFlight_row := by
  intro vs pre r hf hr hp
  simp only [l_FnExactInFlight_row] at hr
  split at hr
  · rename_i a0; cases hr; exact l_FnExactInFlight_h a0
  · cases hr

def l_FnExactQueueOk_n : FuncId := 8
def l_FnExactQueueOk_R (t : Bool) : TRes := ⟨(.c .bool t), [], [], false⟩
def l_FnExactQueueOk_row : TRow := ⟨8, [(.a [TI, (.sl [TI, (.sl [TI])])])], fun
  | [.a [.c (.int .i64) a0_0, .c (.sl [(.int .i64), (.sl [(.int .i64)])]) a0_1]] => some (none, ⟨(.c .bool (mTrue (a0_0, a0_1))), [], [], false⟩)
  | _ => none⟩
def l_FnExactQueueOk_C : Prop := ∀ (x0 : TQueue), TCon Try.prog 8 [(.a [(.c TI x0.1), (.c (.sl [TI, (.sl [TI])]) x0.2)])] (l_FnExactQueueOk_R (mTrue x0))

/-! laws.FnExactQueueOk -/
def l_FnExactQueueOk_G : List TRow := [l_szQueue_row, l_toQueue_row, s_QueueOk_row, i_QueueOk_row, l_eqQueue_row]
def l_FnExactQueueOk_c : TCode :=
  (.seq (.reg [.op (some 1) (.box 44 (.s 0) 2),
    .op (some 2) (.mov (.k (.c .bool false)))])
 (.seq (.reg [.op (some 3) (.mov (.k (.c TI (1048576 : Int))))])
  (.seq (.reg [.op (some 7) (.load (.s 1) 2 true),
      .op (some 8) (.mov (.s 3)),
      .op (some 9) (.call 25 [(.s 7), (.s 8)]),
      .op (some 3) (.mov (.s 9))])
   (.seq (.seq (.reg [.op (some 10) (.mov (.s 3)),
        .op (some 11) (.bin .lss (.s 10) (.k (.c TI (0 : Int))))])
     (.cond (.s 11) (.seq (.reg [.op (some 2) (.mov (.k (.c .bool true)))])
       .ret) .skip))
    (.seq (.reg [.op (some 12) (.load (.s 1) 2 true),
        .op (some 13) (.call 27 [(.s 12)]),
        .op (some 14) (.call 26 [(.s 13)]),
        .op (some 4) (.mov (.s 14))])
     (.seq (.reg [.op (some 15) (.load (.s 1) 2 true),
         .op (some 16) (.call 27 [(.s 15)]),
         .op (some 5) (.new 49 [(.c TI (0 : Int)), (.n [TI, (.sl [TI])])]),
         .op none (.store (.s 5) (.s 16) 2)])
      (.seq (.reg [.op (some 17) (.load (.s 5) 2 true),
          .op (some 18) (.call 28 [(.s 17)]),
          .op (some 6) (.mov (.s 18))])
       (.seq (.seq (.reg [.op (some 19) (.mov (.s 6)),
            .op (some 20) (.mov (.s 4)),
            .op (some 21) (.eqb true (.s 19) (.s 20))])
         (.cond (.s 21) (.seq (.reg [.op (some 2) (.mov (.k (.c .bool false)))])
           .ret) .skip))
        (.seq (.seq (.draw [.op (some 22) (.load (.s 5) 2 true),
             .op (some 23) (.load (.s 1) 2 true),
             .op (some 24) (.call 27 [(.s 23)]),
             .op (some 25) (.call 29 [(.s 22), (.s 24)]),
             .op (some 26) (.not (.s 25))] [(0, 2)])
          (.cond (.s 26) (.seq (.reg [.op (some 2) (.mov (.k (.c .bool false)))])
            .ret) .skip))
         (.seq (.reg [.op (some 2) (.mov (.k (.c .bool true)))])
          .ret))))))))))
def l_FnExactQueueOk_rs : List (ARv × Md) := [(.t 2, .one .d)]
theorem l_FnExactQueueOk_st : compF Try.prog 8 = some (l_FnExactQueueOk_c.er, l_FnExactQueueOk_rs.map Prod.fst, 27) := by kernel_rfl
def l_FnExactQueueOk_Q (K : TRes → Prop) : TPost := TQ 0 l_FnExactQueueOk_rs K
theorem l_FnExactQueueOk_v0 (K : TRes → Prop) (aQ : TQueue) (h :
  ((p_sz (α := TQueue) aQ (1048576 : Int)) ∧ (((decide ((m_sz (α := TQueue) aQ (1048576 : Int)) < (0 : Int))) = true → K (l_FnExactQueueOk_R true)) ∧ ((decide ((m_sz (α := TQueue) aQ (1048576 : Int)) < (0 : Int))) = false → ((p_to (α := TQueue) aQ) ∧ ((p_to (α := TQueue) aQ) ∧ (((!((m_queueOk (id (α := TQueue) aQ)) == (m_queueOk (id (α := TQueue) aQ)))) = true → K (l_FnExactQueueOk_R false)) ∧ ((!((m_queueOk (id (α := TQueue) aQ)) == (m_queueOk (id (α := TQueue) aQ)))) = false → ((p_to (α := TQueue) aQ) ∧ (((!(m_eq (α := TQueue) (id (α := TQueue) aQ) (id (α := TQueue) aQ))) = true → K (l_FnExactQueueOk_R false)) ∧ ((!(m_eq (α := TQueue) (id (α := TQueue) aQ) (id (α := TQueue) aQ))) = false → K (l_FnExactQueueOk_R true)))))))))))) : Hold (tawp l_FnExactQueueOk_G 0 l_FnExactQueueOk_c (TQ 0 l_FnExactQueueOk_rs K) (tstart [(.a [(.c TI aQ.1), (.c (.sl [TI, (.sl [TI])]) aQ.2)])])) :=
  Hold.of (by kernel_rfl) h
theorem l_FnExactQueueOk_t (aQ : TQueue) (r : TRes) (h : Hold (tawp l_FnExactQueueOk_G 0 l_FnExactQueueOk_c (TQ 0 l_FnExactQueueOk_rs fun r' => r' = r) (tstart [(.a [(.c TI aQ.1), (.c (.sl [TI, (.sl [TI])]) aQ.2)])]))) : TCon Try.prog 8 [(.a [(.c TI aQ.1), (.c (.sl [TI, (.sl [TI])]) aQ.2)])] r :=
  tcon_gen (sg := [(.a [TI, (.sl [TI, (.sl [TI])])])]) mixed (TOk.cons l_szQueue_ok (TOk.cons l_toQueue_ok (TOk.cons s_QueueOk_ok (TOk.cons i_QueueOk_ok (TOk.cons l_eqQueue_ok TOk.nil))))) l_FnExactQueueOk_st (by kernel_rfl) (by kernel_rfl) (by kernel_rfl) h
theorem l_FnExactQueueOk_h : l_FnExactQueueOk_C := by
  intro aQ
  refine tcon_bd rfl fun hb => l_FnExactQueueOk_t aQ _ (l_FnExactQueueOk_v0 _ aQ ?_)
  refine ⟨pl_0, fun _ => rfl, fun g_aQ => ?_⟩
  have q_aQ := law_p (of_decide_eq_false g_aQ) (Int.le_refl _)
  simp [m_eq, mTrue, q_aQ]

theorem l_FnExactQueueOk_ok : TRowOk Try.prog l_FnExactQueueOk_row := by
  intro vs pre r hf hr hp
  simp only [l_FnExactQueueOk_row] at hr
  split at hr
  · rename_i a0_0 a0_1; cases hr; exact l_FnExactQueueOk_h (a0_0, a0_1)
  · cases hr

def l_FnExactBubble_n : FuncId := 7
def l_FnExactBubble_R (t : Bool) : TRes := ⟨(.c .bool t), [], [], false⟩
def l_FnExactBubble_row : TRow := ⟨7, [(.a [TI, (.sl [TI]), (.sl [TI]), .bool])], fun
  | [.a [.c (.int .i64) a0_0, .c (.sl [(.int .i64)]) a0_1, .c (.sl [(.int .i64)]) a0_2, .c .bool a0_3]] => some (none, ⟨(.c .bool (mTrue (a0_0, a0_1, a0_2, a0_3))), [], [], false⟩)
  | _ => none⟩
def l_FnExactBubble_C : Prop := ∀ (x0 : TSim), TCon Try.prog 7 [(.a [(.c TI x0.1), (.c (.sl [TI]) x0.2.1), (.c (.sl [TI]) x0.2.2.1), (.c .bool x0.2.2.2)])] (l_FnExactBubble_R (mTrue x0))

/-! laws.FnExactBubble -/
def l_FnExactBubble_G : List TRow := [l_szSim_row, l_toSim_row, s_Bubble_row, i_Bubble_row, l_eqSim_row]
def l_FnExactBubble_c : TCode :=
  (.seq (.reg [.op (some 1) (.box 35 (.s 0) 4),
    .op (some 2) (.mov (.k (.c .bool false)))])
 (.seq (.reg [.op (some 3) (.mov (.k (.c TI (1048576 : Int))))])
  (.seq (.reg [.op (some 7) (.load (.s 1) 4 true),
      .op (some 8) (.mov (.s 3)),
      .op (some 9) (.call 20 [(.s 7), (.s 8)]),
      .op (some 3) (.mov (.s 9))])
   (.seq (.seq (.reg [.op (some 10) (.mov (.s 3)),
        .op (some 11) (.bin .lss (.s 10) (.k (.c TI (0 : Int))))])
     (.cond (.s 11) (.seq (.reg [.op (some 2) (.mov (.k (.c .bool true)))])
       .ret) .skip))
    (.seq (.reg [.op (some 12) (.load (.s 1) 4 true),
        .op (some 13) (.call 22 [(.s 12)]),
        .op (some 14) (.call 21 [(.s 13)]),
        .op (some 4) (.mov (.s 14))])
     (.seq (.reg [.op (some 15) (.load (.s 1) 4 true),
         .op (some 16) (.call 22 [(.s 15)]),
         .op (some 5) (.new 38 [(.c TI (0 : Int)), (.n [TI]), (.n [TI]), (.c .bool false)]),
         .op none (.store (.s 5) (.s 16) 4)])
      (.seq (.reg [.op (some 17) (.load (.s 5) 4 true),
          .op (some 18) (.call 23 [(.s 17)]),
          .op (some 6) (.mov (.s 18))])
       (.seq (.seq (.reg [.op (some 19) (.mov (.s 6)),
            .op (some 20) (.mov (.s 4)),
            .op (some 21) (.bin .neq (.s 19) (.s 20))])
         (.cond (.s 21) (.seq (.reg [.op (some 2) (.mov (.k (.c .bool false)))])
           .ret) .skip))
        (.seq (.seq (.draw [.op (some 22) (.load (.s 5) 4 true),
             .op (some 23) (.load (.s 1) 4 true),
             .op (some 24) (.call 22 [(.s 23)]),
             .op (some 25) (.call 24 [(.s 22), (.s 24)]),
             .op (some 26) (.not (.s 25))] [(0, 2)])
          (.cond (.s 26) (.seq (.reg [.op (some 2) (.mov (.k (.c .bool false)))])
            .ret) .skip))
         (.seq (.reg [.op (some 2) (.mov (.k (.c .bool true)))])
          .ret))))))))))
def l_FnExactBubble_rs : List (ARv × Md) := [(.t 2, .one .d)]
theorem l_FnExactBubble_st : compF Try.prog 7 = some (l_FnExactBubble_c.er, l_FnExactBubble_rs.map Prod.fst, 27) := by kernel_rfl
def l_FnExactBubble_Q (K : TRes → Prop) : TPost := TQ 0 l_FnExactBubble_rs K
theorem l_FnExactBubble_v0 (K : TRes → Prop) (aS : TSim) (h :
  ((p_sz (α := TSim) aS (1048576 : Int)) ∧ (((decide ((m_sz (α := TSim) aS (1048576 : Int)) < (0 : Int))) = true → K (l_FnExactBubble_R true)) ∧ ((decide ((m_sz (α := TSim) aS (1048576 : Int)) < (0 : Int))) = false → ((p_to (α := TSim) aS) ∧ ((p_to (α := TSim) aS) ∧ ((((m_bubble (id (α := TSim) aS)) != (m_bubble (id (α := TSim) aS))) = true → K (l_FnExactBubble_R false)) ∧ (((m_bubble (id (α := TSim) aS)) != (m_bubble (id (α := TSim) aS))) = false → ((p_to (α := TSim) aS) ∧ (((!(m_eq (α := TSim) (id (α := TSim) aS) (id (α := TSim) aS))) = true → K (l_FnExactBubble_R false)) ∧ ((!(m_eq (α := TSim) (id (α := TSim) aS) (id (α := TSim) aS))) = false → K (l_FnExactBubble_R true)))))))))))) : Hold (tawp l_FnExactBubble_G 0 l_FnExactBubble_c (TQ 0 l_FnExactBubble_rs K) (tstart [(.a [(.c TI aS.1), (.c (.sl [TI]) aS.2.1), (.c (.sl [TI]) aS.2.2.1), (.c .bool aS.2.2.2)])])) :=
  Hold.of (by kernel_rfl) h
theorem l_FnExactBubble_t (aS : TSim) (r : TRes) (h : Hold (tawp l_FnExactBubble_G 0 l_FnExactBubble_c (TQ 0 l_FnExactBubble_rs fun r' => r' = r) (tstart [(.a [(.c TI aS.1), (.c (.sl [TI]) aS.2.1), (.c (.sl [TI]) aS.2.2.1), (.c .bool aS.2.2.2)])]))) : TCon Try.prog 7 [(.a [(.c TI aS.1), (.c (.sl [TI]) aS.2.1), (.c (.sl [TI]) aS.2.2.1), (.c .bool aS.2.2.2)])] r :=
  tcon_gen (sg := [(.a [TI, (.sl [TI]), (.sl [TI]), .bool])]) mixed (TOk.cons l_szSim_ok (TOk.cons l_toSim_ok (TOk.cons s_Bubble_ok (TOk.cons i_Bubble_ok (TOk.cons l_eqSim_ok TOk.nil))))) l_FnExactBubble_st (by kernel_rfl) (by kernel_rfl) (by kernel_rfl) h
theorem l_FnExactBubble_h : l_FnExactBubble_C := by
  intro aS
  refine tcon_bd rfl fun hb => l_FnExactBubble_t aS _ (l_FnExactBubble_v0 _ aS ?_)
  refine ⟨pl_0, fun _ => rfl, fun g_aS => ?_⟩
  have q_aS := law_p (of_decide_eq_false g_aS) (Int.le_refl _)
  simp [m_eq, mTrue, q_aS]

theorem l_FnExactBubble_ok : TRowOk Try.prog l_FnExactBubble_row := by
  intro vs pre r hf hr hp
  simp only [l_FnExactBubble_row] at hr
  split at hr
  · rename_i a0_0 a0_1 a0_2 a0_3; cases hr; exact l_FnExactBubble_h (a0_0, a0_1, a0_2, a0_3)
  · cases hr

end
end Go.Proofs.Ytjigmfomaoanmaa.Am
