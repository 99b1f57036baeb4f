/-
  Written by program: the code of functions, what it asks, and that it comes to what the models say.
-/
import Derived.Test.YtephkbajoofeoaaM5
namespace Go.Proofs.Ytephkbajoofeoaa.Am
open Go Go.RowKit Go.Proofs.Ytephkbajoofeoaa
set_option linter.unusedVariables false
set_option linter.unusedSimpArgs false
noncomputable section

def s_l1In_R (t : Bool) : TRes := ⟨(.c .bool t), [], [], false, []⟩
def s_l1In_row : TRow := mkRow 102 [(.c TI), (.c TI), (.c TI)] fun x => (none, s_l1In_R (m_in x.1 x.2.1 x.2.2.1))
def s_l1In_C : Prop := ∀ (x0 : Int) (x1 : Int) (x2 : Int), TCon Try.prog 102 [(.c TI x0), (.c TI x1), (.c TI x2)] (s_l1In_R (m_in x0 x1 x2))

/-! spec.l1In -/
def s_l1In_G : List TRow := []
def s_l1In_c : TCode :=
  (.seq (.reg [.op (some 6) (.mov (.k (.c .bool false)))])
 (.seq (.reg [.op (some 7) (.mov (.s 0)),
     .op (some 8) (.mov (.s 1)),
     .op (some 9) (.bin .geq (.s 7) (.s 8)),
     .op (some 10) (.mov (.s 9)),
     .grp 10 true [.op (some 11) (.mov (.s 0)), .op (some 12) (.mov (.s 2)), .op (some 13) (.bin .leq (.s 11) (.s 12))] 14 (.s 13),
     .op (some 6) (.mov (.s 14))])
  .ret))
def s_l1In_rs : List (ARv × Md) := [(.t 6, .one .d)]
theorem s_l1In_st : compF Try.prog 102 = some (s_l1In_c.er, s_l1In_rs.map Prod.fst, 15) := by kernel_rfl
def s_l1In_Q (K : TRes → Prop) : TPost := TQ 0 0 s_l1In_rs K
theorem s_l1In_v0 (K : TRes → Prop) (x : Int) (low : Int) (high : Int) (h :
  K (s_l1In_R ((decide (x ≥ low)) && (decide (x ≤ high))))) : Hold (tawp s_l1In_G (0 + 0) s_l1In_c (TQ 0 0 s_l1In_rs K) (tstart [(.c TI x), (.c TI low), (.c TI high)])) :=
  Hold.of (by kernel_rfl) h
theorem s_l1In_t (x : Int) (low : Int) (high : Int) (r : TRes) (h : Hold (tawp s_l1In_G (0 + 0) s_l1In_c (TQ 0 0 s_l1In_rs fun r' => r' = r) (tstart [(.c TI x), (.c TI low), (.c TI high)]))) : TCon Try.prog 102 [(.c TI x), (.c TI low), (.c TI high)] r :=
  tcon_gen (sg := [(.c TI), (.c TI), (.c TI)]) mixed TOk.nil s_l1In_st (by kernel_rfl) (by kernel_rfl) (by kernel_rfl) (by kernel_rfl) h
theorem s_l1In_h : s_l1In_C := by
  intro x low high
  refine tcon_bd rfl fun hb => s_l1In_t x low high _ (s_l1In_v0 _ x low high ?_)
  exact R_eq rfl

theorem s_l1In_ok : TRowOk Try.prog s_l1In_row := rowOk fun x _ => s_l1In_h x.1 x.2.1 x.2.2.1

def s_FixOk_R (t : Bool) : TRes := ⟨(.c .bool t), [], [], false, []⟩
def s_FixOk_row : TRow := mkRow 122 [(.c TI)] fun x => (none, s_FixOk_R (m_fixOk x.1))
def s_FixOk_C : Prop := ∀ (x0 : Int), TCon Try.prog 122 [(.c TI x0)] (s_FixOk_R (m_fixOk x0))

/-! spec.FixOk -/
def s_FixOk_G : List TRow := [s_l1In_row]
def s_FixOk_c : TCode :=
  (.seq (.reg [.op (some 2) (.mov (.k (.c .bool false)))])
 (.seq (.reg [.op (some 3) (.mov (.s 0)),
     .op (some 4) (.call 102 [(.s 3), (.k (.c TI (-2147483647 : Int))), (.k (.c TI (2147483647 : Int)))]),
     .op (some 2) (.mov (.s 4))])
  .ret))
def s_FixOk_rs : List (ARv × Md) := [(.t 2, .one .d)]
theorem s_FixOk_st : compF Try.prog 122 = some (s_FixOk_c.er, s_FixOk_rs.map Prod.fst, 5) := by kernel_rfl
def s_FixOk_Q (K : TRes → Prop) : TPost := TQ 0 0 s_FixOk_rs K
theorem s_FixOk_v0 (K : TRes → Prop) (x : Int) (h :
  K (s_FixOk_R (m_in x (-2147483647 : Int) (2147483647 : Int)))) : Hold (tawp s_FixOk_G (0 + 0) s_FixOk_c (TQ 0 0 s_FixOk_rs K) (tstart [(.c TI x)])) :=
  Hold.of (by kernel_rfl) h
theorem s_FixOk_t (x : Int) (r : TRes) (h : Hold (tawp s_FixOk_G (0 + 0) s_FixOk_c (TQ 0 0 s_FixOk_rs fun r' => r' = r) (tstart [(.c TI x)]))) : TCon Try.prog 122 [(.c TI x)] r :=
  tcon_gen (sg := [(.c TI)]) mixed (TOk.cons s_l1In_ok TOk.nil) s_FixOk_st (by kernel_rfl) (by kernel_rfl) (by kernel_rfl) (by kernel_rfl) h
theorem s_FixOk_h : s_FixOk_C := by
  intro x
  refine tcon_bd rfl fun hb => s_FixOk_t x _ (s_FixOk_v0 _ x ?_)
  exact R_eq rfl

theorem s_FixOk_ok : TRowOk Try.prog s_FixOk_row := rowOk fun x _ => s_FixOk_h x.1

def i_FixOk_R (t : Bool) : TRes := ⟨(.c .bool t), [], [], false, []⟩
def i_FixOk_row : TRow := mkRow 206 [(.c TI)] fun x => (none, i_FixOk_R (m_fixOk x.1))
def i_FixOk_C : Prop := ∀ (x0 : Int), TCon Try.prog 206 [(.c TI x0)] (i_FixOk_R (m_fixOk x0))

/-! impl.FixOk -/
def i_FixOk_G : List TRow := []
def i_FixOk_c : TCode :=
  (.seq (.reg [.op (some 2) (.mov (.k (.c .bool false)))])
 (.seq (.reg [.op (some 3) (.mov (.s 0)),
     .op (some 4) (.bin .geq (.s 3) (.k (.c TI (-2147483647 : Int)))),
     .op (some 5) (.mov (.s 4)),
     .grp 5 true [.op (some 6) (.mov (.s 0)), .op (some 7) (.bin .leq (.s 6) (.k (.c TI (2147483647 : Int))))] 8 (.s 7),
     .op (some 2) (.mov (.s 8))])
  .ret))
def i_FixOk_rs : List (ARv × Md) := [(.t 2, .one .d)]
theorem i_FixOk_st : compF Try.prog 206 = some (i_FixOk_c.er, i_FixOk_rs.map Prod.fst, 9) := by kernel_rfl
def i_FixOk_Q (K : TRes → Prop) : TPost := TQ 0 0 i_FixOk_rs K
theorem i_FixOk_v0 (K : TRes → Prop) (x : Int) (h :
  K (i_FixOk_R ((decide (x ≥ (-2147483647 : Int))) && (decide (x ≤ (2147483647 : Int)))))) : Hold (tawp i_FixOk_G (0 + 0) i_FixOk_c (TQ 0 0 i_FixOk_rs K) (tstart [(.c TI x)])) :=
  Hold.of (by kernel_rfl) h
theorem i_FixOk_t (x : Int) (r : TRes) (h : Hold (tawp i_FixOk_G (0 + 0) i_FixOk_c (TQ 0 0 i_FixOk_rs fun r' => r' = r) (tstart [(.c TI x)]))) : TCon Try.prog 206 [(.c TI x)] r :=
  tcon_gen (sg := [(.c TI)]) mixed TOk.nil i_FixOk_st (by kernel_rfl) (by kernel_rfl) (by kernel_rfl) (by kernel_rfl) h
theorem i_FixOk_h : i_FixOk_C := by
  intro x
  refine tcon_bd rfl fun hb => i_FixOk_t x _ (i_FixOk_v0 _ x ?_)
  exact R_eq rfl

theorem i_FixOk_ok : TRowOk Try.prog i_FixOk_row := rowOk fun x _ => i_FixOk_h x.1

def i_allFix_R (t : Bool) : TRes := ⟨(.c .bool t), [], [], false, []⟩
def i_allFix_row : TRow := mkRow 190 [(.c (.sl [TI]))] fun x => (none, i_allFix_R (m_allFix x.1))
def i_allFix_C : Prop := ∀ (x0 : List Int), TCon Try.prog 190 [(.c (.sl [TI]) x0)] (i_allFix_R (m_allFix x0))

/-! impl.allFix -/
def i_allFix_G : List TRow := [i_FixOk_row]
def i_allFix_b2 : TCode :=
  (.seq (.reg [.op (some 8) (.bin .lss (.s 7) (.s 6))])
 (.seq (.cond (.s 8) .skip (.exit 0))
  (.seq (.block 1 (.seq (.reg [.op (some 9) (.iad (.s 5) (.s 7) [TI]),
        .op (some 10) (.load (.s 9) 1 false),
        .op (some 4) (.mov (.s 10))])
     (.seq (.reg [.op (some 11) (.mov (.s 4)),
         .op (some 12) (.call 206 [(.s 11)]),
         .op (some 13) (.not (.s 12))])
      (.cond (.s 13) (.seq (.reg [.op (some 2) (.mov (.k (.c .bool false)))])
        .ret) .skip))))
   (.reg [.op (some 14) (.bin .add (.s 7) (.k (.c TI (1 : Int)))),
      .op (some 7) (.mov (.s 14))]))))
def i_allFix_L2 : List (Nat × Md) := [(5, .one .d), (6, .one .d), (7, .one .d)]
def i_allFix_y1 : TCode :=
  (.seq (.reg [.op (some 2) (.mov (.k (.c .bool true)))])
 .ret)
def i_allFix_c : TCode :=
  (.seq (.reg [.op (some 2) (.mov (.k (.c .bool false)))])
 (.seq (.seq (.reg [.op (some 5) (.mov (.s 0)),
      .op (some 6) (.len (.s 5)),
      .op (some 7) (.mov (.k (.c TI (0 : Int))))])
   (.block 0 (.loop i_allFix_L2 i_allFix_b2)))
  i_allFix_y1))
def i_allFix_rs : List (ARv × Md) := [(.t 2, .one .d)]
theorem i_allFix_st : compF Try.prog 190 = some (i_allFix_c.er, i_allFix_rs.map Prod.fst, 15) := by kernel_rfl
def i_allFix_Q (K : TRes → Prop) : TPost := TQ 0 0 i_allFix_rs K
def i_allFix_q1 (K : TRes → Prop) : TPost := Qseq (tawp i_allFix_G 0 i_allFix_y1 (i_allFix_Q K)) (i_allFix_Q K)
def i_allFix_q2 (K : TRes → Prop) : TPost := Qblk 0 (i_allFix_q1 K)
def i_allFix_A2 (K : TRes → Prop) (v : List Int) (x : Int) : Prop := Loop i_allFix_G 0 i_allFix_L2 i_allFix_b2 (i_allFix_q2 K) ⟨[(5, (.c (.sl [TI]) v)), (6, (.c TI (v.length : Int))), (7, (.c TI x))], [], 0⟩
theorem i_allFix_v2 (K : TRes → Prop) (v : List Int) (x : Int) (h :
  (((decide (x < (v.length : Int))) = true → (((0 : Int) ≤ x ∧ Int.toNat x < v.length) ∧ (((!(m_fixOk (gtd (0 : Int) v (Int.toNat x)))) = true → K (i_allFix_R false)) ∧ ((!(m_fixOk (gtd (0 : Int) v (Int.toNat x)))) = false → (i_allFix_A2 K v (w64 (x + (1 : Int)))))))) ∧ ((decide (x < (v.length : Int))) = false → K (i_allFix_R true)))) : i_allFix_A2 K v x :=
  Loop.of (by kernel_rfl) h
theorem i_allFix_v0 (K : TRes → Prop) (v : List Int) (h :
  (i_allFix_A2 K v (0 : Int))) : Hold (tawp i_allFix_G (0 + 0) i_allFix_c (TQ 0 0 i_allFix_rs K) (tstart [(.c (.sl [TI]) v)])) :=
  Hold.of (by kernel_rfl) h
theorem i_allFix_t (v : List Int) (r : TRes) (h : Hold (tawp i_allFix_G (0 + 0) i_allFix_c (TQ 0 0 i_allFix_rs fun r' => r' = r) (tstart [(.c (.sl [TI]) v)]))) : TCon Try.prog 190 [(.c (.sl [TI]) v)] r :=
  tcon_gen (sg := [(.c (.sl [TI]))]) mixed (TOk.cons i_FixOk_ok TOk.nil) i_allFix_st (by kernel_rfl) (by kernel_rfl) (by kernel_rfl) (by kernel_rfl) h
theorem i_allFix_h : i_allFix_C := by
  intro v
  refine tcon_bd rfl fun hb => i_allFix_t v _ (i_allFix_v0 _ v ?_)
  have hl_v : v.length ≤ 9223372036854775807 := hb.1.1
  exact allLoop (Q := fun x => i_allFix_R x = i_allFix_R (m_allFix v)) (p := m_fixOk) (c := fun x => !(m_fixOk x)) 0 hl_v (fun _ => rfl) (fun i h => i_allFix_v2 _ v i h) (R_eq (by simp [m_allFix]))

theorem i_allFix_ok : TRowOk Try.prog i_allFix_row := rowOk fun x _ => i_allFix_h x.1

def s_VecOk_R (t : Bool) : TRes := ⟨(.c .bool t), [], [], false, []⟩
def s_VecOk_row : TRow := mkRow 31 [(.c (.sl [TI]))] fun x => (none, s_VecOk_R (m_vecOk x.1))
def s_VecOk_C : Prop := ∀ (x0 : List Int), TCon Try.prog 31 [(.c (.sl [TI]) x0)] (s_VecOk_R (m_vecOk x0))

/-! spec.VecOk -/
def s_VecOk_G : List TRow := [s_FixOk_row, s_l1In_row]
def s_VecOk_b2 : TCode :=
  (.seq (.seq (.reg [.op (some 4) (.mov (.s 3)),
     .op (some 5) (.mov (.s 0)),
     .op (some 6) (.len (.s 5)),
     .op (some 7) (.bin .lss (.s 4) (.s 6))])
  (.cond (.s 7) .skip (.exit 0)))
 (.seq (.block 1 (.seq (.reg [.op (some 10) (.mov (.s 0)),
       .op (some 11) (.mov (.s 3)),
       .op (some 12) (.iad (.s 10) (.s 11) [TI]),
       .op (some 13) (.load (.s 12) 1 false),
       .op (some 14) (.call 122 [(.s 13)]),
       .op (some 15) (.not (.s 14))])
    (.cond (.s 15) (.seq (.reg [.op (some 2) (.mov (.k (.c .bool false)))])
      .ret) .skip)))
  (.reg [.op (some 8) (.mov (.s 3)),
     .op (some 9) (.bin .add (.s 8) (.k (.c TI (1 : Int)))),
     .op (some 3) (.mov (.s 9))])))
def s_VecOk_L2 : List (Nat × Md) := [(0, .one .d), (3, .one .d)]
def s_VecOk_y1 : TCode :=
  (.seq (.reg [.op (some 16) (.mov (.s 0)),
    .op (some 17) (.len (.s 16)),
    .op (some 18) (.call 102 [(.s 17), (.k (.c TI (1 : Int))), (.k (.c TI (6 : Int)))]),
    .op (some 2) (.mov (.s 18))])
 .ret)
def s_VecOk_c : TCode :=
  (.seq (.reg [.op (some 2) (.mov (.k (.c .bool false)))])
 (.seq (.seq (.reg [.op (some 3) (.mov (.k (.c TI (0 : Int))))])
   (.block 0 (.loop s_VecOk_L2 s_VecOk_b2)))
  s_VecOk_y1))
def s_VecOk_rs : List (ARv × Md) := [(.t 2, .one .d)]
theorem s_VecOk_st : compF Try.prog 31 = some (s_VecOk_c.er, s_VecOk_rs.map Prod.fst, 19) := by kernel_rfl
def s_VecOk_Q (K : TRes → Prop) : TPost := TQ 0 0 s_VecOk_rs K
def s_VecOk_q1 (K : TRes → Prop) : TPost := Qseq (tawp s_VecOk_G 0 s_VecOk_y1 (s_VecOk_Q K)) (s_VecOk_Q K)
def s_VecOk_q2 (K : TRes → Prop) : TPost := Qblk 0 (s_VecOk_q1 K)
def s_VecOk_A2 (K : TRes → Prop) (v : List Int) (i : Int) : Prop := Loop s_VecOk_G 0 s_VecOk_L2 s_VecOk_b2 (s_VecOk_q2 K) ⟨[(0, (.c (.sl [TI]) v)), (3, (.c TI i))], [], 0⟩
theorem s_VecOk_v2 (K : TRes → Prop) (v : List Int) (i : Int) (h :
  (((decide (i < (v.length : Int))) = true → (((0 : Int) ≤ i ∧ Int.toNat i < v.length) ∧ (((!(m_fixOk (gtd (0 : Int) v (Int.toNat i)))) = true → K (s_VecOk_R false)) ∧ ((!(m_fixOk (gtd (0 : Int) v (Int.toNat i)))) = false → (s_VecOk_A2 K v (w64 (i + (1 : Int)))))))) ∧ ((decide (i < (v.length : Int))) = false → K (s_VecOk_R (m_in (v.length : Int) (1 : Int) (6 : Int)))))) : s_VecOk_A2 K v i :=
  Loop.of (by kernel_rfl) h
theorem s_VecOk_v0 (K : TRes → Prop) (v : List Int) (h :
  (s_VecOk_A2 K v (0 : Int))) : Hold (tawp s_VecOk_G (0 + 0) s_VecOk_c (TQ 0 0 s_VecOk_rs K) (tstart [(.c (.sl [TI]) v)])) :=
  Hold.of (by kernel_rfl) h
theorem s_VecOk_t (v : List Int) (r : TRes) (h : Hold (tawp s_VecOk_G (0 + 0) s_VecOk_c (TQ 0 0 s_VecOk_rs fun r' => r' = r) (tstart [(.c (.sl [TI]) v)]))) : TCon Try.prog 31 [(.c (.sl [TI]) v)] r :=
  tcon_gen (sg := [(.c (.sl [TI]))]) mixed (TOk.cons s_FixOk_ok (TOk.cons s_l1In_ok TOk.nil)) s_VecOk_st (by kernel_rfl) (by kernel_rfl) (by kernel_rfl) (by kernel_rfl) h
theorem s_VecOk_h : s_VecOk_C := by
  intro v
  refine tcon_bd rfl fun hb => s_VecOk_t v _ (s_VecOk_v0 _ v ?_)
  have hl_v : v.length ≤ 9223372036854775807 := hb.1.1
  exact allLoop (Q := fun x => s_VecOk_R x = s_VecOk_R (m_vecOk v)) (p := m_fixOk) (c := fun x => !(m_fixOk x)) 0 hl_v (fun _ => rfl) (fun i h => s_VecOk_v2 _ v i h) (R_eq (by grind [m_vecOk, m_allFix]))

theorem s_VecOk_ok : TRowOk Try.prog s_VecOk_row := rowOk fun x _ => s_VecOk_h x.1

def i_VecOk_R (t : Bool) : TRes := ⟨(.c .bool t), [], [], false, []⟩
def i_VecOk_row : TRow := mkRow 185 [(.c (.sl [TI]))] fun x => (none, i_VecOk_R (m_vecOk x.1))
def i_VecOk_C : Prop := ∀ (x0 : List Int), TCon Try.prog 185 [(.c (.sl [TI]) x0)] (i_VecOk_R (m_vecOk x0))

/-! impl.VecOk -/
def i_VecOk_G : List TRow := [i_allFix_row]
def i_VecOk_c : TCode :=
  (.seq (.reg [.op (some 2) (.mov (.k (.c .bool false)))])
 (.seq (.reg [.op (some 3) (.mov (.s 0)),
     .op (some 4) (.len (.s 3)),
     .op (some 5) (.bin .geq (.s 4) (.k (.c TI (1 : Int)))),
     .op (some 6) (.mov (.s 5)),
     .grp 6 true [.op (some 7) (.mov (.s 0)), .op (some 8) (.len (.s 7)), .op (some 9) (.bin .leq (.s 8) (.k (.c TI (6 : Int))))] 10 (.s 9),
     .op (some 11) (.mov (.s 10)),
     .grp 11 true [.op (some 12) (.mov (.s 0)), .op (some 13) (.call 190 [(.s 12)])] 14 (.s 13),
     .op (some 2) (.mov (.s 14))])
  .ret))
def i_VecOk_rs : List (ARv × Md) := [(.t 2, .one .d)]
theorem i_VecOk_st : compF Try.prog 185 = some (i_VecOk_c.er, i_VecOk_rs.map Prod.fst, 15) := by kernel_rfl
def i_VecOk_Q (K : TRes → Prop) : TPost := TQ 0 0 i_VecOk_rs K
theorem i_VecOk_v0 (K : TRes → Prop) (v : List Int) (h :
  K (i_VecOk_R (((decide ((v.length : Int) ≥ (1 : Int))) && (decide ((v.length : Int) ≤ (6 : Int)))) && (m_allFix v)))) : Hold (tawp i_VecOk_G (0 + 0) i_VecOk_c (TQ 0 0 i_VecOk_rs K) (tstart [(.c (.sl [TI]) v)])) :=
  Hold.of (by kernel_rfl) h
theorem i_VecOk_t (v : List Int) (r : TRes) (h : Hold (tawp i_VecOk_G (0 + 0) i_VecOk_c (TQ 0 0 i_VecOk_rs fun r' => r' = r) (tstart [(.c (.sl [TI]) v)]))) : TCon Try.prog 185 [(.c (.sl [TI]) v)] r :=
  tcon_gen (sg := [(.c (.sl [TI]))]) mixed (TOk.cons i_allFix_ok TOk.nil) i_VecOk_st (by kernel_rfl) (by kernel_rfl) (by kernel_rfl) (by kernel_rfl) h
theorem i_VecOk_h : i_VecOk_C := by
  intro v
  refine tcon_bd rfl fun hb => i_VecOk_t v _ (i_VecOk_v0 _ v ?_)
  have hl_v : v.length ≤ 9223372036854775807 := hb.1.1
  exact R_eq (by grind [m_vecOk, m_in])

theorem i_VecOk_ok : TRowOk Try.prog i_VecOk_row := rowOk fun x _ => i_VecOk_h x.1

end
end Go.Proofs.Ytephkbajoofeoaa.Am
