/-
  Written by program: the code of functions, what it asks, and that it comes to what the models say.
-/
import Derived.Test.YtephkbajoofeoaaP1
namespace Go.Proofs.Ytephkbajoofeoaa.Am
open Go Go.RowKit Go.Proofs.Ytephkbajoofeoaa
set_option linter.unusedVariables false
set_option linter.unusedSimpArgs false
noncomputable section

def i_planned_R (t : Bool) : TRes := ⟨(.c .bool t), [], [], false, []⟩
def i_planned_row : TRow := mkRow 106 [(.c TI), (.c TI), (.c TI)] fun x => (none, i_planned_R (m_planned x.1 x.2.1 x.2.2.1))
def i_planned_C : Prop := ∀ (x0 : Int) (x1 : Int) (x2 : Int), TCon Try.prog 106 [(.c TI x0), (.c TI x1), (.c TI x2)] (i_planned_R (m_planned x0 x1 x2))

/-! impl.planned -/
def i_planned_G : List TRow := []
def i_planned_c : TCode :=
  (.seq (.reg [.op (some 6) (.mov (.k (.c .bool false)))])
 (.seq (.reg [.op (some 7) (.mov (.s 0)),
     .op (some 8) (.bin .geq (.s 7) (.k (.c TI (1 : Int)))),
     .op (some 9) (.mov (.s 8)),
     .grp 9 true [.op (some 10) (.mov (.s 0)), .op (some 11) (.bin .leq (.s 10) (.k (.c TI (4 : Int))))] 12 (.s 11),
     .op (some 13) (.mov (.s 12)),
     .grp 13 true [.op (some 14) (.mov (.s 1)), .op (some 15) (.bin .geq (.s 14) (.k (.c TI (0 : Int))))] 16 (.s 15),
     .op (some 17) (.mov (.s 16)),
     .grp 17 true [.op (some 18) (.mov (.s 1)), .op (some 19) (.mov (.s 0)), .op (some 20) (.bin .lss (.s 18) (.s 19))] 21 (.s 20),
     .op (some 22) (.mov (.s 21)),
     .grp 22 true [.op (some 23) (.mov (.s 2)), .op (some 24) (.bin .geq (.s 23) (.k (.c TI (1 : Int))))] 25 (.s 24),
     .op (some 26) (.mov (.s 25)),
     .grp 26 true [.op (some 27) (.mov (.s 2)), .op (some 28) (.bin .leq (.s 27) (.k (.c TI (5 : Int))))] 29 (.s 28),
     .op (some 6) (.mov (.s 29))])
  .ret))
def i_planned_rs : List (ARv × Md) := [(.t 6, .one .d)]
theorem i_planned_st : compF Try.prog 106 = some (i_planned_c.er, i_planned_rs.map Prod.fst, 30) := by kernel_rfl
def i_planned_Q (K : TRes → Prop) : TPost := TQ 0 0 i_planned_rs K
theorem i_planned_v0 (K : TRes → Prop) (stages : Int) (s : Int) (micro : Int) (h :
  K (i_planned_R ((((((decide (stages ≥ (1 : Int))) && (decide (stages ≤ (4 : Int)))) && (decide (s ≥ (0 : Int)))) && (decide (s < stages))) && (decide (micro ≥ (1 : Int)))) && (decide (micro ≤ (5 : Int)))))) : Hold (tawp i_planned_G (0 + 0) i_planned_c (TQ 0 0 i_planned_rs K) (tstart [(.c TI stages), (.c TI s), (.c TI micro)])) :=
  Hold.of (by kernel_rfl) h
theorem i_planned_t (stages : Int) (s : Int) (micro : Int) (r : TRes) (h : Hold (tawp i_planned_G (0 + 0) i_planned_c (TQ 0 0 i_planned_rs fun r' => r' = r) (tstart [(.c TI stages), (.c TI s), (.c TI micro)]))) : TCon Try.prog 106 [(.c TI stages), (.c TI s), (.c TI micro)] r :=
  tcon_gen (sg := [(.c TI), (.c TI), (.c TI)]) mixed TOk.nil i_planned_st (by kernel_rfl) (by kernel_rfl) (by kernel_rfl) (by kernel_rfl) h
theorem i_planned_h : i_planned_C := by
  intro stages s micro
  refine tcon_bd rfl fun hb => i_planned_t stages s micro _ (i_planned_v0 _ stages s micro ?_)
  exact R_eq (by grind [m_planned, m_in])

theorem i_planned_ok : TRowOk Try.prog i_planned_row := rowOk fun x _ => i_planned_h x.1 x.2.1 x.2.2.1

def s_WarmUp_R (t : Int) : TRes := ⟨(.c TI t), [], [], false, []⟩
def s_WarmUp_row : TRow := mkRow 103 [(.c TI), (.c TI), (.c TI), (.c TI)] fun x => (none, s_WarmUp_R (m_warmUp x.1 x.2.1 x.2.2.1 x.2.2.2.1))
def s_WarmUp_C : Prop := ∀ (x0 : Int) (x1 : Int) (x2 : Int) (x3 : Int), TCon Try.prog 103 [(.c TI x0), (.c TI x1), (.c TI x2), (.c TI x3)] (s_WarmUp_R (m_warmUp x0 x1 x2 x3))

/-! spec.WarmUp -/
def s_WarmUp_G : List TRow := [s_l1In_row]
def s_WarmUp_c : TCode :=
  (.seq (.reg [.op (some 8) (.mov (.k (.c TI (0 : Int))))])
 (.seq (.seq (.reg [.op (some 9) (.mov (.s 1)),
      .op (some 10) (.call 102 [(.s 9), (.k (.c TI (1 : Int))), (.k (.c TI (4 : Int)))]),
      .op (some 11) (.not (.s 10)),
      .op (some 12) (.mov (.s 11)),
      .grp 12 false [.op (some 13) (.mov (.s 2)), .op (some 14) (.mov (.s 1)), .op (some 15) (.bin .sub (.s 14) (.k (.c TI (1 : Int)))), .op (some 16) (.call 102 [(.s 13), (.k (.c TI (0 : Int))), (.s 15)]), .op (some 17) (.not (.s 16))] 18 (.s 17),
      .op (some 19) (.mov (.s 18)),
      .grp 19 false [.op (some 20) (.mov (.s 3)), .op (some 21) (.call 102 [(.s 20), (.k (.c TI (1 : Int))), (.k (.c TI (5 : Int)))]), .op (some 22) (.not (.s 21))] 23 (.s 22)])
   (.cond (.s 23) (.seq (.reg [.op (some 8) (.mov (.k (.c TI (0 : Int))))])
     .ret) .skip))
  (.seq (.seq (.reg [.op (some 24) (.mov (.s 0)),
       .op (some 25) (.bin .eql (.s 24) (.k (.c TI (2 : Int))))])
    (.cond (.s 25) (.seq (.reg [.op (some 26) (.mov (.s 3)),
         .op (some 27) (.mov (.s 1)),
         .op (some 28) (.bin .sub (.s 27) (.k (.c TI (1 : Int)))),
         .op (some 29) (.mov (.s 2)),
         .op (some 30) (.bin .sub (.s 28) (.s 29)),
         .op (some 31) (.mm false (.s 26) (.s 30)),
         .op (some 8) (.mov (.s 31))])
      .ret) .skip))
   (.seq (.reg [.op (some 32) (.mov (.s 3)),
       .op (some 8) (.mov (.s 32))])
    .ret))))
def s_WarmUp_rs : List (ARv × Md) := [(.t 8, .one .d)]
theorem s_WarmUp_st : compF Try.prog 103 = some (s_WarmUp_c.er, s_WarmUp_rs.map Prod.fst, 33) := by kernel_rfl
def s_WarmUp_Q (K : TRes → Prop) : TPost := TQ 0 0 s_WarmUp_rs K
theorem s_WarmUp_v0 (K : TRes → Prop) (ds : Int) (stages : Int) (s : Int) (micro : Int) (h :
  (((((!(m_in stages (1 : Int) (4 : Int))) || (!(m_in s (0 : Int) (w64 (stages - (1 : Int)))))) || (!(m_in micro (1 : Int) (5 : Int)))) = true → K (s_WarmUp_R (0 : Int))) ∧ ((((!(m_in stages (1 : Int) (4 : Int))) || (!(m_in s (0 : Int) (w64 (stages - (1 : Int)))))) || (!(m_in micro (1 : Int) (5 : Int)))) = false → (((ds == (2 : Int)) = true → K (s_WarmUp_R (if (w64 ((w64 (stages - (1 : Int))) - s)) < micro then (w64 ((w64 (stages - (1 : Int))) - s)) else micro))) ∧ ((ds == (2 : Int)) = false → K (s_WarmUp_R micro)))))) : Hold (tawp s_WarmUp_G (0 + 0) s_WarmUp_c (TQ 0 0 s_WarmUp_rs K) (tstart [(.c TI ds), (.c TI stages), (.c TI s), (.c TI micro)])) :=
  Hold.of (by kernel_rfl) h
theorem s_WarmUp_t (ds : Int) (stages : Int) (s : Int) (micro : Int) (r : TRes) (h : Hold (tawp s_WarmUp_G (0 + 0) s_WarmUp_c (TQ 0 0 s_WarmUp_rs fun r' => r' = r) (tstart [(.c TI ds), (.c TI stages), (.c TI s), (.c TI micro)]))) : TCon Try.prog 103 [(.c TI ds), (.c TI stages), (.c TI s), (.c TI micro)] r :=
  tcon_gen (sg := [(.c TI), (.c TI), (.c TI), (.c TI)]) mixed (TOk.cons s_l1In_ok TOk.nil) s_WarmUp_st (by kernel_rfl) (by kernel_rfl) (by kernel_rfl) (by kernel_rfl) h
theorem s_WarmUp_h : s_WarmUp_C := by
  intro ds stages s micro
  refine tcon_bd rfl fun hb => s_WarmUp_t ds stages s micro _ (s_WarmUp_v0 _ ds stages s micro ?_)
  by_cases h0 : m_in stages 1 4 = true
  · have h1 := m_in_iff.1 h0
    rw [w64_ok (x := stages - 1) (by omega) (by omega)]
    refine ⟨fun h => R_eq (by grind [m_warmUp, m_planned]), fun h => ?_⟩
    have h2 : m_in s 0 (stages - 1) = true := by grind
    have h3 := m_in_iff.1 h2
    rw [w64_ok (x := stages - 1 - s) (by omega) (by omega)]
    grind [m_warmUp, m_planned, iMin]
  · refine ⟨fun h => R_eq (by grind [m_warmUp, m_planned]), fun h => by grind⟩

theorem s_WarmUp_ok : TRowOk Try.prog s_WarmUp_row := rowOk fun x _ => s_WarmUp_h x.1 x.2.1 x.2.2.1 x.2.2.2.1

def i_WarmUp_R (t : Int) : TRes := ⟨(.c TI t), [], [], false, []⟩
def i_WarmUp_row : TRow := mkRow 54 [(.c TI), (.c TI), (.c TI), (.c TI)] fun x => (none, i_WarmUp_R (m_warmUp x.1 x.2.1 x.2.2.1 x.2.2.2.1))
def i_WarmUp_C : Prop := ∀ (x0 : Int) (x1 : Int) (x2 : Int) (x3 : Int), TCon Try.prog 54 [(.c TI x0), (.c TI x1), (.c TI x2), (.c TI x3)] (i_WarmUp_R (m_warmUp x0 x1 x2 x3))

/-! impl.WarmUp -/
def i_WarmUp_G : List TRow := [i_planned_row]
def i_WarmUp_c : TCode :=
  (.seq (.reg [.op (some 8) (.mov (.k (.c TI (0 : Int))))])
 (.seq (.seq (.reg [.op (some 9) (.mov (.s 1)),
      .op (some 10) (.mov (.s 2)),
      .op (some 11) (.mov (.s 3)),
      .op (some 12) (.call 106 [(.s 9), (.s 10), (.s 11)]),
      .op (some 13) (.not (.s 12))])
   (.cond (.s 13) (.seq (.reg [.op (some 8) (.mov (.k (.c TI (0 : Int))))])
     .ret) .skip))
  (.seq (.seq (.reg [.op (some 14) (.mov (.s 0)),
       .op (some 15) (.bin .eql (.s 14) (.k (.c TI (2 : Int))))])
    (.cond (.s 15) (.seq (.reg [.op (some 16) (.mov (.s 3)),
         .op (some 17) (.mov (.s 1)),
         .op (some 18) (.bin .sub (.s 17) (.k (.c TI (1 : Int)))),
         .op (some 19) (.mov (.s 2)),
         .op (some 20) (.bin .sub (.s 18) (.s 19)),
         .op (some 21) (.mm false (.s 16) (.s 20)),
         .op (some 8) (.mov (.s 21))])
      .ret) .skip))
   (.seq (.reg [.op (some 22) (.mov (.s 3)),
       .op (some 8) (.mov (.s 22))])
    .ret))))
def i_WarmUp_rs : List (ARv × Md) := [(.t 8, .one .d)]
theorem i_WarmUp_st : compF Try.prog 54 = some (i_WarmUp_c.er, i_WarmUp_rs.map Prod.fst, 23) := by kernel_rfl
def i_WarmUp_Q (K : TRes → Prop) : TPost := TQ 0 0 i_WarmUp_rs K
theorem i_WarmUp_v0 (K : TRes → Prop) (ds : Int) (stages : Int) (s : Int) (micro : Int) (h :
  (((!(m_planned stages s micro)) = true → K (i_WarmUp_R (0 : Int))) ∧ ((!(m_planned stages s micro)) = false → (((ds == (2 : Int)) = true → K (i_WarmUp_R (if (w64 ((w64 (stages - (1 : Int))) - s)) < micro then (w64 ((w64 (stages - (1 : Int))) - s)) else micro))) ∧ ((ds == (2 : Int)) = false → K (i_WarmUp_R micro)))))) : Hold (tawp i_WarmUp_G (0 + 0) i_WarmUp_c (TQ 0 0 i_WarmUp_rs K) (tstart [(.c TI ds), (.c TI stages), (.c TI s), (.c TI micro)])) :=
  Hold.of (by kernel_rfl) h
theorem i_WarmUp_t (ds : Int) (stages : Int) (s : Int) (micro : Int) (r : TRes) (h : Hold (tawp i_WarmUp_G (0 + 0) i_WarmUp_c (TQ 0 0 i_WarmUp_rs fun r' => r' = r) (tstart [(.c TI ds), (.c TI stages), (.c TI s), (.c TI micro)]))) : TCon Try.prog 54 [(.c TI ds), (.c TI stages), (.c TI s), (.c TI micro)] r :=
  tcon_gen (sg := [(.c TI), (.c TI), (.c TI), (.c TI)]) mixed (TOk.cons i_planned_ok TOk.nil) i_WarmUp_st (by kernel_rfl) (by kernel_rfl) (by kernel_rfl) (by kernel_rfl) h
theorem i_WarmUp_h : i_WarmUp_C := by
  intro ds stages s micro
  refine tcon_bd rfl fun hb => i_WarmUp_t ds stages s micro _ (i_WarmUp_v0 _ ds stages s micro ?_)
  refine ⟨fun h => R_eq (by grind [m_warmUp]), fun h => ?_⟩
  have hp : m_planned stages s micro = true := by simpa using h
  have h2 := hp
  simp only [m_planned, Bool.and_eq_true, m_in_iff] at h2
  rw [w64_ok (x := stages - 1) (by omega) (by omega), w64_ok (x := stages - 1 - s) (by omega) (by omega)]
  grind [m_warmUp, iMin]

theorem i_WarmUp_ok : TRowOk Try.prog i_WarmUp_row := rowOk fun x _ => i_WarmUp_h x.1 x.2.1 x.2.2.1 x.2.2.2.1

end
end Go.Proofs.Ytephkbajoofeoaa.Am
