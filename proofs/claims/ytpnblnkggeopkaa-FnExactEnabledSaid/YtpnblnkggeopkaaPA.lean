/-
  Written by program: the code of functions, what it asks, and that it comes to what the models say.
-/
import Derived.Test.YtpnblnkggeopkaaP1
import Derived.Test.YtpnblnkggeopkaaP9
import Derived.Test.YtpnblnkggeopkaaP2
namespace Go.Proofs.Ytpnblnkggeopkaa.Am
open Go Go.RowKit Go.Proofs.Ytpnblnkggeopkaa
set_option linter.unusedVariables false
set_option linter.unusedSimpArgs false
noncomputable section

def s_Next_R (t : TIns) : TRes := ⟨(.a [(.c TI t.1), (.c TI t.2)]), [], [], false⟩
def s_Next_row : TRow := mkRow 99 [(.a ctPipe), (.c TI)] fun x => (none, s_Next_R (m_next x.1 x.2.1))
def s_Next_C : Prop := ∀ (x0 : TPipe) (x1 : Int), TCon Try.prog 99 [(.a (Tup.cells ctPipe x0)), (.c TI x1)] (s_Next_R (m_next x0 x1))

/-! spec.Next -/
def s_Next_G : List TRow := [s_l1In_row]
def s_Next_c : TCode :=
  (.seq (.reg [.op (some 2) (.box 123 (.s 0) 4),
    .op (some 4) (.new 129 [(.c TI (0 : Int)), (.c TI (0 : Int))])])
 (.seq (.seq (.draw [.op (some 5) (.mov (.s 1)),
      .op (some 6) (.fad (.s 2) 1),
      .op (some 7) (.load (.s 6) 1 false),
      .op (some 8) (.len (.s 7)),
      .op (some 9) (.bin .sub (.s 8) (.k (.c TI (1 : Int)))),
      .op (some 10) (.call 121 [(.s 5), (.k (.c TI (0 : Int))), (.s 9)]),
      .op (some 11) (.not (.s 10)),
      .op (some 12) (.mov (.s 11)),
      .grp 12 false [.op (some 13) (.fad (.s 2) 1), .op (some 14) (.load (.s 13) 1 false), .op (some 15) (.mov (.s 1)), .op (some 16) (.iad (.s 14) (.s 15) ctStage), .op (some 17) (.fad (.s 16) 0), .op (some 18) (.load (.s 17) 1 false), .op (some 19) (.fad (.s 2) 1), .op (some 20) (.load (.s 19) 1 false), .op (some 21) (.mov (.s 1)), .op (some 22) (.iad (.s 20) (.s 21) ctStage), .op (some 23) (.fad (.s 22) 1), .op (some 24) (.load (.s 23) 1 false), .op (some 25) (.len (.s 24)), .op (some 26) (.bin .sub (.s 25) (.k (.c TI (1 : Int)))), .op (some 27) (.call 121 [(.s 18), (.k (.c TI (0 : Int))), (.s 26)]), .op (some 28) (.not (.s 27))] 29 (.s 28)] [])
   (.cond (.s 29) (.seq (.reg [.op (some 30) (.build [(.c TI (0 : Int)), (.c TI (0 : Int))] []),
        .op none (.store (.s 4) (.s 30) 2)])
     .ret) .skip))
  (.seq (.draw [.op (some 31) (.fad (.s 2) 1),
      .op (some 32) (.load (.s 31) 1 false),
      .op (some 33) (.mov (.s 1)),
      .op (some 34) (.iad (.s 32) (.s 33) ctStage),
      .op (some 35) (.fad (.s 34) 1),
      .op (some 36) (.load (.s 35) 1 false),
      .op (some 37) (.fad (.s 2) 1),
      .op (some 38) (.load (.s 37) 1 false),
      .op (some 39) (.mov (.s 1)),
      .op (some 40) (.iad (.s 38) (.s 39) ctStage),
      .op (some 41) (.fad (.s 40) 0),
      .op (some 42) (.load (.s 41) 1 false),
      .op (some 43) (.iad (.s 36) (.s 42) ctIns),
      .op (some 44) (.load (.s 43) 2 true),
      .op none (.store (.s 4) (.s 44) 2)] [])
   .ret)))
def s_Next_rs : List (ARv × Md) := [(.l 4 2 true, .b [.d, .d])]
theorem s_Next_st : compF Try.prog 99 = some (s_Next_c.er, s_Next_rs.map Prod.fst, 45) := by kernel_rfl
def s_Next_Q (K : TRes → Prop) : TPost := TQ 0 s_Next_rs K
theorem s_Next_v0 (K : TRes → Prop) (p : TPipe) (s : Int) (h :
  (((!(!(m_in s (0 : Int) (w64 (((p.2.1).length : Int) - (1 : Int)))))) = true → (((0 : Int) ≤ s ∧ Int.toNat s < (p.2.1).length) ∧ ((0 : Int) ≤ s ∧ Int.toNat s < (p.2.1).length))) ∧ ((((!(m_in s (0 : Int) (w64 (((p.2.1).length : Int) - (1 : Int))))) || (!(m_in ((gtd dStage p.2.1 (Int.toNat s)).1) (0 : Int) (w64 ((((gtd dStage p.2.1 (Int.toNat s)).2.1).length : Int) - (1 : Int)))))) = true → K (s_Next_R ((0 : Int), (0 : Int)))) ∧ (((!(m_in s (0 : Int) (w64 (((p.2.1).length : Int) - (1 : Int))))) || (!(m_in ((gtd dStage p.2.1 (Int.toNat s)).1) (0 : Int) (w64 ((((gtd dStage p.2.1 (Int.toNat s)).2.1).length : Int) - (1 : Int)))))) = false → ((((0 : Int) ≤ s ∧ Int.toNat s < (p.2.1).length) ∧ (((0 : Int) ≤ s ∧ Int.toNat s < (p.2.1).length) ∧ ((0 : Int) ≤ (gtd dStage p.2.1 (Int.toNat s)).1 ∧ Int.toNat ((gtd dStage p.2.1 (Int.toNat s)).1) < ((gtd dStage p.2.1 (Int.toNat s)).2.1).length))) ∧ K (s_Next_R (gtd dIns ((gtd dStage p.2.1 (Int.toNat s)).2.1) (Int.toNat ((gtd dStage p.2.1 (Int.toNat s)).1))))))))) : Hold (tawp s_Next_G 0 s_Next_c (TQ 0 s_Next_rs K) (tstart [(.a (Tup.cells ctPipe p)), (.c TI s)])) :=
  Hold.of (by kernel_rfl) h
theorem s_Next_t (p : TPipe) (s : Int) (r : TRes) (h : Hold (tawp s_Next_G 0 s_Next_c (TQ 0 s_Next_rs fun r' => r' = r) (tstart [(.a (Tup.cells ctPipe p)), (.c TI s)]))) : TCon Try.prog 99 [(.a (Tup.cells ctPipe p)), (.c TI s)] r :=
  tcon_gen (sg := [(.a ctPipe), (.c TI)]) mixed (TOk.cons s_l1In_ok TOk.nil) s_Next_st (by kernel_rfl) (by kernel_rfl) (by kernel_rfl) h
theorem s_Next_h : s_Next_C := by
  intro p s
  refine tcon_bd rfl fun hb => s_Next_t p s _ (s_Next_v0 _ p s ?_)
  have hl_p_0 : (p.1).length ≤ 9223372036854775807 := hb.1.1.1
  have hl_p_1 : (p.2.1).length ≤ 9223372036854775807 := hb.1.2.1.1
  have hl_p_2 : (p.2.2.1).length ≤ 9223372036854775807 := hb.1.2.2.1.1
  have hl_p_3 : (p.2.2.2).length ≤ 9223372036854775807 := hb.1.2.2.2.1.1
  have e1 : w64 ((p.2.1.length : Int) - 1) = p.2.1.length - 1 := w64_ok (by omega) (by omega)
  rw [e1]
  by_cases h0 : m_in s 0 (p.2.1.length - 1) = true
  · have h1 := m_in_iff.1 h0
    have hlt : s.toNat < p.2.1.length := by omega
    have hmem := gtd_mem hlt dStage
    have hbx : (gtd dStage p.2.1 s.toNat).2.1.length ≤ 9223372036854775807 := (hb.1.2.1.2 _ hmem).2.1.1
    rw [w64_ok (x := ((gtd dStage p.2.1 s.toNat).2.1.length : Int) - 1) (by omega) (by omega)]
    refine ⟨fun _ => ⟨⟨h1.1, hlt⟩, h1.1, hlt⟩, fun h => R_eq ?_, fun h => ⟨⟨⟨h1.1, hlt⟩, ⟨h1.1, hlt⟩, ?_⟩, R_eq ?_⟩⟩
    · simp [h0] at h
      simp [m_next, h0, m_next1, h]
    · simp [h0] at h
      have := m_in_iff.1 h
      omega
    · simp [h0] at h
      simp [m_next, h0, m_next1, h]
  · refine ⟨fun h => by simp [h0] at h, fun h => R_eq ?_, fun h => by simp [h0] at h⟩
    simp [m_next, h0]

theorem s_Next_ok : TRowOk Try.prog s_Next_row := rowOk fun x _ => s_Next_h x.1 x.2.1

def i_Next_R (t : TIns) : TRes := ⟨(.a [(.c TI t.1), (.c TI t.2)]), [], [], false⟩
def i_Next_row : TRow := mkRow 100 [(.a ctPipe), (.c TI)] fun x => (none, i_Next_R (m_next x.1 x.2.1))
def i_Next_C : Prop := ∀ (x0 : TPipe) (x1 : Int), TCon Try.prog 100 [(.a (Tup.cells ctPipe x0)), (.c TI x1)] (i_Next_R (m_next x0 x1))

/-! impl.Next -/
def i_Next_G : List TRow := []
def i_Next_c : TCode :=
  (.seq (.reg [.op (some 2) (.box 123 (.s 0) 4),
    .op (some 4) (.new 129 [(.c TI (0 : Int)), (.c TI (0 : Int))])])
 (.seq (.seq (.reg [.op (some 6) (.mov (.s 1)),
      .op (some 7) (.bin .lss (.s 6) (.k (.c TI (0 : Int)))),
      .op (some 8) (.mov (.s 7)),
      .grp 8 false [.op (some 9) (.mov (.s 1)), .op (some 10) (.fad (.s 2) 1), .op (some 11) (.load (.s 10) 1 false), .op (some 12) (.len (.s 11)), .op (some 13) (.bin .geq (.s 9) (.s 12))] 14 (.s 13)])
   (.cond (.s 14) (.seq (.reg [.op (some 15) (.build [(.c TI (0 : Int)), (.c TI (0 : Int))] []),
        .op none (.store (.s 4) (.s 15) 2)])
     .ret) .skip))
  (.seq (.reg [.op (some 16) (.fad (.s 2) 1),
      .op (some 17) (.load (.s 16) 1 false),
      .op (some 18) (.mov (.s 1)),
      .op (some 19) (.iad (.s 17) (.s 18) ctStage),
      .op (some 20) (.load (.s 19) 14 true),
      .op (some 5) (.new 100 [(.c TI (0 : Int)), (.n ctIns), (.n ctOp), (.c .bool false), (.c .bool false), (.n ctSaved), (.n [(.sl [TI])]), (.n [TI]), (.n [TI]), (.n [TI]), (.n [TI]), (.n [(.sl [TI])]), (.c TI (0 : Int)), (.c .bool false)]),
      .op none (.store (.s 5) (.s 20) 14)])
   (.seq (.seq (.reg [.op (some 21) (.fad (.s 5) 0),
        .op (some 22) (.load (.s 21) 1 false),
        .op (some 23) (.bin .lss (.s 22) (.k (.c TI (0 : Int)))),
        .op (some 24) (.mov (.s 23)),
        .grp 24 false [.op (some 25) (.fad (.s 5) 0), .op (some 26) (.load (.s 25) 1 false), .op (some 27) (.fad (.s 5) 1), .op (some 28) (.load (.s 27) 1 false), .op (some 29) (.len (.s 28)), .op (some 30) (.bin .geq (.s 26) (.s 29))] 31 (.s 30)])
     (.cond (.s 31) (.seq (.reg [.op (some 32) (.build [(.c TI (0 : Int)), (.c TI (0 : Int))] []),
          .op none (.store (.s 4) (.s 32) 2)])
       .ret) .skip))
    (.seq (.reg [.op (some 33) (.fad (.s 5) 1),
        .op (some 34) (.load (.s 33) 1 false),
        .op (some 35) (.fad (.s 5) 0),
        .op (some 36) (.load (.s 35) 1 false),
        .op (some 37) (.iad (.s 34) (.s 36) ctIns),
        .op (some 38) (.load (.s 37) 2 true),
        .op none (.store (.s 4) (.s 38) 2)])
     .ret)))))
def i_Next_rs : List (ARv × Md) := [(.l 4 2 true, .b [.d, .d])]
theorem i_Next_st : compF Try.prog 100 = some (i_Next_c.er, i_Next_rs.map Prod.fst, 39) := by kernel_rfl
def i_Next_Q (K : TRes → Prop) : TPost := TQ 0 i_Next_rs K
theorem i_Next_v0 (K : TRes → Prop) (p : TPipe) (s : Int) (h :
  ((((decide (s < (0 : Int))) || (decide (s ≥ ((p.2.1).length : Int)))) = true → K (i_Next_R ((0 : Int), (0 : Int)))) ∧ (((decide (s < (0 : Int))) || (decide (s ≥ ((p.2.1).length : Int)))) = false → (((0 : Int) ≤ s ∧ Int.toNat s < (p.2.1).length) ∧ ((((decide (((gtd dStage p.2.1 (Int.toNat s)).1) < (0 : Int))) || (decide (((gtd dStage p.2.1 (Int.toNat s)).1) ≥ (((gtd dStage p.2.1 (Int.toNat s)).2.1).length : Int)))) = true → K (i_Next_R ((0 : Int), (0 : Int)))) ∧ (((decide (((gtd dStage p.2.1 (Int.toNat s)).1) < (0 : Int))) || (decide (((gtd dStage p.2.1 (Int.toNat s)).1) ≥ (((gtd dStage p.2.1 (Int.toNat s)).2.1).length : Int)))) = false → (((0 : Int) ≤ (gtd dStage p.2.1 (Int.toNat s)).1 ∧ Int.toNat ((gtd dStage p.2.1 (Int.toNat s)).1) < ((gtd dStage p.2.1 (Int.toNat s)).2.1).length) ∧ K (i_Next_R (gtd dIns ((gtd dStage p.2.1 (Int.toNat s)).2.1) (Int.toNat ((gtd dStage p.2.1 (Int.toNat s)).1))))))))))) : Hold (tawp i_Next_G 0 i_Next_c (TQ 0 i_Next_rs K) (tstart [(.a (Tup.cells ctPipe p)), (.c TI s)])) :=
  Hold.of (by kernel_rfl) h
theorem i_Next_t (p : TPipe) (s : Int) (r : TRes) (h : Hold (tawp i_Next_G 0 i_Next_c (TQ 0 i_Next_rs fun r' => r' = r) (tstart [(.a (Tup.cells ctPipe p)), (.c TI s)]))) : TCon Try.prog 100 [(.a (Tup.cells ctPipe p)), (.c TI s)] r :=
  tcon_gen (sg := [(.a ctPipe), (.c TI)]) mixed TOk.nil i_Next_st (by kernel_rfl) (by kernel_rfl) (by kernel_rfl) h
theorem i_Next_h : i_Next_C := by
  intro p s
  refine tcon_bd rfl fun hb => i_Next_t p s _ (i_Next_v0 _ p s ?_)
  have hl_p_0 : (p.1).length ≤ 9223372036854775807 := hb.1.1.1
  have hl_p_1 : (p.2.1).length ≤ 9223372036854775807 := hb.1.2.1.1
  have hl_p_2 : (p.2.2.1).length ≤ 9223372036854775807 := hb.1.2.2.1.1
  have hl_p_3 : (p.2.2.2).length ≤ 9223372036854775807 := hb.1.2.2.2.1.1
  refine ⟨fun h => R_eq ?_, fun h => ?_⟩
  · have h0 : m_in s 0 (p.2.1.length - 1) = false := by simp at h; simp [m_in]; omega
    simp [m_next, h0]
  have h0 : m_in s 0 (p.2.1.length - 1) = true := by simp at h; simp [m_in]; omega
  have h1 := m_in_iff.1 h0
  have hlt : s.toNat < p.2.1.length := by omega
  refine ⟨⟨h1.1, hlt⟩, fun h => R_eq ?_, fun h => ?_⟩
  · have h2 : m_in (gtd dStage p.2.1 s.toNat).1 0 ((gtd dStage p.2.1 s.toNat).2.1.length - 1) = false := by simp at h; simp [m_in]; omega
    simp [m_next, h0, m_next1, h2]
  · have h2 : m_in (gtd dStage p.2.1 s.toNat).1 0 ((gtd dStage p.2.1 s.toNat).2.1.length - 1) = true := by simp at h; simp [m_in]; omega
    have h3 := m_in_iff.1 h2
    refine ⟨⟨h3.1, by omega⟩, R_eq ?_⟩
    simp [m_next, h0, m_next1, h2]

theorem i_Next_ok : TRowOk Try.prog i_Next_row := rowOk fun x _ => i_Next_h x.1 x.2.1

def s_l13All_R (t : Bool) : TRes := ⟨(.c .bool t), [], [], false⟩
def s_l13All_row : TRow := mkRow 173 [(.a ctPipe)] fun x => (none, s_l13All_R (m_all x.1))
def s_l13All_C : Prop := ∀ (x0 : TPipe), TCon Try.prog 173 [(.a (Tup.cells ctPipe x0))] (s_l13All_R (m_all x0))

/-! spec.l13All -/
def s_l13All_G : List TRow := []
def s_l13All_b2 : TCode :=
  (.seq (.seq (.reg [.op (some 4) (.mov (.s 3)),
     .op (some 5) (.fad (.s 1) 1),
     .op (some 6) (.load (.s 5) 1 false),
     .op (some 7) (.len (.s 6)),
     .op (some 8) (.bin .lss (.s 4) (.s 7))])
  (.cond (.s 8) .skip (.exit 0)))
 (.seq (.block 1 (.seq (.draw [.op (some 11) (.fad (.s 1) 1),
       .op (some 12) (.load (.s 11) 1 false),
       .op (some 13) (.mov (.s 3)),
       .op (some 14) (.iad (.s 12) (.s 13) ctStage),
       .op (some 15) (.fad (.s 14) 0),
       .op (some 16) (.load (.s 15) 1 false),
       .op (some 17) (.fad (.s 1) 1),
       .op (some 18) (.load (.s 17) 1 false),
       .op (some 19) (.mov (.s 3)),
       .op (some 20) (.iad (.s 18) (.s 19) ctStage),
       .op (some 21) (.fad (.s 20) 1),
       .op (some 22) (.load (.s 21) 1 false),
       .op (some 23) (.len (.s 22)),
       .op (some 24) (.bin .sub (.s 23) (.k (.c TI (1 : Int)))),
       .op (some 25) (.bin .lss (.s 16) (.s 24))] [])
    (.cond (.s 25) (.seq (.reg [.op (some 2) (.mov (.k (.c .bool false)))])
      .ret) .skip)))
  (.reg [.op (some 9) (.mov (.s 3)),
     .op (some 10) (.bin .add (.s 9) (.k (.c TI (1 : Int)))),
     .op (some 3) (.mov (.s 10))])))
def s_l13All_L2 : List (Nat × Md) := [(1, .b [.d, .d, .d, .d]), (3, .one .d)]
def s_l13All_y1 : TCode :=
  (.seq (.reg [.op (some 2) (.mov (.k (.c .bool true)))])
 .ret)
def s_l13All_c : TCode :=
  (.seq (.reg [.op (some 1) (.box 123 (.s 0) 4),
    .op (some 2) (.mov (.k (.c .bool false)))])
 (.seq (.seq (.reg [.op (some 3) (.mov (.k (.c TI (0 : Int))))])
   (.block 0 (.loop s_l13All_L2 s_l13All_b2)))
  s_l13All_y1))
def s_l13All_rs : List (ARv × Md) := [(.t 2, .one .d)]
theorem s_l13All_st : compF Try.prog 173 = some (s_l13All_c.er, s_l13All_rs.map Prod.fst, 26) := by kernel_rfl
def s_l13All_Q (K : TRes → Prop) : TPost := TQ 0 s_l13All_rs K
def s_l13All_q1 (K : TRes → Prop) : TPost := Qseq (tawp s_l13All_G 0 s_l13All_y1 (s_l13All_Q K)) (s_l13All_Q K)
def s_l13All_q2 (K : TRes → Prop) : TPost := Qblk 0 (s_l13All_q1 K)
def s_l13All_A2 (K : TRes → Prop) (p : TPipe) (s : Int) : Prop := Loop s_l13All_G 0 s_l13All_L2 s_l13All_b2 (s_l13All_q2 K) ⟨[(1, (.p 0 0 0)), (3, (.c TI s))], [(0, (.box [(.c (.sl ctPair) p.1), (.c (.sl ctStage) p.2.1), (.c (.sl ctQueue) p.2.2.1), (.c (.sl ctQueue) p.2.2.2)]))], 1⟩
theorem s_l13All_v2 (K : TRes → Prop) (p : TPipe) (s : Int) (h :
  (((decide (s < ((p.2.1).length : Int))) = true → ((((0 : Int) ≤ s ∧ Int.toNat s < (p.2.1).length) ∧ ((0 : Int) ≤ s ∧ Int.toNat s < (p.2.1).length)) ∧ (((decide (((gtd dStage p.2.1 (Int.toNat s)).1) < (w64 ((((gtd dStage p.2.1 (Int.toNat s)).2.1).length : Int) - (1 : Int))))) = true → K (s_l13All_R false)) ∧ ((decide (((gtd dStage p.2.1 (Int.toNat s)).1) < (w64 ((((gtd dStage p.2.1 (Int.toNat s)).2.1).length : Int) - (1 : Int))))) = false → (s_l13All_A2 K p (w64 (s + (1 : Int)))))))) ∧ ((decide (s < ((p.2.1).length : Int))) = false → K (s_l13All_R true)))) : s_l13All_A2 K p s :=
  Loop.of (by kernel_rfl) h
theorem s_l13All_v0 (K : TRes → Prop) (p : TPipe) (h :
  (s_l13All_A2 K p (0 : Int))) : Hold (tawp s_l13All_G 0 s_l13All_c (TQ 0 s_l13All_rs K) (tstart [(.a (Tup.cells ctPipe p))])) :=
  Hold.of (by kernel_rfl) h
theorem s_l13All_t (p : TPipe) (r : TRes) (h : Hold (tawp s_l13All_G 0 s_l13All_c (TQ 0 s_l13All_rs fun r' => r' = r) (tstart [(.a (Tup.cells ctPipe p))]))) : TCon Try.prog 173 [(.a (Tup.cells ctPipe p))] r :=
  tcon_gen (sg := [(.a ctPipe)]) mixed TOk.nil s_l13All_st (by kernel_rfl) (by kernel_rfl) (by kernel_rfl) h
theorem s_l13All_h : s_l13All_C := by
  intro p
  refine tcon_bd rfl fun hb => s_l13All_t p _ (s_l13All_v0 _ p ?_)
  have hl_p_0 : (p.1).length ≤ 9223372036854775807 := hb.1.1.1
  have hl_p_1 : (p.2.1).length ≤ 9223372036854775807 := hb.1.2.1.1
  have hl_p_2 : (p.2.2.1).length ≤ 9223372036854775807 := hb.1.2.2.1.1
  have hl_p_3 : (p.2.2.2).length ≤ 9223372036854775807 := hb.1.2.2.2.1.1
  refine listLoop p.2.1 (fun r k => r.all m_atEnd = p.2.1.all m_atEnd → s_l13All_A2 (fun r' => r' = s_l13All_R (m_all p)) p k) ?_ ?_ rfl
  · intro he
    refine s_l13All_v2 (fun r' => r' = s_l13All_R (m_all p)) p _ ⟨fun h => by simp at h, fun _ => R_eq ?_⟩
    exact he
  · intro k x r hk hlt hg ih he
    have hmem : x ∈ p.2.1 := List.mem_of_mem_drop (i := k) (by rw [hk]; exact List.mem_cons_self)
    have hbx : x.2.1.length ≤ 9223372036854775807 := (hb.1.2.1.2 x hmem).2.1.1
    refine s_l13All_v2 (fun r' => r' = s_l13All_R (m_all p)) p _ ⟨fun _ => ?_, fun h => by simp at h; omega⟩
    rw [Int.toNat_natCast, hg, w64_ok (x := (k : Int) + 1) (by omega) (by omega), w64_ok (x := (x.2.1.length : Int) - 1) (by omega) (by omega)]
    rw [List.all_cons] at he
    refine ⟨⟨⟨by omega, hlt⟩, by omega, hlt⟩, fun h => R_eq ?_, fun h => ih ?_⟩
    · have : m_atEnd x = false := by simp at h; simp [m_atEnd]; omega
      rw [this] at he
      exact he
    · have : m_atEnd x = true := by simp at h; simp [m_atEnd]; omega
      rw [this, Bool.true_and] at he
      exact he

theorem s_l13All_ok : TRowOk Try.prog s_l13All_row := rowOk fun x _ => s_l13All_h x.1

def s_Enabled_R (t : Bool) : TRes := ⟨(.c .bool t), [], [], false⟩
def s_Enabled_row : TRow := mkRow 110 [(.a ctPipe), (.c TI)] fun x => (none, s_Enabled_R (m_enabled x.1 x.2.1))
def s_Enabled_C : Prop := ∀ (x0 : TPipe) (x1 : Int), TCon Try.prog 110 [(.a (Tup.cells ctPipe x0)), (.c TI x1)] (s_Enabled_R (m_enabled x0 x1))

/-! spec.Enabled -/
def s_Enabled_G : List TRow := [s_PipeOk_row, s_l1In_row, s_Next_row, s_l13All_row]
def s_Enabled_y2 : TCode :=
  (.cond (.s 100) (.seq (.reg [.op (some 4) (.mov (.k (.c .bool true)))])
  .ret) (.seq (.reg [.op (some 105) (.bin .eql (.s 20) (.k (.c TI (8 : Int)))),
     .op (some 104) (.mov (.s 105))])
  (.cond (.s 104) (.seq (.reg [.op (some 106) (.load (.s 2) 4 true),
       .op (some 107) (.call 173 [(.s 106)]),
       .op (some 4) (.mov (.s 107))])
    .ret) .skip)))
def s_Enabled_L2 : List (Nat × Md) := [(2, .b [.d, .d, .d, .d]), (20, .one .d), (100, .one .d)]
def s_Enabled_y2w : TCode := .wk s_Enabled_L2 s_Enabled_y2
def s_Enabled_y1 : TCode :=
  (.seq (.reg [.op (some 4) (.mov (.k (.c .bool false)))])
 .ret)
def s_Enabled_c : TCode :=
  (.seq (.reg [.op (some 2) (.box 123 (.s 0) 4),
    .op (some 4) (.mov (.k (.c .bool false)))])
 (.seq (.seq (.reg [.op (some 5) (.load (.s 2) 4 true),
      .op (some 6) (.call 108 [(.s 5)]),
      .op (some 7) (.not (.s 6)),
      .op (some 8) (.mov (.s 7)),
      .grp 8 false [.op (some 9) (.mov (.s 1)), .op (some 10) (.fad (.s 2) 1), .op (some 11) (.load (.s 10) 1 false), .op (some 12) (.len (.s 11)), .op (some 13) (.bin .sub (.s 12) (.k (.c TI (1 : Int)))), .op (some 14) (.call 121 [(.s 9), (.k (.c TI (0 : Int))), (.s 13)]), .op (some 15) (.not (.s 14))] 16 (.s 15)])
   (.cond (.s 16) (.seq (.reg [.op (some 4) (.mov (.k (.c .bool false)))])
     .ret) .skip))
  (.seq (.seq (.reg [.op (some 17) (.load (.s 2) 4 true),
       .op (some 18) (.mov (.s 1)),
       .op (some 19) (.call 99 [(.s 17), (.s 18)]),
       .op (some 20) (.fld (.s 19) 0 1 false)])
    (.block 0 (.seq (.reg [.op (some 22) (.bin .eql (.s 20) (.k (.c TI (1 : Int)))),
         .op (some 21) (.mov (.s 22))])
      (.cond (.s 21) (.seq (.reg [.op (some 23) (.mov (.s 1)),
           .op (some 24) (.bin .gtr (.s 23) (.k (.c TI (0 : Int)))),
           .op (some 25) (.mov (.s 24)),
           .grp 25 true [.op (some 26) (.fad (.s 2) 2), .op (some 27) (.load (.s 26) 1 false), .op (some 28) (.mov (.s 1)), .op (some 29) (.bin .sub (.s 28) (.k (.c TI (1 : Int)))), .op (some 30) (.iad (.s 27) (.s 29) ctQueue), .op (some 31) (.fad (.s 30) 1), .op (some 32) (.load (.s 31) 1 false), .op (some 33) (.len (.s 32)), .op (some 34) (.bin .gtr (.s 33) (.k (.c TI (0 : Int))))] 35 (.s 34),
           .op (some 4) (.mov (.s 35))])
        .ret) (.seq (.reg [.op (some 37) (.bin .eql (.s 20) (.k (.c TI (3 : Int)))),
           .op (some 36) (.mov (.s 37))])
        (.cond (.s 36) (.seq (.draw [.op (some 38) (.mov (.s 1)),
             .op (some 39) (.fad (.s 2) 1),
             .op (some 40) (.load (.s 39) 1 false),
             .op (some 41) (.len (.s 40)),
             .op (some 42) (.bin .sub (.s 41) (.k (.c TI (1 : Int)))),
             .op (some 43) (.bin .lss (.s 38) (.s 42)),
             .op (some 44) (.mov (.s 43)),
             .grp 44 true [.op (some 45) (.fad (.s 2) 2), .op (some 46) (.load (.s 45) 1 false), .op (some 47) (.mov (.s 1)), .op (some 48) (.iad (.s 46) (.s 47) ctQueue), .op (some 49) (.fad (.s 48) 1), .op (some 50) (.load (.s 49) 1 false), .op (some 51) (.len (.s 50)), .op (some 52) (.fad (.s 2) 2), .op (some 53) (.load (.s 52) 1 false), .op (some 54) (.mov (.s 1)), .op (some 55) (.iad (.s 53) (.s 54) ctQueue), .op (some 56) (.fad (.s 55) 0), .op (some 57) (.load (.s 56) 1 false), .op (some 58) (.bin .lss (.s 51) (.s 57))] 59 (.s 58),
             .op (some 4) (.mov (.s 59))] [])
          .ret) (.seq (.reg [.op (some 61) (.bin .eql (.s 20) (.k (.c TI (4 : Int)))),
             .op (some 60) (.mov (.s 61))])
          (.cond (.s 60) (.seq (.reg [.op (some 62) (.mov (.s 1)),
               .op (some 63) (.fad (.s 2) 1),
               .op (some 64) (.load (.s 63) 1 false),
               .op (some 65) (.len (.s 64)),
               .op (some 66) (.bin .sub (.s 65) (.k (.c TI (1 : Int)))),
               .op (some 67) (.bin .lss (.s 62) (.s 66)),
               .op (some 68) (.mov (.s 67)),
               .grp 68 true [.op (some 69) (.fad (.s 2) 3), .op (some 70) (.load (.s 69) 1 false), .op (some 71) (.mov (.s 1)), .op (some 72) (.iad (.s 70) (.s 71) ctQueue), .op (some 73) (.fad (.s 72) 1), .op (some 74) (.load (.s 73) 1 false), .op (some 75) (.len (.s 74)), .op (some 76) (.bin .gtr (.s 75) (.k (.c TI (0 : Int))))] 77 (.s 76),
               .op (some 4) (.mov (.s 77))])
            .ret) (.seq (.reg [.op (some 79) (.bin .eql (.s 20) (.k (.c TI (7 : Int)))),
               .op (some 78) (.mov (.s 79))])
            (.cond (.s 78) (.seq (.draw [.op (some 80) (.mov (.s 1)),
                 .op (some 81) (.bin .gtr (.s 80) (.k (.c TI (0 : Int)))),
                 .op (some 82) (.mov (.s 81)),
                 .grp 82 true [.op (some 83) (.fad (.s 2) 3), .op (some 84) (.load (.s 83) 1 false), .op (some 85) (.mov (.s 1)), .op (some 86) (.bin .sub (.s 85) (.k (.c TI (1 : Int)))), .op (some 87) (.iad (.s 84) (.s 86) ctQueue), .op (some 88) (.fad (.s 87) 1), .op (some 89) (.load (.s 88) 1 false), .op (some 90) (.len (.s 89)), .op (some 91) (.fad (.s 2) 3), .op (some 92) (.load (.s 91) 1 false), .op (some 93) (.mov (.s 1)), .op (some 94) (.bin .sub (.s 93) (.k (.c TI (1 : Int)))), .op (some 95) (.iad (.s 92) (.s 94) ctQueue), .op (some 96) (.fad (.s 95) 0), .op (some 97) (.load (.s 96) 1 false), .op (some 98) (.bin .lss (.s 90) (.s 97))] 99 (.s 98),
                 .op (some 4) (.mov (.s 99))] [])
              .ret) (.seq (.seq (.reg [.op (some 101) (.bin .eql (.s 20) (.k (.c TI (2 : Int)))),
                  .op (some 100) (.mov (.s 101))])
               (.cond (.s 100) .skip (.seq (.reg [.op (some 102) (.bin .eql (.s 20) (.k (.c TI (5 : Int)))),
                    .op (some 100) (.mov (.s 102))])
                 (.cond (.s 100) .skip (.reg [.op (some 103) (.bin .eql (.s 20) (.k (.c TI (6 : Int)))),
                     .op (some 100) (.mov (.s 103))])))))
              s_Enabled_y2w)))))))))))
   s_Enabled_y1)))
def s_Enabled_rs : List (ARv × Md) := [(.t 4, .one .d)]
theorem s_Enabled_st : compF Try.prog 110 = some (s_Enabled_c.er, s_Enabled_rs.map Prod.fst, 108) := by kernel_rfl
def s_Enabled_Q (K : TRes → Prop) : TPost := TQ 0 s_Enabled_rs K
def s_Enabled_q1 (K : TRes → Prop) : TPost := Qseq (tawp s_Enabled_G 0 s_Enabled_y1 (s_Enabled_Q K)) (s_Enabled_Q K)
def s_Enabled_q2 (K : TRes → Prop) : TPost := Qblk 0 (s_Enabled_q1 K)
def s_Enabled_A2 (K : TRes → Prop) (p : TPipe) (s : Int) (x : Bool) : Prop := tawp s_Enabled_G 0 s_Enabled_y2 (s_Enabled_q2 K) ⟨[(2, (.p 0 0 0)), (20, (.c TI ((m_next p s).1))), (100, (.c .bool x))], [(0, (.box [(.c (.sl ctPair) p.1), (.c (.sl ctStage) p.2.1), (.c (.sl ctQueue) p.2.2.1), (.c (.sl ctQueue) p.2.2.2)]))], 1⟩
theorem s_Enabled_v2 (K : TRes → Prop) (p : TPipe) (s : Int) (x : Bool) (h :
  ((x = true → K (s_Enabled_R true)) ∧ (x = false → (((((m_next p s).1) == (8 : Int)) = true → K (s_Enabled_R (m_all p))) ∧ ((((m_next p s).1) == (8 : Int)) = false → K (s_Enabled_R false)))))) : Hold (s_Enabled_A2 K p s x) :=
  Hold.of (by kernel_rfl) h
theorem s_Enabled_v0 (K : TRes → Prop) (p : TPipe) (s : Int) (h :
  ((((!(m_pipeOk p)) || (!(m_in s (0 : Int) (w64 (((p.2.1).length : Int) - (1 : Int)))))) = true → K (s_Enabled_R false)) ∧ (((!(m_pipeOk p)) || (!(m_in s (0 : Int) (w64 (((p.2.1).length : Int) - (1 : Int)))))) = false → (((((m_next p s).1) == (1 : Int)) = true → (((decide (s > (0 : Int))) = true → ((0 : Int) ≤ w64 (s - (1 : Int)) ∧ Int.toNat (w64 (s - (1 : Int))) < (p.2.2.1).length)) ∧ K (s_Enabled_R ((decide (s > (0 : Int))) && (decide ((((gtd dQueue p.2.2.1 (Int.toNat (w64 (s - (1 : Int))))).2).length : Int) > (0 : Int))))))) ∧ ((((m_next p s).1) == (1 : Int)) = false → (((((m_next p s).1) == (3 : Int)) = true → (((decide (s < (w64 (((p.2.1).length : Int) - (1 : Int))))) = true → (((0 : Int) ≤ s ∧ Int.toNat s < (p.2.2.1).length) ∧ ((0 : Int) ≤ s ∧ Int.toNat s < (p.2.2.1).length))) ∧ K (s_Enabled_R ((decide (s < (w64 (((p.2.1).length : Int) - (1 : Int))))) && (decide ((((gtd dQueue p.2.2.1 (Int.toNat s)).2).length : Int) < ((gtd dQueue p.2.2.1 (Int.toNat s)).1))))))) ∧ ((((m_next p s).1) == (3 : Int)) = false → (((((m_next p s).1) == (4 : Int)) = true → (((decide (s < (w64 (((p.2.1).length : Int) - (1 : Int))))) = true → ((0 : Int) ≤ s ∧ Int.toNat s < (p.2.2.2).length)) ∧ K (s_Enabled_R ((decide (s < (w64 (((p.2.1).length : Int) - (1 : Int))))) && (decide ((((gtd dQueue p.2.2.2 (Int.toNat s)).2).length : Int) > (0 : Int))))))) ∧ ((((m_next p s).1) == (4 : Int)) = false → (((((m_next p s).1) == (7 : Int)) = true → (((decide (s > (0 : Int))) = true → (((0 : Int) ≤ w64 (s - (1 : Int)) ∧ Int.toNat (w64 (s - (1 : Int))) < (p.2.2.2).length) ∧ ((0 : Int) ≤ w64 (s - (1 : Int)) ∧ Int.toNat (w64 (s - (1 : Int))) < (p.2.2.2).length))) ∧ K (s_Enabled_R ((decide (s > (0 : Int))) && (decide ((((gtd dQueue p.2.2.2 (Int.toNat (w64 (s - (1 : Int))))).2).length : Int) < ((gtd dQueue p.2.2.2 (Int.toNat (w64 (s - (1 : Int))))).1))))))) ∧ ((((m_next p s).1) == (7 : Int)) = false → (((((m_next p s).1) == (2 : Int)) = true → (s_Enabled_A2 K p s (((m_next p s).1) == (2 : Int)))) ∧ ((((m_next p s).1) == (2 : Int)) = false → (((((m_next p s).1) == (5 : Int)) = true → (s_Enabled_A2 K p s (((m_next p s).1) == (5 : Int)))) ∧ ((((m_next p s).1) == (5 : Int)) = false → (s_Enabled_A2 K p s (((m_next p s).1) == (6 : Int)))))))))))))))))) : Hold (tawp s_Enabled_G 0 s_Enabled_c (TQ 0 s_Enabled_rs K) (tstart [(.a (Tup.cells ctPipe p)), (.c TI s)])) :=
  Hold.of (by kernel_rfl) h
theorem s_Enabled_t (p : TPipe) (s : Int) (r : TRes) (h : Hold (tawp s_Enabled_G 0 s_Enabled_c (TQ 0 s_Enabled_rs fun r' => r' = r) (tstart [(.a (Tup.cells ctPipe p)), (.c TI s)]))) : TCon Try.prog 110 [(.a (Tup.cells ctPipe p)), (.c TI s)] r :=
  tcon_gen (sg := [(.a ctPipe), (.c TI)]) mixed (TOk.cons s_PipeOk_ok (TOk.cons s_l1In_ok (TOk.cons s_Next_ok (TOk.cons s_l13All_ok TOk.nil)))) s_Enabled_st (by kernel_rfl) (by kernel_rfl) (by kernel_rfl) h
theorem s_Enabled_h : s_Enabled_C := by
  intro p s
  refine tcon_bd rfl fun hb => s_Enabled_t p s _ (s_Enabled_v0 _ p s ?_)
  have hl_p_0 : (p.1).length ≤ 9223372036854775807 := hb.1.1.1
  have hl_p_1 : (p.2.1).length ≤ 9223372036854775807 := hb.1.2.1.1
  have hl_p_2 : (p.2.2.1).length ≤ 9223372036854775807 := hb.1.2.2.1.1
  have hl_p_3 : (p.2.2.2).length ≤ 9223372036854775807 := hb.1.2.2.2.1.1
  by_cases h0 : (m_pipeOk p && m_in s 0 (p.2.1.length - 1)) = true
  rotate_left
  · have e1 : w64 ((p.2.1.length : Int) - 1) = p.2.1.length - 1 := w64_ok (by omega) (by omega)
    rw [e1]
    refine ⟨fun h => R_eq (by grind [m_enabled]), fun h => by grind⟩
  have h00 := h0
  simp only [Bool.and_eq_true, m_in_iff] at h00
  have hp2 := h00.1
  simp only [m_pipeOk, Bool.and_eq_true, m_in_iff, beq_iff_eq] at hp2
  have e1 : w64 ((p.2.1.length : Int) - 1) = p.2.1.length - 1 := w64_ok (by omega) (by omega)
  have e2 : w64 (s - 1) = s - 1 := w64_ok (by omega) (by omega)
  rw [e1, e2]
  have e4 : Int.toNat (s - 1) = s.toNat - 1 := by omega
  rw [e4]
  have hM : (m_enabled p s) = m_enabledK p s (m_next p s).1 := by unfold m_enabled; rw [h0, Bool.true_and]
  have k2 : ∀ b : Bool, (b = true → m_enabledK p s (m_next p s).1 = true) → (b = false → m_enabledK p s (m_next p s).1 = if (m_next p s).1 = 8 then m_all p else false) → s_Enabled_A2 (fun r' => r' = s_Enabled_R (m_enabled p s)) p s b := by
    intro b hb1 hb2
    refine (s_Enabled_v2 (fun r' => r' = s_Enabled_R (m_enabled p s)) p s _ ⟨fun h => R_eq ?_, fun h => ⟨fun h8 => R_eq ?_, fun h8 => R_eq ?_⟩⟩).h
    · rw [hM, hb1 h]
    · rw [hM, hb2 h, if_pos (by simpa using h8)]
    · rw [hM, hb2 h, if_neg (by simpa using h8)]
  generalize (m_next p s).1 = kd at *
  refine ⟨fun h => by grind, fun _ => ⟨fun h1 => ⟨fun h => by simp at h; omega, R_eq ?_⟩, fun h1 => ⟨fun h2 => ⟨fun h => by simp at h; omega, R_eq ?_⟩, fun h2 => ⟨fun h3 => ⟨fun h => by simp at h; omega, R_eq ?_⟩, fun h3 => ⟨fun h4 => ⟨fun h => by simp at h; omega, R_eq ?_⟩, fun h4 => ⟨fun h5 => k2 _ ?_ ?_, fun h5 => ⟨fun h6 => k2 _ ?_ ?_, fun h6 => k2 _ ?_ ?_⟩⟩⟩⟩⟩⟩⟩
  all_goals (try rw [hM]); simp only [m_enabledK, m_hasRoom] at *; grind

theorem s_Enabled_ok : TRowOk Try.prog s_Enabled_row := rowOk fun x _ => s_Enabled_h x.1 x.2.1

def i_Enabled_R (t : Bool) : TRes := ⟨(.c .bool t), [], [], false⟩
def i_Enabled_row : TRow := mkRow 111 [(.a ctPipe), (.c TI)] fun x => (none, i_Enabled_R (m_enabled x.1 x.2.1))
def i_Enabled_C : Prop := ∀ (x0 : TPipe) (x1 : Int), TCon Try.prog 111 [(.a (Tup.cells ctPipe x0)), (.c TI x1)] (i_Enabled_R (m_enabled x0 x1))

/-! impl.Enabled -/
def i_Enabled_G : List TRow := [i_PipeOk_row, i_Next_row, i_hasRoom_row]
def i_Enabled_b4 : TCode :=
  (.seq (.reg [.op (some 94) (.bin .lss (.s 93) (.s 92))])
 (.seq (.cond (.s 94) .skip (.exit 1))
  (.seq (.block 2 (.seq (.reg [.op (some 95) (.iad (.s 91) (.s 93) ctStage),
        .op (some 96) (.load (.s 95) 14 true),
        .op (some 7) (.new 100 [(.c TI (0 : Int)), (.n ctIns), (.n ctOp), (.c .bool false), (.c .bool false), (.n ctSaved), (.n [(.sl [TI])]), (.n [TI]), (.n [TI]), (.n [TI]), (.n [TI]), (.n [(.sl [TI])]), (.c TI (0 : Int)), (.c .bool false)]),
        .op none (.store (.s 7) (.s 96) 14)])
     (.seq (.reg [.op (some 97) (.fad (.s 7) 0),
         .op (some 98) (.load (.s 97) 1 false),
         .op (some 99) (.fad (.s 7) 1),
         .op (some 100) (.load (.s 99) 1 false),
         .op (some 101) (.len (.s 100)),
         .op (some 102) (.bin .sub (.s 101) (.k (.c TI (1 : Int)))),
         .op (some 103) (.bin .lss (.s 98) (.s 102))])
      (.cond (.s 103) (.seq (.reg [.op (some 4) (.mov (.k (.c .bool false)))])
        .ret) .skip))))
   (.reg [.op (some 104) (.bin .add (.s 93) (.k (.c TI (1 : Int)))),
      .op (some 93) (.mov (.s 104))]))))
def i_Enabled_L4 : List (Nat × Md) := [(91, .one .d), (92, .one .d), (93, .one .d)]
def i_Enabled_y3 : TCode :=
  (.seq (.reg [.op (some 4) (.mov (.k (.c .bool true)))])
 .ret)
def i_Enabled_y2 : TCode :=
  (.cond (.s 84) (.seq (.reg [.op (some 4) (.mov (.k (.c .bool true)))])
  .ret) (.seq (.reg [.op (some 89) (.bin .eql (.s 31) (.k (.c TI (8 : Int)))),
     .op (some 88) (.mov (.s 89))])
  (.cond (.s 88) (.seq (.seq (.reg [.op (some 90) (.fad (.s 2) 1),
        .op (some 91) (.load (.s 90) 1 false),
        .op (some 92) (.len (.s 91)),
        .op (some 93) (.mov (.k (.c TI (0 : Int))))])
     (.block 1 (.loop i_Enabled_L4 i_Enabled_b4)))
    i_Enabled_y3) .skip)))
def i_Enabled_L2 : List (Nat × Md) := [(2, .b [.d, .d, .d, .d]), (31, .one .d), (84, .one .d)]
def i_Enabled_y2w : TCode := .wk i_Enabled_L2 i_Enabled_y2
def i_Enabled_y1 : TCode :=
  (.seq (.reg [.op (some 4) (.mov (.k (.c .bool false)))])
 .ret)
def i_Enabled_c : TCode :=
  (.seq (.reg [.op (some 2) (.box 123 (.s 0) 4),
    .op (some 4) (.mov (.k (.c .bool false)))])
 (.seq (.seq (.reg [.op (some 8) (.load (.s 2) 4 true),
      .op (some 9) (.call 109 [(.s 8)]),
      .op (some 10) (.not (.s 9)),
      .op (some 11) (.mov (.s 10)),
      .grp 11 false [.op (some 12) (.mov (.s 1)), .op (some 13) (.bin .lss (.s 12) (.k (.c TI (0 : Int))))] 14 (.s 13),
      .op (some 15) (.mov (.s 14)),
      .grp 15 false [.op (some 16) (.mov (.s 1)), .op (some 17) (.fad (.s 2) 1), .op (some 18) (.load (.s 17) 1 false), .op (some 19) (.len (.s 18)), .op (some 20) (.bin .geq (.s 16) (.s 19))] 21 (.s 20)])
   (.cond (.s 21) (.seq (.reg [.op (some 4) (.mov (.k (.c .bool false)))])
     .ret) .skip))
  (.seq (.reg [.op (some 22) (.mov (.s 1)),
      .op (some 23) (.fad (.s 2) 1),
      .op (some 24) (.load (.s 23) 1 false),
      .op (some 25) (.len (.s 24)),
      .op (some 26) (.bin .sub (.s 25) (.k (.c TI (1 : Int)))),
      .op (some 27) (.bin .lss (.s 22) (.s 26)),
      .op (some 5) (.mov (.s 27))])
   (.seq (.seq (.reg [.op (some 28) (.load (.s 2) 4 true),
        .op (some 29) (.mov (.s 1)),
        .op (some 30) (.call 100 [(.s 28), (.s 29)]),
        .op (some 31) (.fld (.s 30) 0 1 false)])
     (.block 0 (.seq (.reg [.op (some 33) (.bin .eql (.s 31) (.k (.c TI (1 : Int)))),
          .op (some 32) (.mov (.s 33))])
       (.cond (.s 32) (.seq (.reg [.op (some 34) (.mov (.s 1)),
            .op (some 35) (.bin .gtr (.s 34) (.k (.c TI (0 : Int)))),
            .op (some 36) (.mov (.s 35)),
            .grp 36 true [.op (some 37) (.fad (.s 2) 2), .op (some 38) (.load (.s 37) 1 false), .op (some 39) (.mov (.s 1)), .op (some 40) (.bin .sub (.s 39) (.k (.c TI (1 : Int)))), .op (some 41) (.iad (.s 38) (.s 40) ctQueue), .op (some 42) (.fad (.s 41) 1), .op (some 43) (.load (.s 42) 1 false), .op (some 44) (.len (.s 43)), .op (some 45) (.bin .gtr (.s 44) (.k (.c TI (0 : Int))))] 46 (.s 45),
            .op (some 4) (.mov (.s 46))])
         .ret) (.seq (.reg [.op (some 48) (.bin .eql (.s 31) (.k (.c TI (3 : Int)))),
            .op (some 47) (.mov (.s 48))])
         (.cond (.s 47) (.seq (.reg [.op (some 49) (.mov (.s 5)),
              .op (some 50) (.mov (.s 49)),
              .grp 50 true [.op (some 51) (.fad (.s 2) 2), .op (some 52) (.load (.s 51) 1 false), .op (some 53) (.mov (.s 1)), .op (some 54) (.iad (.s 52) (.s 53) ctQueue), .op (some 55) (.load (.s 54) 2 true), .op (some 56) (.call 174 [(.s 55)])] 57 (.s 56),
              .op (some 4) (.mov (.s 57))])
           .ret) (.seq (.reg [.op (some 59) (.bin .eql (.s 31) (.k (.c TI (4 : Int)))),
              .op (some 58) (.mov (.s 59))])
           (.cond (.s 58) (.seq (.reg [.op (some 60) (.mov (.s 5)),
                .op (some 61) (.mov (.s 60)),
                .grp 61 true [.op (some 62) (.fad (.s 2) 3), .op (some 63) (.load (.s 62) 1 false), .op (some 64) (.mov (.s 1)), .op (some 65) (.iad (.s 63) (.s 64) ctQueue), .op (some 66) (.fad (.s 65) 1), .op (some 67) (.load (.s 66) 1 false), .op (some 68) (.len (.s 67)), .op (some 69) (.bin .gtr (.s 68) (.k (.c TI (0 : Int))))] 70 (.s 69),
                .op (some 4) (.mov (.s 70))])
             .ret) (.seq (.reg [.op (some 72) (.bin .eql (.s 31) (.k (.c TI (7 : Int)))),
                .op (some 71) (.mov (.s 72))])
             (.cond (.s 71) (.seq (.reg [.op (some 73) (.mov (.s 1)),
                  .op (some 74) (.bin .gtr (.s 73) (.k (.c TI (0 : Int)))),
                  .op (some 75) (.mov (.s 74)),
                  .grp 75 true [.op (some 76) (.fad (.s 2) 3), .op (some 77) (.load (.s 76) 1 false), .op (some 78) (.mov (.s 1)), .op (some 79) (.bin .sub (.s 78) (.k (.c TI (1 : Int)))), .op (some 80) (.iad (.s 77) (.s 79) ctQueue), .op (some 81) (.load (.s 80) 2 true), .op (some 82) (.call 174 [(.s 81)])] 83 (.s 82),
                  .op (some 4) (.mov (.s 83))])
               .ret) (.seq (.seq (.reg [.op (some 85) (.bin .eql (.s 31) (.k (.c TI (2 : Int)))),
                   .op (some 84) (.mov (.s 85))])
                (.cond (.s 84) .skip (.seq (.reg [.op (some 86) (.bin .eql (.s 31) (.k (.c TI (5 : Int)))),
                     .op (some 84) (.mov (.s 86))])
                  (.cond (.s 84) .skip (.reg [.op (some 87) (.bin .eql (.s 31) (.k (.c TI (6 : Int)))),
                      .op (some 84) (.mov (.s 87))])))))
               i_Enabled_y2w)))))))))))
    i_Enabled_y1))))
def i_Enabled_rs : List (ARv × Md) := [(.t 4, .one .d)]
theorem i_Enabled_st : compF Try.prog 111 = some (i_Enabled_c.er, i_Enabled_rs.map Prod.fst, 105) := by kernel_rfl
def i_Enabled_Q (K : TRes → Prop) : TPost := TQ 0 i_Enabled_rs K
def i_Enabled_q1 (K : TRes → Prop) : TPost := Qseq (tawp i_Enabled_G 0 i_Enabled_y1 (i_Enabled_Q K)) (i_Enabled_Q K)
def i_Enabled_q2 (K : TRes → Prop) : TPost := Qblk 0 (i_Enabled_q1 K)
def i_Enabled_q3 (K : TRes → Prop) : TPost := Qseq (tawp i_Enabled_G 0 i_Enabled_y3 (i_Enabled_q2 K)) (i_Enabled_q2 K)
def i_Enabled_q4 (K : TRes → Prop) : TPost := Qblk 1 (i_Enabled_q3 K)
def i_Enabled_A4 (K : TRes → Prop) (p : TPipe) (x1 : Int) : Prop := Loop i_Enabled_G 0 i_Enabled_L4 i_Enabled_b4 (i_Enabled_q4 K) ⟨[(91, (.c (.sl ctStage) p.2.1)), (92, (.c TI ((p.2.1).length : Int))), (93, (.c TI x1))], [], 0⟩
def i_Enabled_A2 (K : TRes → Prop) (p : TPipe) (s : Int) (x : Bool) : Prop := tawp i_Enabled_G 0 i_Enabled_y2 (i_Enabled_q2 K) ⟨[(2, (.p 0 0 0)), (31, (.c TI ((m_next p s).1))), (84, (.c .bool x))], [(0, (.box [(.c (.sl ctPair) p.1), (.c (.sl ctStage) p.2.1), (.c (.sl ctQueue) p.2.2.1), (.c (.sl ctQueue) p.2.2.2)]))], 1⟩
theorem i_Enabled_v4 (K : TRes → Prop) (p : TPipe) (x1 : Int) (h :
  (((decide (x1 < ((p.2.1).length : Int))) = true → (((0 : Int) ≤ x1 ∧ Int.toNat x1 < (p.2.1).length) ∧ (((decide (((gtd dStage p.2.1 (Int.toNat x1)).1) < (w64 ((((gtd dStage p.2.1 (Int.toNat x1)).2.1).length : Int) - (1 : Int))))) = true → K (i_Enabled_R false)) ∧ ((decide (((gtd dStage p.2.1 (Int.toNat x1)).1) < (w64 ((((gtd dStage p.2.1 (Int.toNat x1)).2.1).length : Int) - (1 : Int))))) = false → (i_Enabled_A4 K p (w64 (x1 + (1 : Int)))))))) ∧ ((decide (x1 < ((p.2.1).length : Int))) = false → K (i_Enabled_R true)))) : i_Enabled_A4 K p x1 :=
  Loop.of (by kernel_rfl) h
theorem i_Enabled_v2 (K : TRes → Prop) (p : TPipe) (s : Int) (x : Bool) (h :
  ((x = true → K (i_Enabled_R true)) ∧ (x = false → (((((m_next p s).1) == (8 : Int)) = true → (i_Enabled_A4 K p (0 : Int))) ∧ ((((m_next p s).1) == (8 : Int)) = false → K (i_Enabled_R false)))))) : Hold (i_Enabled_A2 K p s x) :=
  Hold.of (by kernel_rfl) h
theorem i_Enabled_v0 (K : TRes → Prop) (p : TPipe) (s : Int) (h :
  (((((!(m_pipeOk p)) || (decide (s < (0 : Int)))) || (decide (s ≥ ((p.2.1).length : Int)))) = true → K (i_Enabled_R false)) ∧ ((((!(m_pipeOk p)) || (decide (s < (0 : Int)))) || (decide (s ≥ ((p.2.1).length : Int)))) = false → (((((m_next p s).1) == (1 : Int)) = true → (((decide (s > (0 : Int))) = true → ((0 : Int) ≤ w64 (s - (1 : Int)) ∧ Int.toNat (w64 (s - (1 : Int))) < (p.2.2.1).length)) ∧ K (i_Enabled_R ((decide (s > (0 : Int))) && (decide ((((gtd dQueue p.2.2.1 (Int.toNat (w64 (s - (1 : Int))))).2).length : Int) > (0 : Int))))))) ∧ ((((m_next p s).1) == (1 : Int)) = false → (((((m_next p s).1) == (3 : Int)) = true → (((decide (s < (w64 (((p.2.1).length : Int) - (1 : Int))))) = true → ((0 : Int) ≤ s ∧ Int.toNat s < (p.2.2.1).length)) ∧ K (i_Enabled_R ((decide (s < (w64 (((p.2.1).length : Int) - (1 : Int))))) && (m_hasRoom (gtd dQueue p.2.2.1 (Int.toNat s))))))) ∧ ((((m_next p s).1) == (3 : Int)) = false → (((((m_next p s).1) == (4 : Int)) = true → (((decide (s < (w64 (((p.2.1).length : Int) - (1 : Int))))) = true → ((0 : Int) ≤ s ∧ Int.toNat s < (p.2.2.2).length)) ∧ K (i_Enabled_R ((decide (s < (w64 (((p.2.1).length : Int) - (1 : Int))))) && (decide ((((gtd dQueue p.2.2.2 (Int.toNat s)).2).length : Int) > (0 : Int))))))) ∧ ((((m_next p s).1) == (4 : Int)) = false → (((((m_next p s).1) == (7 : Int)) = true → (((decide (s > (0 : Int))) = true → ((0 : Int) ≤ w64 (s - (1 : Int)) ∧ Int.toNat (w64 (s - (1 : Int))) < (p.2.2.2).length)) ∧ K (i_Enabled_R ((decide (s > (0 : Int))) && (m_hasRoom (gtd dQueue p.2.2.2 (Int.toNat (w64 (s - (1 : Int)))))))))) ∧ ((((m_next p s).1) == (7 : Int)) = false → (((((m_next p s).1) == (2 : Int)) = true → (i_Enabled_A2 K p s (((m_next p s).1) == (2 : Int)))) ∧ ((((m_next p s).1) == (2 : Int)) = false → (((((m_next p s).1) == (5 : Int)) = true → (i_Enabled_A2 K p s (((m_next p s).1) == (5 : Int)))) ∧ ((((m_next p s).1) == (5 : Int)) = false → (i_Enabled_A2 K p s (((m_next p s).1) == (6 : Int)))))))))))))))))) : Hold (tawp i_Enabled_G 0 i_Enabled_c (TQ 0 i_Enabled_rs K) (tstart [(.a (Tup.cells ctPipe p)), (.c TI s)])) :=
  Hold.of (by kernel_rfl) h
theorem i_Enabled_t (p : TPipe) (s : Int) (r : TRes) (h : Hold (tawp i_Enabled_G 0 i_Enabled_c (TQ 0 i_Enabled_rs fun r' => r' = r) (tstart [(.a (Tup.cells ctPipe p)), (.c TI s)]))) : TCon Try.prog 111 [(.a (Tup.cells ctPipe p)), (.c TI s)] r :=
  tcon_gen (sg := [(.a ctPipe), (.c TI)]) mixed (TOk.cons i_PipeOk_ok (TOk.cons i_Next_ok (TOk.cons i_hasRoom_ok TOk.nil))) i_Enabled_st (by kernel_rfl) (by kernel_rfl) (by kernel_rfl) h
theorem i_Enabled_h : i_Enabled_C := by
  intro p s
  refine tcon_bd rfl fun hb => i_Enabled_t p s _ (i_Enabled_v0 _ p s ?_)
  have hl_p_0 : (p.1).length ≤ 9223372036854775807 := hb.1.1.1
  have hl_p_1 : (p.2.1).length ≤ 9223372036854775807 := hb.1.2.1.1
  have hl_p_2 : (p.2.2.1).length ≤ 9223372036854775807 := hb.1.2.2.1.1
  have hl_p_3 : (p.2.2.2).length ≤ 9223372036854775807 := hb.1.2.2.2.1.1
  by_cases h0 : (m_pipeOk p && m_in s 0 (p.2.1.length - 1)) = true
  rotate_left
  · refine ⟨fun h => R_eq (by grind [m_enabled]), fun h => by grind [m_in]⟩
  have h00 := h0
  simp only [Bool.and_eq_true, m_in_iff] at h00
  have hp2 := h00.1
  simp only [m_pipeOk, Bool.and_eq_true, m_in_iff, beq_iff_eq] at hp2
  have e1 : w64 ((p.2.1.length : Int) - 1) = p.2.1.length - 1 := w64_ok (by omega) (by omega)
  have e2 : w64 (s - 1) = s - 1 := w64_ok (by omega) (by omega)
  rw [e1, e2]
  have e4 : Int.toNat (s - 1) = s.toNat - 1 := by omega
  rw [e4]
  have hM : (m_enabled p s) = m_enabledK p s (m_next p s).1 := by unfold m_enabled; rw [h0, Bool.true_and]
  have hall : m_enabledK p s (m_next p s).1 = m_all p → i_Enabled_A4 (fun r' => r' = i_Enabled_R (m_enabled p s)) p ((0 : Nat) : Int) := by
    intro hm
    refine listLoop p.2.1 (fun r k => r.all m_atEnd = p.2.1.all m_atEnd → i_Enabled_A4 (fun r' => r' = i_Enabled_R (m_enabled p s)) p k) ?_ ?_ rfl
    · intro he
      refine i_Enabled_v4 (fun r' => r' = i_Enabled_R (m_enabled p s)) p _ ⟨fun h => by simp at h, fun _ => R_eq ?_⟩
      rw [hM, hm]; exact he
    · intro k x r hk hlt hg ih he
      have hmem : x ∈ p.2.1 := List.mem_of_mem_drop (i := k) (by rw [hk]; exact List.mem_cons_self)
      have hbx : x.2.1.length ≤ 9223372036854775807 := (hb.1.2.1.2 x hmem).2.1.1
      refine i_Enabled_v4 (fun r' => r' = i_Enabled_R (m_enabled p s)) p _ ⟨fun _ => ?_, fun h => by simp at h; omega⟩
      rw [Int.toNat_natCast, hg, w64_ok (x := (k : Int) + 1) (by omega) (by omega), w64_ok (x := (x.2.1.length : Int) - 1) (by omega) (by omega)]
      rw [List.all_cons] at he
      refine ⟨⟨by omega, hlt⟩, fun h => R_eq ?_, fun h => ih ?_⟩
      · have : m_atEnd x = false := by simp at h; simp [m_atEnd]; omega
        rw [this] at he
        rw [hM, hm]; exact he
      · have : m_atEnd x = true := by simp at h; simp [m_atEnd]; omega
        rw [this, Bool.true_and] at he
        exact he
  have k2 : ∀ b : Bool, (b = true → m_enabledK p s (m_next p s).1 = true) → (b = false → m_enabledK p s (m_next p s).1 = if (m_next p s).1 = 8 then m_all p else false) → i_Enabled_A2 (fun r' => r' = i_Enabled_R (m_enabled p s)) p s b := by
    intro b hb1 hb2
    refine (i_Enabled_v2 (fun r' => r' = i_Enabled_R (m_enabled p s)) p s _ ⟨fun h => R_eq ?_, fun h => ⟨fun h8 => hall ?_, fun h8 => R_eq ?_⟩⟩).h
    · rw [hM, hb1 h]
    · rw [hb2 h, if_pos (by simpa using h8)]
    · rw [hM, hb2 h, if_neg (by simpa using h8)]
  clear hall
  generalize (m_next p s).1 = kd at *
  refine ⟨fun h => by grind [m_in], fun _ => ⟨fun h1 => ⟨fun h => by simp at h; omega, R_eq ?_⟩, fun h1 => ⟨fun h2 => ⟨fun h => by simp at h; omega, R_eq ?_⟩, fun h2 => ⟨fun h3 => ⟨fun h => by simp at h; omega, R_eq ?_⟩, fun h3 => ⟨fun h4 => ⟨fun h => by simp at h; omega, R_eq ?_⟩, fun h4 => ⟨fun h5 => k2 _ ?_ ?_, fun h5 => ⟨fun h6 => k2 _ ?_ ?_, fun h6 => k2 _ ?_ ?_⟩⟩⟩⟩⟩⟩⟩
  all_goals (try rw [hM]); simp only [m_enabledK, m_hasRoom] at *; grind

theorem i_Enabled_ok : TRowOk Try.prog i_Enabled_row := rowOk fun x _ => i_Enabled_h x.1 x.2.1

end
end Go.Proofs.Ytpnblnkggeopkaa.Am
