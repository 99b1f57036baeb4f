/-
  Written by program: the code of functions, what it asks, and that it comes to what the models say.
-/
import Derived.Test.YtephkbajoofeoaaP1
import Derived.Test.YtephkbajoofeoaaP4
namespace Go.Proofs.Ytephkbajoofeoaa.Am
open Go Go.RowKit Go.Proofs.Ytephkbajoofeoaa
set_option linter.unusedVariables false
set_option linter.unusedSimpArgs false
noncomputable section

def s_CutsOk_R (t : Bool) : TRes := ⟨(.c .bool t), [], [], false, []⟩
def s_CutsOk_row : TRow := mkRow 48 [(.a [(.sl ctOp)]), (.c (.sl [TI]))] fun x => (none, s_CutsOk_R (m_cutsOk x.1 x.2.1))
def s_CutsOk_C : Prop := ∀ (x0 : List TOp') (x1 : List Int), TCon Try.prog 48 [(.a [(.c (.sl ctOp) x0)]), (.c (.sl [TI]) x1)] (s_CutsOk_R (m_cutsOk x0 x1))

/-! spec.CutsOk -/
def s_CutsOk_G : List TRow := [s_l1In_row, s_ModelOk_row]
def s_CutsOk_b2 : TCode :=
  (.seq (.seq (.reg [.op (some 6) (.mov (.s 5)),
     .op (some 7) (.mov (.s 1)),
     .op (some 8) (.len (.s 7)),
     .op (some 9) (.bin .lss (.s 6) (.s 8))])
  (.cond (.s 9) .skip (.exit 0)))
 (.seq (.block 1 (.seq (.draw [.op (some 12) (.mov (.s 1)),
       .op (some 13) (.mov (.s 5)),
       .op (some 14) (.iad (.s 12) (.s 13) [TI]),
       .op (some 15) (.load (.s 14) 1 false),
       .op (some 16) (.fad (.s 2) 0),
       .op (some 17) (.load (.s 16) 1 false),
       .op (some 18) (.len (.s 17)),
       .op (some 19) (.bin .sub (.s 18) (.k (.c TI (1 : Int)))),
       .op (some 20) (.call 102 [(.s 15), (.k (.c TI (1 : Int))), (.s 19)]),
       .op (some 21) (.not (.s 20)),
       .op (some 22) (.mov (.s 21)),
       .grp 22 false [.op (some 23) (.mov (.s 5)), .op (some 24) (.bin .gtr (.s 23) (.k (.c TI (0 : Int)))), .op (some 25) (.mov (.s 24)), .grp 25 true [.op (some 26) (.mov (.s 1)), .op (some 27) (.mov (.s 5)), .op (some 28) (.iad (.s 26) (.s 27) [TI]), .op (some 29) (.load (.s 28) 1 false), .op (some 30) (.mov (.s 1)), .op (some 31) (.mov (.s 5)), .op (some 32) (.bin .sub (.s 31) (.k (.c TI (1 : Int)))), .op (some 33) (.iad (.s 30) (.s 32) [TI]), .op (some 34) (.load (.s 33) 1 false), .op (some 35) (.bin .leq (.s 29) (.s 34))] 36 (.s 35)] 37 (.s 36)] [])
    (.cond (.s 37) (.seq (.reg [.op (some 4) (.mov (.k (.c .bool false)))])
      .ret) .skip)))
  (.reg [.op (some 10) (.mov (.s 5)),
     .op (some 11) (.bin .add (.s 10) (.k (.c TI (1 : Int)))),
     .op (some 5) (.mov (.s 11))])))
def s_CutsOk_L2 : List (Nat × Md) := [(1, .one .d), (2, .b [.d]), (5, .one .d)]
def s_CutsOk_y1 : TCode :=
  (.seq (.reg [.op (some 38) (.load (.s 2) 1 true),
    .op (some 39) (.call 60 [(.s 38)]),
    .op (some 4) (.mov (.s 39))])
 .ret)
def s_CutsOk_c : TCode :=
  (.seq (.reg [.op (some 2) (.box 66 (.s 0) 1),
    .op (some 4) (.mov (.k (.c .bool false)))])
 (.seq (.seq (.reg [.op (some 5) (.mov (.k (.c TI (0 : Int))))])
   (.block 0 (.loop s_CutsOk_L2 s_CutsOk_b2)))
  s_CutsOk_y1))
def s_CutsOk_rs : List (ARv × Md) := [(.t 4, .one .d)]
theorem s_CutsOk_st : compF Try.prog 48 = some (s_CutsOk_c.er, s_CutsOk_rs.map Prod.fst, 40) := by kernel_rfl
def s_CutsOk_Q (K : TRes → Prop) : TPost := TQ 0 0 s_CutsOk_rs K
def s_CutsOk_q1 (K : TRes → Prop) : TPost := Qseq (tawp s_CutsOk_G 0 s_CutsOk_y1 (s_CutsOk_Q K)) (s_CutsOk_Q K)
def s_CutsOk_q2 (K : TRes → Prop) : TPost := Qblk 0 (s_CutsOk_q1 K)
def s_CutsOk_A2 (K : TRes → Prop) (m : List TOp') (cuts : List Int) (i : Int) : Prop := Loop s_CutsOk_G 0 s_CutsOk_L2 s_CutsOk_b2 (s_CutsOk_q2 K) ⟨[(1, (.c (.sl [TI]) cuts)), (2, (.p 0 0 0)), (5, (.c TI i))], [(0, (.box [(.c (.sl ctOp) m)]))], 1⟩
theorem s_CutsOk_v2 (K : TRes → Prop) (m : List TOp') (cuts : List Int) (i : Int) (h :
  (((decide (i < (cuts.length : Int))) = true → ((((0 : Int) ≤ i ∧ Int.toNat i < cuts.length) ∧ ((!(!(m_in (gtd (0 : Int) cuts (Int.toNat i)) (1 : Int) (w64 ((m.length : Int) - (1 : Int)))))) = true → ((decide (i > (0 : Int))) = true → (((0 : Int) ≤ i ∧ Int.toNat i < cuts.length) ∧ ((0 : Int) ≤ w64 (i - (1 : Int)) ∧ Int.toNat (w64 (i - (1 : Int))) < cuts.length))))) ∧ ((((!(m_in (gtd (0 : Int) cuts (Int.toNat i)) (1 : Int) (w64 ((m.length : Int) - (1 : Int))))) || ((decide (i > (0 : Int))) && (decide ((gtd (0 : Int) cuts (Int.toNat i)) ≤ (gtd (0 : Int) cuts (Int.toNat (w64 (i - (1 : Int))))))))) = true → K (s_CutsOk_R false)) ∧ (((!(m_in (gtd (0 : Int) cuts (Int.toNat i)) (1 : Int) (w64 ((m.length : Int) - (1 : Int))))) || ((decide (i > (0 : Int))) && (decide ((gtd (0 : Int) cuts (Int.toNat i)) ≤ (gtd (0 : Int) cuts (Int.toNat (w64 (i - (1 : Int))))))))) = false → (s_CutsOk_A2 K m cuts (w64 (i + (1 : Int)))))))) ∧ ((decide (i < (cuts.length : Int))) = false → K (s_CutsOk_R (m_modelOk m))))) : s_CutsOk_A2 K m cuts i :=
  Loop.of (by kernel_rfl) h
theorem s_CutsOk_v0 (K : TRes → Prop) (m : List TOp') (cuts : List Int) (h :
  (s_CutsOk_A2 K m cuts (0 : Int))) : Hold (tawp s_CutsOk_G (0 + 0) s_CutsOk_c (TQ 0 0 s_CutsOk_rs K) (tstart [(.a [(.c (.sl ctOp) m)]), (.c (.sl [TI]) cuts)])) :=
  Hold.of (by kernel_rfl) h
theorem s_CutsOk_t (m : List TOp') (cuts : List Int) (r : TRes) (h : Hold (tawp s_CutsOk_G (0 + 0) s_CutsOk_c (TQ 0 0 s_CutsOk_rs fun r' => r' = r) (tstart [(.a [(.c (.sl ctOp) m)]), (.c (.sl [TI]) cuts)]))) : TCon Try.prog 48 [(.a [(.c (.sl ctOp) m)]), (.c (.sl [TI]) cuts)] r :=
  tcon_gen (sg := [(.a [(.sl ctOp)]), (.c (.sl [TI]))]) mixed (TOk.cons s_l1In_ok (TOk.cons s_ModelOk_ok TOk.nil)) s_CutsOk_st (by kernel_rfl) (by kernel_rfl) (by kernel_rfl) (by kernel_rfl) h
theorem s_CutsOk_h : s_CutsOk_C := by
  intro m cuts
  refine tcon_bd rfl fun hb => s_CutsOk_t m cuts _ (s_CutsOk_v0 _ m cuts ?_)
  have hl_m_0 : (m).length ≤ 9223372036854775807 := hb.1.1.1
  have hl_cuts : cuts.length ≤ 9223372036854775807 := hb.2.1.1
  refine listLoop cuts (fun r k => cutsGo (m.length - 1) (prevI cuts k) r = cutsGo (m.length - 1) none cuts → s_CutsOk_A2 (fun r' => r' = s_CutsOk_R (m_cutsOk m cuts)) m cuts k) ?_ ?_ rfl
  · intro he
    refine s_CutsOk_v2 (fun r' => r' = s_CutsOk_R (m_cutsOk m cuts)) m cuts _ ⟨fun h => by simp at h, fun _ => ?_⟩
    grind [cutsGo, m_cutsOk]
  · intro k x r hk hlt hg ih he
    refine s_CutsOk_v2 (fun r' => r' = s_CutsOk_R (m_cutsOk m cuts)) m cuts _ ⟨fun _ => ?_, fun h => by simp at h; omega⟩
    rw [Int.toNat_natCast, hg, w64_ok (x := (k : Int) + 1) (by omega) (by omega), w64_ok (x := (m.length : Int) - 1) (by omega) (by omega)]
    have ep : prevI cuts (k + 1) = some x := by simp [prevI, hg]
    rw [ep] at ih
    rcases Nat.eq_zero_or_pos k with h0 | h0
    · subst h0
      simp only [cutsGo, prevI, if_true] at he
      grind [m_cutsOk]
    · have e2 := tn_sub1 h0 (by omega : k ≤ 9223372036854775807)
      simp only [cutsGo, prevI, if_neg (Nat.ne_of_gt h0)] at he
      grind [m_cutsOk]

theorem s_CutsOk_ok : TRowOk Try.prog s_CutsOk_row := rowOk fun x _ => s_CutsOk_h x.1 x.2.1

def i_CutsOk_R (t : Bool) : TRes := ⟨(.c .bool t), [], [], false, []⟩
def i_CutsOk_row : TRow := mkRow 47 [(.a [(.sl ctOp)]), (.c (.sl [TI]))] fun x => (none, i_CutsOk_R (m_cutsOk x.1 x.2.1))
def i_CutsOk_C : Prop := ∀ (x0 : List TOp') (x1 : List Int), TCon Try.prog 47 [(.a [(.c (.sl ctOp) x0)]), (.c (.sl [TI]) x1)] (i_CutsOk_R (m_cutsOk x0 x1))

/-! impl.CutsOk -/
def i_CutsOk_G : List TRow := [i_ModelOk_row]
def i_CutsOk_b2 : TCode :=
  (.seq (.reg [.op (some 13) (.bin .lss (.s 12) (.s 11))])
 (.seq (.cond (.s 13) .skip (.exit 0))
  (.seq (.block 1 (.seq (.reg [.op (some 14) (.mov (.s 12)),
        .op (some 15) (.iad (.s 10) (.s 12) [TI]),
        .op (some 16) (.load (.s 15) 1 false),
        .op (some 5) (.mov (.s 14)),
        .op (some 6) (.mov (.s 16))])
     (.seq (.reg [.op (some 17) (.mov (.s 6)),
         .op (some 18) (.bin .lss (.s 17) (.k (.c TI (1 : Int)))),
         .op (some 19) (.mov (.s 18)),
         .grp 19 false [.op (some 20) (.mov (.s 6)), .op (some 21) (.fad (.s 2) 0), .op (some 22) (.load (.s 21) 1 false), .op (some 23) (.len (.s 22)), .op (some 24) (.bin .sub (.s 23) (.k (.c TI (1 : Int)))), .op (some 25) (.bin .gtr (.s 20) (.s 24))] 26 (.s 25),
         .op (some 27) (.mov (.s 26)),
         .grp 27 false [.op (some 28) (.mov (.s 5)), .op (some 29) (.bin .gtr (.s 28) (.k (.c TI (0 : Int)))), .op (some 30) (.mov (.s 29)), .grp 30 true [.op (some 31) (.mov (.s 1)), .op (some 32) (.mov (.s 5)), .op (some 33) (.bin .sub (.s 32) (.k (.c TI (1 : Int)))), .op (some 34) (.iad (.s 31) (.s 33) [TI]), .op (some 35) (.load (.s 34) 1 false), .op (some 36) (.mov (.s 6)), .op (some 37) (.bin .geq (.s 35) (.s 36))] 38 (.s 37)] 39 (.s 38)])
      (.cond (.s 39) (.seq (.reg [.op (some 4) (.mov (.k (.c .bool false)))])
        .ret) .skip))))
   (.reg [.op (some 40) (.bin .add (.s 12) (.k (.c TI (1 : Int)))),
      .op (some 12) (.mov (.s 40))]))))
def i_CutsOk_L2 : List (Nat × Md) := [(1, .one .d), (2, .b [.d]), (10, .one .d), (11, .one .d), (12, .one .d)]
def i_CutsOk_y1 : TCode :=
  (.seq (.reg [.op (some 4) (.mov (.k (.c .bool true)))])
 .ret)
def i_CutsOk_c : TCode :=
  (.seq (.reg [.op (some 2) (.box 66 (.s 0) 1),
    .op (some 4) (.mov (.k (.c .bool false)))])
 (.seq (.seq (.reg [.op (some 7) (.load (.s 2) 1 true),
      .op (some 8) (.call 133 [(.s 7)]),
      .op (some 9) (.not (.s 8))])
   (.cond (.s 9) (.seq (.reg [.op (some 4) (.mov (.k (.c .bool false)))])
     .ret) .skip))
  (.seq (.seq (.reg [.op (some 10) (.mov (.s 1)),
       .op (some 11) (.len (.s 10)),
       .op (some 12) (.mov (.k (.c TI (0 : Int))))])
    (.block 0 (.loop i_CutsOk_L2 i_CutsOk_b2)))
   i_CutsOk_y1)))
def i_CutsOk_rs : List (ARv × Md) := [(.t 4, .one .d)]
theorem i_CutsOk_st : compF Try.prog 47 = some (i_CutsOk_c.er, i_CutsOk_rs.map Prod.fst, 41) := by kernel_rfl
def i_CutsOk_Q (K : TRes → Prop) : TPost := TQ 0 0 i_CutsOk_rs K
def i_CutsOk_q1 (K : TRes → Prop) : TPost := Qseq (tawp i_CutsOk_G 0 i_CutsOk_y1 (i_CutsOk_Q K)) (i_CutsOk_Q K)
def i_CutsOk_q2 (K : TRes → Prop) : TPost := Qblk 0 (i_CutsOk_q1 K)
def i_CutsOk_A2 (K : TRes → Prop) (m : List TOp') (cuts : List Int) (x : Int) : Prop := Loop i_CutsOk_G 0 i_CutsOk_L2 i_CutsOk_b2 (i_CutsOk_q2 K) ⟨[(1, (.c (.sl [TI]) cuts)), (2, (.p 0 0 0)), (10, (.c (.sl [TI]) cuts)), (11, (.c TI (cuts.length : Int))), (12, (.c TI x))], [(0, (.box [(.c (.sl ctOp) m)]))], 1⟩
theorem i_CutsOk_v2 (K : TRes → Prop) (m : List TOp') (cuts : List Int) (x : Int) (h :
  (((decide (x < (cuts.length : Int))) = true → (((0 : Int) ≤ x ∧ Int.toNat x < cuts.length) ∧ (((!((decide ((gtd (0 : Int) cuts (Int.toNat x)) < (1 : Int))) || (decide ((gtd (0 : Int) cuts (Int.toNat x)) > (w64 ((m.length : Int) - (1 : Int))))))) = true → ((decide (x > (0 : Int))) = true → ((0 : Int) ≤ w64 (x - (1 : Int)) ∧ Int.toNat (w64 (x - (1 : Int))) < cuts.length))) ∧ (((((decide ((gtd (0 : Int) cuts (Int.toNat x)) < (1 : Int))) || (decide ((gtd (0 : Int) cuts (Int.toNat x)) > (w64 ((m.length : Int) - (1 : Int)))))) || ((decide (x > (0 : Int))) && (decide ((gtd (0 : Int) cuts (Int.toNat (w64 (x - (1 : Int))))) ≥ (gtd (0 : Int) cuts (Int.toNat x)))))) = true → K (i_CutsOk_R false)) ∧ ((((decide ((gtd (0 : Int) cuts (Int.toNat x)) < (1 : Int))) || (decide ((gtd (0 : Int) cuts (Int.toNat x)) > (w64 ((m.length : Int) - (1 : Int)))))) || ((decide (x > (0 : Int))) && (decide ((gtd (0 : Int) cuts (Int.toNat (w64 (x - (1 : Int))))) ≥ (gtd (0 : Int) cuts (Int.toNat x)))))) = false → (i_CutsOk_A2 K m cuts (w64 (x + (1 : Int))))))))) ∧ ((decide (x < (cuts.length : Int))) = false → K (i_CutsOk_R true)))) : i_CutsOk_A2 K m cuts x :=
  Loop.of (by kernel_rfl) h
theorem i_CutsOk_v0 (K : TRes → Prop) (m : List TOp') (cuts : List Int) (h :
  (((!(m_modelOk m)) = true → K (i_CutsOk_R false)) ∧ ((!(m_modelOk m)) = false → (i_CutsOk_A2 K m cuts (0 : Int))))) : Hold (tawp i_CutsOk_G (0 + 0) i_CutsOk_c (TQ 0 0 i_CutsOk_rs K) (tstart [(.a [(.c (.sl ctOp) m)]), (.c (.sl [TI]) cuts)])) :=
  Hold.of (by kernel_rfl) h
theorem i_CutsOk_t (m : List TOp') (cuts : List Int) (r : TRes) (h : Hold (tawp i_CutsOk_G (0 + 0) i_CutsOk_c (TQ 0 0 i_CutsOk_rs fun r' => r' = r) (tstart [(.a [(.c (.sl ctOp) m)]), (.c (.sl [TI]) cuts)]))) : TCon Try.prog 47 [(.a [(.c (.sl ctOp) m)]), (.c (.sl [TI]) cuts)] r :=
  tcon_gen (sg := [(.a [(.sl ctOp)]), (.c (.sl [TI]))]) mixed (TOk.cons i_ModelOk_ok TOk.nil) i_CutsOk_st (by kernel_rfl) (by kernel_rfl) (by kernel_rfl) (by kernel_rfl) h
theorem i_CutsOk_h : i_CutsOk_C := by
  intro m cuts
  refine tcon_bd rfl fun hb => i_CutsOk_t m cuts _ (i_CutsOk_v0 _ m cuts ?_)
  have hl_m_0 : (m).length ≤ 9223372036854775807 := hb.1.1.1
  have hl_cuts : cuts.length ≤ 9223372036854775807 := hb.2.1.1
  refine ⟨fun h => R_eq (by grind [m_cutsOk]), fun h => ?_⟩
  refine listLoop cuts (fun r k => cutsGo (m.length - 1) (prevI cuts k) r = cutsGo (m.length - 1) none cuts → i_CutsOk_A2 (fun r' => r' = i_CutsOk_R (m_cutsOk m cuts)) m cuts k) ?_ ?_ rfl
  · intro he
    refine i_CutsOk_v2 (fun r' => r' = i_CutsOk_R (m_cutsOk m cuts)) m cuts _ ⟨fun h => by simp at h, fun _ => ?_⟩
    grind [cutsGo, m_cutsOk]
  · intro k x r hk hlt hg ih he
    refine i_CutsOk_v2 (fun r' => r' = i_CutsOk_R (m_cutsOk m cuts)) m cuts _ ⟨fun _ => ?_, fun h => by simp at h; omega⟩
    rw [Int.toNat_natCast, hg, w64_ok (x := (k : Int) + 1) (by omega) (by omega), w64_ok (x := (m.length : Int) - 1) (by omega) (by omega)]
    have ep : prevI cuts (k + 1) = some x := by simp [prevI, hg]
    rw [ep] at ih
    rcases Nat.eq_zero_or_pos k with h0 | h0
    · subst h0
      simp only [cutsGo, prevI, if_true, m_in] at he
      grind [m_cutsOk]
    · have e2 := tn_sub1 h0 (by omega : k ≤ 9223372036854775807)
      simp only [cutsGo, prevI, if_neg (Nat.ne_of_gt h0), m_in] at he
      grind [m_cutsOk]

theorem i_CutsOk_ok : TRowOk Try.prog i_CutsOk_row := rowOk fun x _ => i_CutsOk_h x.1 x.2.1

def s_StageRange_R (t : Int × Int) : TRes := ⟨(.tp [(.c TI t.1), (.c TI t.2)]), [], [], false, []⟩
def s_StageRange_row : TRow := mkRow 144 [(.a [(.sl ctOp)]), (.c (.sl [TI])), (.c TI)] fun x => (none, s_StageRange_R (m_stageRange x.1 x.2.1 x.2.2.1))
def s_StageRange_C : Prop := ∀ (x0 : List TOp') (x1 : List Int) (x2 : Int), TCon Try.prog 144 [(.a [(.c (.sl ctOp) x0)]), (.c (.sl [TI]) x1), (.c TI x2)] (s_StageRange_R (m_stageRange x0 x1 x2))

/-! spec.StageRange -/
def s_StageRange_G : List TRow := [s_CutsOk_row, s_l1In_row]
def s_StageRange_y1 : TCode :=
  (.seq (.seq (.reg [.op (some 31) (.mov (.s 2)),
     .op (some 32) (.mov (.s 1)),
     .op (some 33) (.len (.s 32)),
     .op (some 34) (.bin .lss (.s 31) (.s 33))])
  (.cond (.s 34) (.reg [.op (some 35) (.mov (.s 1)),
      .op (some 36) (.mov (.s 2)),
      .op (some 37) (.iad (.s 35) (.s 36) [TI]),
      .op (some 38) (.load (.s 37) 1 false),
      .op (some 9) (.mov (.s 38))]) .skip))
 (.seq (.reg [.op (some 39) (.mov (.s 8)),
     .op (some 40) (.mov (.s 9)),
     .op (some 6) (.mov (.s 39)),
     .op (some 7) (.mov (.s 40))])
  .ret))
def s_StageRange_L1 : List (Nat × Md) := [(1, .one .d), (2, .one .d), (8, .one .d), (9, .one .d)]
def s_StageRange_y1w : TCode := .wk s_StageRange_L1 s_StageRange_y1
def s_StageRange_c : TCode :=
  (.seq (.reg [.op (some 3) (.box 66 (.s 0) 1),
    .op (some 6) (.mov (.k (.c TI (0 : Int)))),
    .op (some 7) (.mov (.k (.c TI (0 : Int))))])
 (.seq (.seq (.reg [.op (some 10) (.load (.s 3) 1 true),
      .op (some 11) (.mov (.s 1)),
      .op (some 12) (.call 48 [(.s 10), (.s 11)]),
      .op (some 13) (.not (.s 12)),
      .op (some 14) (.mov (.s 13)),
      .grp 14 false [.op (some 15) (.mov (.s 2)), .op (some 16) (.mov (.s 1)), .op (some 17) (.len (.s 16)), .op (some 18) (.call 102 [(.s 15), (.k (.c TI (0 : Int))), (.s 17)]), .op (some 19) (.not (.s 18))] 20 (.s 19)])
   (.cond (.s 20) (.seq (.reg [.op (some 6) (.mov (.k (.c TI (0 : Int)))),
        .op (some 7) (.mov (.k (.c TI (0 : Int))))])
     .ret) .skip))
  (.seq (.reg [.op (some 8) (.mov (.k (.c TI (0 : Int))))])
   (.seq (.reg [.op (some 21) (.fad (.s 3) 0),
       .op (some 22) (.load (.s 21) 1 false),
       .op (some 23) (.len (.s 22)),
       .op (some 9) (.mov (.s 23))])
    (.seq (.seq (.reg [.op (some 24) (.mov (.s 2)),
         .op (some 25) (.bin .gtr (.s 24) (.k (.c TI (0 : Int))))])
      (.cond (.s 25) (.reg [.op (some 26) (.mov (.s 1)),
          .op (some 27) (.mov (.s 2)),
          .op (some 28) (.bin .sub (.s 27) (.k (.c TI (1 : Int)))),
          .op (some 29) (.iad (.s 26) (.s 28) [TI]),
          .op (some 30) (.load (.s 29) 1 false),
          .op (some 8) (.mov (.s 30))]) .skip))
     s_StageRange_y1w)))))
def s_StageRange_rs : List (ARv × Md) := [(.t 6, .one .d), (.t 7, .one .d)]
theorem s_StageRange_st : compF Try.prog 144 = some (s_StageRange_c.er, s_StageRange_rs.map Prod.fst, 41) := by kernel_rfl
def s_StageRange_Q (K : TRes → Prop) : TPost := TQ 0 0 s_StageRange_rs K
def s_StageRange_A1 (K : TRes → Prop) (m : List TOp') (cuts : List Int) (s : Int) (fro : Int) : Prop := tawp s_StageRange_G 0 s_StageRange_y1 (s_StageRange_Q K) ⟨[(1, (.c (.sl [TI]) cuts)), (2, (.c TI s)), (8, (.c TI fro)), (9, (.c TI (m.length : Int)))], [], 0⟩
theorem s_StageRange_v1 (K : TRes → Prop) (m : List TOp') (cuts : List Int) (s : Int) (fro : Int) (h :
  (((decide (s < (cuts.length : Int))) = true → (((0 : Int) ≤ s ∧ Int.toNat s < cuts.length) ∧ K (s_StageRange_R (fro, (gtd (0 : Int) cuts (Int.toNat s)))))) ∧ ((decide (s < (cuts.length : Int))) = false → K (s_StageRange_R (fro, (m.length : Int)))))) : Hold (s_StageRange_A1 K m cuts s fro) :=
  Hold.of (by kernel_rfl) h
theorem s_StageRange_v0 (K : TRes → Prop) (m : List TOp') (cuts : List Int) (s : Int) (h :
  ((((!(m_cutsOk m cuts)) || (!(m_in s (0 : Int) (cuts.length : Int)))) = true → K (s_StageRange_R ((0 : Int), (0 : Int)))) ∧ (((!(m_cutsOk m cuts)) || (!(m_in s (0 : Int) (cuts.length : Int)))) = false → (((decide (s > (0 : Int))) = true → (((0 : Int) ≤ w64 (s - (1 : Int)) ∧ Int.toNat (w64 (s - (1 : Int))) < cuts.length) ∧ (s_StageRange_A1 K m cuts s (gtd (0 : Int) cuts (Int.toNat (w64 (s - (1 : Int)))))))) ∧ ((decide (s > (0 : Int))) = false → (s_StageRange_A1 K m cuts s (0 : Int))))))) : Hold (tawp s_StageRange_G (0 + 0) s_StageRange_c (TQ 0 0 s_StageRange_rs K) (tstart [(.a [(.c (.sl ctOp) m)]), (.c (.sl [TI]) cuts), (.c TI s)])) :=
  Hold.of (by kernel_rfl) h
theorem s_StageRange_t (m : List TOp') (cuts : List Int) (s : Int) (r : TRes) (h : Hold (tawp s_StageRange_G (0 + 0) s_StageRange_c (TQ 0 0 s_StageRange_rs fun r' => r' = r) (tstart [(.a [(.c (.sl ctOp) m)]), (.c (.sl [TI]) cuts), (.c TI s)]))) : TCon Try.prog 144 [(.a [(.c (.sl ctOp) m)]), (.c (.sl [TI]) cuts), (.c TI s)] r :=
  tcon_gen (sg := [(.a [(.sl ctOp)]), (.c (.sl [TI])), (.c TI)]) mixed (TOk.cons s_CutsOk_ok (TOk.cons s_l1In_ok TOk.nil)) s_StageRange_st (by kernel_rfl) (by kernel_rfl) (by kernel_rfl) (by kernel_rfl) h
theorem s_StageRange_h : s_StageRange_C := by
  intro m cuts s
  refine tcon_bd rfl fun hb => s_StageRange_t m cuts s _ (s_StageRange_v0 _ m cuts s ?_)
  have hl_m_0 : (m).length ≤ 9223372036854775807 := hb.1.1.1
  have hl_cuts : cuts.length ≤ 9223372036854775807 := hb.2.1.1
  refine ⟨fun h => R_eq (by grind [m_stageRange, m_in]), fun h => ?_⟩
  have hc : m_cutsOk m cuts = true ∧ 0 ≤ s ∧ s ≤ cuts.length := by grind [m_in]
  have hl := cuts_len hc.1
  have e1 : (m_cutsOk m cuts && m_in s 0 cuts.length) = true := by grind [m_in]
  refine ⟨fun h1 => ?_, fun h1 => ?_⟩
  · have h1 : 0 < s := by simpa using h1
    rw [w64_ok (x := s - 1) (by omega) (by omega), show Int.toNat (s - 1) = s.toNat - 1 by omega]
    refine ⟨⟨by omega, by omega⟩, (s_StageRange_v1 (fun r' => r' = s_StageRange_R (m_stageRange m cuts s)) m cuts s _ ⟨fun h2 => ?_, fun h2 => ?_⟩).h⟩
    · have h2 : s < cuts.length := by simpa using h2
      exact ⟨⟨by omega, by omega⟩, R_eq (by simp [m_stageRange, e1, h1, h2])⟩
    · exact R_eq (by simp at h2; simp [m_stageRange, e1, h1, Int.not_lt.2 h2])
  · have h1 : ¬ 0 < s := by simpa using h1
    refine (s_StageRange_v1 (fun r' => r' = s_StageRange_R (m_stageRange m cuts s)) m cuts s _ ⟨fun h2 => ?_, fun h2 => ?_⟩).h
    · have h2 : s < cuts.length := by simpa using h2
      exact ⟨⟨by omega, by omega⟩, R_eq (by simp [m_stageRange, e1, h1, h2])⟩
    · exact R_eq (by simp at h2; simp [m_stageRange, e1, h1, Int.not_lt.2 h2])

theorem s_StageRange_ok : TRowOk Try.prog s_StageRange_row := rowOk fun x _ => s_StageRange_h x.1 x.2.1 x.2.2.1

def i_StageRange_R (t : Int × Int) : TRes := ⟨(.tp [(.c TI t.1), (.c TI t.2)]), [], [], false, []⟩
def i_StageRange_row : TRow := mkRow 49 [(.a [(.sl ctOp)]), (.c (.sl [TI])), (.c TI)] fun x => (none, i_StageRange_R (m_stageRange x.1 x.2.1 x.2.2.1))
def i_StageRange_C : Prop := ∀ (x0 : List TOp') (x1 : List Int) (x2 : Int), TCon Try.prog 49 [(.a [(.c (.sl ctOp) x0)]), (.c (.sl [TI]) x1), (.c TI x2)] (i_StageRange_R (m_stageRange x0 x1 x2))

/-! impl.StageRange -/
def i_StageRange_G : List TRow := [i_CutsOk_row]
def i_StageRange_y1 : TCode :=
  (.seq (.seq (.reg [.op (some 34) (.mov (.s 2)),
     .op (some 35) (.mov (.s 1)),
     .op (some 36) (.len (.s 35)),
     .op (some 37) (.bin .lss (.s 34) (.s 36))])
  (.cond (.s 37) (.reg [.op (some 38) (.mov (.s 1)),
      .op (some 39) (.mov (.s 2)),
      .op (some 40) (.iad (.s 38) (.s 39) [TI]),
      .op (some 41) (.load (.s 40) 1 false),
      .op (some 9) (.mov (.s 41))]) .skip))
 (.seq (.reg [.op (some 42) (.mov (.s 8)),
     .op (some 43) (.mov (.s 9)),
     .op (some 6) (.mov (.s 42)),
     .op (some 7) (.mov (.s 43))])
  .ret))
def i_StageRange_L1 : List (Nat × Md) := [(1, .one .d), (2, .one .d), (8, .one .d), (9, .one .d)]
def i_StageRange_y1w : TCode := .wk i_StageRange_L1 i_StageRange_y1
def i_StageRange_c : TCode :=
  (.seq (.reg [.op (some 3) (.box 66 (.s 0) 1),
    .op (some 6) (.mov (.k (.c TI (0 : Int)))),
    .op (some 7) (.mov (.k (.c TI (0 : Int))))])
 (.seq (.seq (.reg [.op (some 10) (.load (.s 3) 1 true),
      .op (some 11) (.mov (.s 1)),
      .op (some 12) (.call 47 [(.s 10), (.s 11)]),
      .op (some 13) (.not (.s 12)),
      .op (some 14) (.mov (.s 13)),
      .grp 14 false [.op (some 15) (.mov (.s 2)), .op (some 16) (.bin .lss (.s 15) (.k (.c TI (0 : Int))))] 17 (.s 16),
      .op (some 18) (.mov (.s 17)),
      .grp 18 false [.op (some 19) (.mov (.s 2)), .op (some 20) (.mov (.s 1)), .op (some 21) (.len (.s 20)), .op (some 22) (.bin .gtr (.s 19) (.s 21))] 23 (.s 22)])
   (.cond (.s 23) (.seq (.reg [.op (some 6) (.mov (.k (.c TI (0 : Int)))),
        .op (some 7) (.mov (.k (.c TI (0 : Int))))])
     .ret) .skip))
  (.seq (.draw [.op (some 24) (.fad (.s 3) 0),
      .op (some 25) (.load (.s 24) 1 false),
      .op (some 26) (.len (.s 25)),
      .op (some 8) (.mov (.k (.c TI (0 : Int)))),
      .op (some 9) (.mov (.s 26))] [])
   (.seq (.seq (.reg [.op (some 27) (.mov (.s 2)),
        .op (some 28) (.bin .gtr (.s 27) (.k (.c TI (0 : Int))))])
     (.cond (.s 28) (.reg [.op (some 29) (.mov (.s 1)),
         .op (some 30) (.mov (.s 2)),
         .op (some 31) (.bin .sub (.s 30) (.k (.c TI (1 : Int)))),
         .op (some 32) (.iad (.s 29) (.s 31) [TI]),
         .op (some 33) (.load (.s 32) 1 false),
         .op (some 8) (.mov (.s 33))]) .skip))
    i_StageRange_y1w))))
def i_StageRange_rs : List (ARv × Md) := [(.t 6, .one .d), (.t 7, .one .d)]
theorem i_StageRange_st : compF Try.prog 49 = some (i_StageRange_c.er, i_StageRange_rs.map Prod.fst, 44) := by kernel_rfl
def i_StageRange_Q (K : TRes → Prop) : TPost := TQ 0 0 i_StageRange_rs K
def i_StageRange_A1 (K : TRes → Prop) (m : List TOp') (cuts : List Int) (s : Int) (fro : Int) : Prop := tawp i_StageRange_G 0 i_StageRange_y1 (i_StageRange_Q K) ⟨[(1, (.c (.sl [TI]) cuts)), (2, (.c TI s)), (8, (.c TI fro)), (9, (.c TI (m.length : Int)))], [], 0⟩
theorem i_StageRange_v1 (K : TRes → Prop) (m : List TOp') (cuts : List Int) (s : Int) (fro : Int) (h :
  (((decide (s < (cuts.length : Int))) = true → (((0 : Int) ≤ s ∧ Int.toNat s < cuts.length) ∧ K (i_StageRange_R (fro, (gtd (0 : Int) cuts (Int.toNat s)))))) ∧ ((decide (s < (cuts.length : Int))) = false → K (i_StageRange_R (fro, (m.length : Int)))))) : Hold (i_StageRange_A1 K m cuts s fro) :=
  Hold.of (by kernel_rfl) h
theorem i_StageRange_v0 (K : TRes → Prop) (m : List TOp') (cuts : List Int) (s : Int) (h :
  (((((!(m_cutsOk m cuts)) || (decide (s < (0 : Int)))) || (decide (s > (cuts.length : Int)))) = true → K (i_StageRange_R ((0 : Int), (0 : Int)))) ∧ ((((!(m_cutsOk m cuts)) || (decide (s < (0 : Int)))) || (decide (s > (cuts.length : Int)))) = false → (((decide (s > (0 : Int))) = true → (((0 : Int) ≤ w64 (s - (1 : Int)) ∧ Int.toNat (w64 (s - (1 : Int))) < cuts.length) ∧ (i_StageRange_A1 K m cuts s (gtd (0 : Int) cuts (Int.toNat (w64 (s - (1 : Int)))))))) ∧ ((decide (s > (0 : Int))) = false → (i_StageRange_A1 K m cuts s (0 : Int))))))) : Hold (tawp i_StageRange_G (0 + 0) i_StageRange_c (TQ 0 0 i_StageRange_rs K) (tstart [(.a [(.c (.sl ctOp) m)]), (.c (.sl [TI]) cuts), (.c TI s)])) :=
  Hold.of (by kernel_rfl) h
theorem i_StageRange_t (m : List TOp') (cuts : List Int) (s : Int) (r : TRes) (h : Hold (tawp i_StageRange_G (0 + 0) i_StageRange_c (TQ 0 0 i_StageRange_rs fun r' => r' = r) (tstart [(.a [(.c (.sl ctOp) m)]), (.c (.sl [TI]) cuts), (.c TI s)]))) : TCon Try.prog 49 [(.a [(.c (.sl ctOp) m)]), (.c (.sl [TI]) cuts), (.c TI s)] r :=
  tcon_gen (sg := [(.a [(.sl ctOp)]), (.c (.sl [TI])), (.c TI)]) mixed (TOk.cons i_CutsOk_ok TOk.nil) i_StageRange_st (by kernel_rfl) (by kernel_rfl) (by kernel_rfl) (by kernel_rfl) h
theorem i_StageRange_h : i_StageRange_C := by
  intro m cuts s
  refine tcon_bd rfl fun hb => i_StageRange_t m cuts s _ (i_StageRange_v0 _ m cuts s ?_)
  have hl_m_0 : (m).length ≤ 9223372036854775807 := hb.1.1.1
  have hl_cuts : cuts.length ≤ 9223372036854775807 := hb.2.1.1
  refine ⟨fun h => R_eq (by grind [m_stageRange, m_in]), fun h => ?_⟩
  have hc : m_cutsOk m cuts = true ∧ 0 ≤ s ∧ s ≤ cuts.length := by grind [m_in]
  have hl := cuts_len hc.1
  have e1 : (m_cutsOk m cuts && m_in s 0 cuts.length) = true := by grind [m_in]
  refine ⟨fun h1 => ?_, fun h1 => ?_⟩
  · have h1 : 0 < s := by simpa using h1
    rw [w64_ok (x := s - 1) (by omega) (by omega), show Int.toNat (s - 1) = s.toNat - 1 by omega]
    refine ⟨⟨by omega, by omega⟩, (i_StageRange_v1 (fun r' => r' = i_StageRange_R (m_stageRange m cuts s)) m cuts s _ ⟨fun h2 => ?_, fun h2 => ?_⟩).h⟩
    · have h2 : s < cuts.length := by simpa using h2
      exact ⟨⟨by omega, by omega⟩, R_eq (by simp [m_stageRange, e1, h1, h2])⟩
    · exact R_eq (by simp at h2; simp [m_stageRange, e1, h1, Int.not_lt.2 h2])
  · have h1 : ¬ 0 < s := by simpa using h1
    refine (i_StageRange_v1 (fun r' => r' = i_StageRange_R (m_stageRange m cuts s)) m cuts s _ ⟨fun h2 => ?_, fun h2 => ?_⟩).h
    · have h2 : s < cuts.length := by simpa using h2
      exact ⟨⟨by omega, by omega⟩, R_eq (by simp [m_stageRange, e1, h1, h2])⟩
    · exact R_eq (by simp at h2; simp [m_stageRange, e1, h1, Int.not_lt.2 h2])

theorem i_StageRange_ok : TRowOk Try.prog i_StageRange_row := rowOk fun x _ => i_StageRange_h x.1 x.2.1 x.2.2.1

def s_StageCost_R (t : Int) : TRes := ⟨(.c TI t), [], [], false, []⟩
def s_StageCost_row : TRow := mkRow 138 [(.a [(.sl ctOp)]), (.c (.sl [TI])), (.c TI)] fun x => (none, s_StageCost_R (m_stageCost x.1 x.2.1 x.2.2.1))
def s_StageCost_C : Prop := ∀ (x0 : List TOp') (x1 : List Int) (x2 : Int), TCon Try.prog 138 [(.a [(.c (.sl ctOp) x0)]), (.c (.sl [TI]) x1), (.c TI x2)] (s_StageCost_R (m_stageCost x0 x1 x2))

/-! spec.StageCost -/
def s_StageCost_G : List TRow := [s_StageRange_row, s_OpCost_row]
def s_StageCost_b2 : TCode :=
  (.seq (.seq (.reg [.op (some 19) (.mov (.s 10)),
     .op (some 20) (.mov (.s 8)),
     .op (some 21) (.bin .lss (.s 19) (.s 20))])
  (.cond (.s 21) .skip (.exit 0)))
 (.seq (.block 1 (.reg [.op (some 24) (.mov (.s 9)),
      .op (some 25) (.fad (.s 3) 0),
      .op (some 26) (.load (.s 25) 1 false),
      .op (some 27) (.mov (.s 10)),
      .op (some 28) (.iad (.s 26) (.s 27) ctOp),
      .op (some 29) (.load (.s 28) 4 true),
      .op (some 30) (.call 192 [(.s 29)]),
      .op (some 31) (.bin .add (.s 24) (.s 30)),
      .op (some 9) (.mov (.s 31))]))
  (.reg [.op (some 22) (.mov (.s 10)),
     .op (some 23) (.bin .add (.s 22) (.k (.c TI (1 : Int)))),
     .op (some 10) (.mov (.s 23))])))
def s_StageCost_L2 : List (Nat × Md) := [(3, .b [.d]), (8, .one .d), (9, .one .d), (10, .one .d)]
def s_StageCost_y1 : TCode :=
  (.seq (.reg [.op (some 32) (.mov (.s 9)),
    .op (some 6) (.mov (.s 32))])
 .ret)
def s_StageCost_c : TCode :=
  (.seq (.reg [.op (some 3) (.box 66 (.s 0) 1),
    .op (some 6) (.mov (.k (.c TI (0 : Int))))])
 (.seq (.reg [.op (some 12) (.load (.s 3) 1 true),
     .op (some 13) (.mov (.s 1)),
     .op (some 14) (.mov (.s 2)),
     .op (some 15) (.call 144 [(.s 12), (.s 13), (.s 14)]),
     .op (some 11) (.mov (.s 15)),
     .op (some 16) (.ext (.s 11) 0),
     .op (some 17) (.ext (.s 11) 1),
     .op (some 7) (.mov (.s 16)),
     .op (some 8) (.mov (.s 17))])
  (.seq (.reg [.op (some 9) (.mov (.k (.c TI (0 : Int))))])
   (.seq (.seq (.reg [.op (some 18) (.mov (.s 7)),
        .op (some 10) (.mov (.s 18))])
     (.block 0 (.loop s_StageCost_L2 s_StageCost_b2)))
    s_StageCost_y1))))
def s_StageCost_rs : List (ARv × Md) := [(.t 6, .one .d)]
theorem s_StageCost_st : compF Try.prog 138 = some (s_StageCost_c.er, s_StageCost_rs.map Prod.fst, 33) := by kernel_rfl
def s_StageCost_Q (K : TRes → Prop) : TPost := TQ 0 0 s_StageCost_rs K
def s_StageCost_q1 (K : TRes → Prop) : TPost := Qseq (tawp s_StageCost_G 0 s_StageCost_y1 (s_StageCost_Q K)) (s_StageCost_Q K)
def s_StageCost_q2 (K : TRes → Prop) : TPost := Qblk 0 (s_StageCost_q1 K)
def s_StageCost_A2 (K : TRes → Prop) (m : List TOp') (cuts : List Int) (s : Int) (n : Int) (i : Int) : Prop := Loop s_StageCost_G 0 s_StageCost_L2 s_StageCost_b2 (s_StageCost_q2 K) ⟨[(3, (.p 0 0 0)), (8, (.c TI ((m_stageRange m cuts s).2))), (9, (.c TI n)), (10, (.c TI i))], [(0, (.box [(.c (.sl ctOp) m)]))], 1⟩
theorem s_StageCost_v2 (K : TRes → Prop) (m : List TOp') (cuts : List Int) (s : Int) (n : Int) (i : Int) (h :
  (((decide (i < ((m_stageRange m cuts s).2))) = true → (((0 : Int) ≤ i ∧ Int.toNat i < m.length) ∧ (s_StageCost_A2 K m cuts s (w64 (n + (m_opCost (gtd dOp m (Int.toNat i))))) (w64 (i + (1 : Int)))))) ∧ ((decide (i < ((m_stageRange m cuts s).2))) = false → K (s_StageCost_R n)))) : s_StageCost_A2 K m cuts s n i :=
  Loop.of (by kernel_rfl) h
theorem s_StageCost_v0 (K : TRes → Prop) (m : List TOp') (cuts : List Int) (s : Int) (h :
  (s_StageCost_A2 K m cuts s (0 : Int) ((m_stageRange m cuts s).1))) : Hold (tawp s_StageCost_G (0 + 0) s_StageCost_c (TQ 0 0 s_StageCost_rs K) (tstart [(.a [(.c (.sl ctOp) m)]), (.c (.sl [TI]) cuts), (.c TI s)])) :=
  Hold.of (by kernel_rfl) h
theorem s_StageCost_t (m : List TOp') (cuts : List Int) (s : Int) (r : TRes) (h : Hold (tawp s_StageCost_G (0 + 0) s_StageCost_c (TQ 0 0 s_StageCost_rs fun r' => r' = r) (tstart [(.a [(.c (.sl ctOp) m)]), (.c (.sl [TI]) cuts), (.c TI s)]))) : TCon Try.prog 138 [(.a [(.c (.sl ctOp) m)]), (.c (.sl [TI]) cuts), (.c TI s)] r :=
  tcon_gen (sg := [(.a [(.sl ctOp)]), (.c (.sl [TI])), (.c TI)]) mixed (TOk.cons s_StageRange_ok (TOk.cons s_OpCost_ok TOk.nil)) s_StageCost_st (by kernel_rfl) (by kernel_rfl) (by kernel_rfl) (by kernel_rfl) h
theorem s_StageCost_h : s_StageCost_C := by
  intro m cuts s
  refine tcon_bd rfl fun hb => s_StageCost_t m cuts s _ (s_StageCost_v0 _ m cuts s ?_)
  have hl_m_0 : (m).length ≤ 9223372036854775807 := hb.1.1.1
  have hl_cuts : cuts.length ≤ 9223372036854775807 := hb.2.1.1
  have hr := range_ok m cuts s
  have := sliceLoop m _ _ hr.1 hr.2.1 hr.2.2.1 (fun r k => ∀ y : Int, w64 (y + (r.map m_opCost).sum) = (m_stageCost m cuts s) → s_StageCost_A2 (fun r' => r' = s_StageCost_R (m_stageCost m cuts s)) m cuts s (w64 y) k) ?_ ?_ 0 (by simp [m_stageCost])
  · rw [show (((m_stageRange m cuts s).1.toNat : Nat) : Int) = (m_stageRange m cuts s).1 by omega] at this
    exact this
  · intro y he
    refine s_StageCost_v2 (fun r' => r' = s_StageCost_R (m_stageCost m cuts s)) m cuts s _ _ ⟨fun h => by simp at h; omega, fun _ => R_eq ?_⟩
    simpa using he
  · intro k x r h1 h2 hlt hg ih y he
    refine s_StageCost_v2 (fun r' => r' = s_StageCost_R (m_stageCost m cuts s)) m cuts s _ _ ⟨fun _ => ?_, fun h => by simp at h; omega⟩
    rw [Int.toNat_natCast, hg, w64_ok (x := (k : Int) + 1) (by omega) (by omega), w64_add_l]
    refine ⟨⟨by omega, hlt⟩, ih _ ?_⟩
    rw [← he, List.map_cons, List.sum_cons, Int.add_assoc]

theorem s_StageCost_ok : TRowOk Try.prog s_StageCost_row := rowOk fun x _ => s_StageCost_h x.1 x.2.1 x.2.2.1

def i_StageCost_R (t : Int) : TRes := ⟨(.c TI t), [], [], false, []⟩
def i_StageCost_row : TRow := mkRow 51 [(.a [(.sl ctOp)]), (.c (.sl [TI])), (.c TI)] fun x => (none, i_StageCost_R (m_stageCost x.1 x.2.1 x.2.2.1))
def i_StageCost_C : Prop := ∀ (x0 : List TOp') (x1 : List Int) (x2 : Int), TCon Try.prog 51 [(.a [(.c (.sl ctOp) x0)]), (.c (.sl [TI]) x1), (.c TI x2)] (i_StageCost_R (m_stageCost x0 x1 x2))

/-! impl.StageCost -/
def i_StageCost_G : List TRow := [i_StageRange_row, i_OpCost_row]
def i_StageCost_b2 : TCode :=
  (.seq (.seq (.reg [.op (some 19) (.mov (.s 10)),
     .op (some 20) (.mov (.s 8)),
     .op (some 21) (.bin .lss (.s 19) (.s 20))])
  (.cond (.s 21) .skip (.exit 0)))
 (.seq (.block 1 (.reg [.op (some 24) (.mov (.s 9)),
      .op (some 25) (.fad (.s 3) 0),
      .op (some 26) (.load (.s 25) 1 false),
      .op (some 27) (.mov (.s 10)),
      .op (some 28) (.iad (.s 26) (.s 27) ctOp),
      .op (some 29) (.load (.s 28) 4 true),
      .op (some 30) (.call 52 [(.s 29)]),
      .op (some 31) (.bin .add (.s 24) (.s 30)),
      .op (some 9) (.mov (.s 31))]))
  (.reg [.op (some 22) (.mov (.s 10)),
     .op (some 23) (.bin .add (.s 22) (.k (.c TI (1 : Int)))),
     .op (some 10) (.mov (.s 23))])))
def i_StageCost_L2 : List (Nat × Md) := [(3, .b [.d]), (8, .one .d), (9, .one .d), (10, .one .d)]
def i_StageCost_y1 : TCode :=
  (.seq (.reg [.op (some 32) (.mov (.s 9)),
    .op (some 6) (.mov (.s 32))])
 .ret)
def i_StageCost_c : TCode :=
  (.seq (.reg [.op (some 3) (.box 66 (.s 0) 1),
    .op (some 6) (.mov (.k (.c TI (0 : Int))))])
 (.seq (.reg [.op (some 12) (.load (.s 3) 1 true),
     .op (some 13) (.mov (.s 1)),
     .op (some 14) (.mov (.s 2)),
     .op (some 15) (.call 49 [(.s 12), (.s 13), (.s 14)]),
     .op (some 11) (.mov (.s 15)),
     .op (some 16) (.ext (.s 11) 0),
     .op (some 17) (.ext (.s 11) 1),
     .op (some 7) (.mov (.s 16)),
     .op (some 8) (.mov (.s 17))])
  (.seq (.reg [.op (some 9) (.mov (.k (.c TI (0 : Int))))])
   (.seq (.seq (.reg [.op (some 18) (.mov (.s 7)),
        .op (some 10) (.mov (.s 18))])
     (.block 0 (.loop i_StageCost_L2 i_StageCost_b2)))
    i_StageCost_y1))))
def i_StageCost_rs : List (ARv × Md) := [(.t 6, .one .d)]
theorem i_StageCost_st : compF Try.prog 51 = some (i_StageCost_c.er, i_StageCost_rs.map Prod.fst, 33) := by kernel_rfl
def i_StageCost_Q (K : TRes → Prop) : TPost := TQ 0 0 i_StageCost_rs K
def i_StageCost_q1 (K : TRes → Prop) : TPost := Qseq (tawp i_StageCost_G 0 i_StageCost_y1 (i_StageCost_Q K)) (i_StageCost_Q K)
def i_StageCost_q2 (K : TRes → Prop) : TPost := Qblk 0 (i_StageCost_q1 K)
def i_StageCost_A2 (K : TRes → Prop) (m : List TOp') (cuts : List Int) (s : Int) (sum : Int) (i : Int) : Prop := Loop i_StageCost_G 0 i_StageCost_L2 i_StageCost_b2 (i_StageCost_q2 K) ⟨[(3, (.p 0 0 0)), (8, (.c TI ((m_stageRange m cuts s).2))), (9, (.c TI sum)), (10, (.c TI i))], [(0, (.box [(.c (.sl ctOp) m)]))], 1⟩
theorem i_StageCost_v2 (K : TRes → Prop) (m : List TOp') (cuts : List Int) (s : Int) (sum : Int) (i : Int) (h :
  (((decide (i < ((m_stageRange m cuts s).2))) = true → (((0 : Int) ≤ i ∧ Int.toNat i < m.length) ∧ (i_StageCost_A2 K m cuts s (w64 (sum + (m_opCost (gtd dOp m (Int.toNat i))))) (w64 (i + (1 : Int)))))) ∧ ((decide (i < ((m_stageRange m cuts s).2))) = false → K (i_StageCost_R sum)))) : i_StageCost_A2 K m cuts s sum i :=
  Loop.of (by kernel_rfl) h
theorem i_StageCost_v0 (K : TRes → Prop) (m : List TOp') (cuts : List Int) (s : Int) (h :
  (i_StageCost_A2 K m cuts s (0 : Int) ((m_stageRange m cuts s).1))) : Hold (tawp i_StageCost_G (0 + 0) i_StageCost_c (TQ 0 0 i_StageCost_rs K) (tstart [(.a [(.c (.sl ctOp) m)]), (.c (.sl [TI]) cuts), (.c TI s)])) :=
  Hold.of (by kernel_rfl) h
theorem i_StageCost_t (m : List TOp') (cuts : List Int) (s : Int) (r : TRes) (h : Hold (tawp i_StageCost_G (0 + 0) i_StageCost_c (TQ 0 0 i_StageCost_rs fun r' => r' = r) (tstart [(.a [(.c (.sl ctOp) m)]), (.c (.sl [TI]) cuts), (.c TI s)]))) : TCon Try.prog 51 [(.a [(.c (.sl ctOp) m)]), (.c (.sl [TI]) cuts), (.c TI s)] r :=
  tcon_gen (sg := [(.a [(.sl ctOp)]), (.c (.sl [TI])), (.c TI)]) mixed (TOk.cons i_StageRange_ok (TOk.cons i_OpCost_ok TOk.nil)) i_StageCost_st (by kernel_rfl) (by kernel_rfl) (by kernel_rfl) (by kernel_rfl) h
theorem i_StageCost_h : i_StageCost_C := by
  intro m cuts s
  refine tcon_bd rfl fun hb => i_StageCost_t m cuts s _ (i_StageCost_v0 _ m cuts s ?_)
  have hl_m_0 : (m).length ≤ 9223372036854775807 := hb.1.1.1
  have hl_cuts : cuts.length ≤ 9223372036854775807 := hb.2.1.1
  have hr := range_ok m cuts s
  have := sliceLoop m _ _ hr.1 hr.2.1 hr.2.2.1 (fun r k => ∀ y : Int, w64 (y + (r.map m_opCost).sum) = (m_stageCost m cuts s) → i_StageCost_A2 (fun r' => r' = i_StageCost_R (m_stageCost m cuts s)) m cuts s (w64 y) k) ?_ ?_ 0 (by simp [m_stageCost])
  · rw [show (((m_stageRange m cuts s).1.toNat : Nat) : Int) = (m_stageRange m cuts s).1 by omega] at this
    exact this
  · intro y he
    refine i_StageCost_v2 (fun r' => r' = i_StageCost_R (m_stageCost m cuts s)) m cuts s _ _ ⟨fun h => by simp at h; omega, fun _ => R_eq ?_⟩
    simpa using he
  · intro k x r h1 h2 hlt hg ih y he
    refine i_StageCost_v2 (fun r' => r' = i_StageCost_R (m_stageCost m cuts s)) m cuts s _ _ ⟨fun _ => ?_, fun h => by simp at h; omega⟩
    rw [Int.toNat_natCast, hg, w64_ok (x := (k : Int) + 1) (by omega) (by omega), w64_add_l]
    refine ⟨⟨by omega, hlt⟩, ih _ ?_⟩
    rw [← he, List.map_cons, List.sum_cons, Int.add_assoc]

theorem i_StageCost_ok : TRowOk Try.prog i_StageCost_row := rowOk fun x _ => i_StageCost_h x.1 x.2.1 x.2.2.1

def s_MaxCost_R (t : Int) : TRes := ⟨(.c TI t), [], [], false, []⟩
def s_MaxCost_row : TRow := mkRow 62 [(.a [(.sl ctOp)]), (.c (.sl [TI]))] fun x => (none, s_MaxCost_R (m_maxCost x.1 x.2.1))
def s_MaxCost_C : Prop := ∀ (x0 : List TOp') (x1 : List Int), TCon Try.prog 62 [(.a [(.c (.sl ctOp) x0)]), (.c (.sl [TI]) x1)] (s_MaxCost_R (m_maxCost x0 x1))

/-! spec.MaxCost -/
def s_MaxCost_G : List TRow := [s_CutsOk_row, s_StageCost_row]
def s_MaxCost_b2 : TCode :=
  (.seq (.seq (.reg [.op (some 7) (.mov (.s 6)),
     .op (some 8) (.mov (.s 1)),
     .op (some 9) (.len (.s 8)),
     .op (some 10) (.bin .leq (.s 7) (.s 9)),
     .op (some 11) (.mov (.s 10)),
     .grp 11 true [.op (some 12) (.load (.s 2) 1 true), .op (some 13) (.mov (.s 1)), .op (some 14) (.call 48 [(.s 12), (.s 13)])] 15 (.s 14)])
  (.cond (.s 15) .skip (.exit 0)))
 (.seq (.block 1 (.reg [.op (some 18) (.mov (.s 5)),
      .op (some 19) (.load (.s 2) 1 true),
      .op (some 20) (.mov (.s 1)),
      .op (some 21) (.mov (.s 6)),
      .op (some 22) (.call 138 [(.s 19), (.s 20), (.s 21)]),
      .op (some 23) (.mm true (.s 18) (.s 22)),
      .op (some 5) (.mov (.s 23))]))
  (.reg [.op (some 16) (.mov (.s 6)),
     .op (some 17) (.bin .add (.s 16) (.k (.c TI (1 : Int)))),
     .op (some 6) (.mov (.s 17))])))
def s_MaxCost_L2 : List (Nat × Md) := [(1, .one .d), (2, .b [.d]), (5, .one .d), (6, .one .d)]
def s_MaxCost_y1 : TCode :=
  (.seq (.reg [.op (some 24) (.mov (.s 5)),
    .op (some 4) (.mov (.s 24))])
 .ret)
def s_MaxCost_c : TCode :=
  (.seq (.reg [.op (some 2) (.box 66 (.s 0) 1),
    .op (some 4) (.mov (.k (.c TI (0 : Int))))])
 (.seq (.reg [.op (some 5) (.mov (.k (.c TI (0 : Int))))])
  (.seq (.seq (.reg [.op (some 6) (.mov (.k (.c TI (0 : Int))))])
    (.block 0 (.loop s_MaxCost_L2 s_MaxCost_b2)))
   s_MaxCost_y1)))
def s_MaxCost_rs : List (ARv × Md) := [(.t 4, .one .d)]
theorem s_MaxCost_st : compF Try.prog 62 = some (s_MaxCost_c.er, s_MaxCost_rs.map Prod.fst, 25) := by kernel_rfl
def s_MaxCost_Q (K : TRes → Prop) : TPost := TQ 0 0 s_MaxCost_rs K
def s_MaxCost_q1 (K : TRes → Prop) : TPost := Qseq (tawp s_MaxCost_G 0 s_MaxCost_y1 (s_MaxCost_Q K)) (s_MaxCost_Q K)
def s_MaxCost_q2 (K : TRes → Prop) : TPost := Qblk 0 (s_MaxCost_q1 K)
def s_MaxCost_A2 (K : TRes → Prop) (m : List TOp') (cuts : List Int) (best : Int) (s : Int) : Prop := Loop s_MaxCost_G 0 s_MaxCost_L2 s_MaxCost_b2 (s_MaxCost_q2 K) ⟨[(1, (.c (.sl [TI]) cuts)), (2, (.p 0 0 0)), (5, (.c TI best)), (6, (.c TI s))], [(0, (.box [(.c (.sl ctOp) m)]))], 1⟩
theorem s_MaxCost_v2 (K : TRes → Prop) (m : List TOp') (cuts : List Int) (best : Int) (s : Int) (h :
  ((((decide (s ≤ (cuts.length : Int))) && (m_cutsOk m cuts)) = true → (s_MaxCost_A2 K m cuts (if best < (m_stageCost m cuts s) then (m_stageCost m cuts s) else best) (w64 (s + (1 : Int))))) ∧ (((decide (s ≤ (cuts.length : Int))) && (m_cutsOk m cuts)) = false → K (s_MaxCost_R best)))) : s_MaxCost_A2 K m cuts best s :=
  Loop.of (by kernel_rfl) h
theorem s_MaxCost_v0 (K : TRes → Prop) (m : List TOp') (cuts : List Int) (h :
  (s_MaxCost_A2 K m cuts (0 : Int) (0 : Int))) : Hold (tawp s_MaxCost_G (0 + 0) s_MaxCost_c (TQ 0 0 s_MaxCost_rs K) (tstart [(.a [(.c (.sl ctOp) m)]), (.c (.sl [TI]) cuts)])) :=
  Hold.of (by kernel_rfl) h
theorem s_MaxCost_t (m : List TOp') (cuts : List Int) (r : TRes) (h : Hold (tawp s_MaxCost_G (0 + 0) s_MaxCost_c (TQ 0 0 s_MaxCost_rs fun r' => r' = r) (tstart [(.a [(.c (.sl ctOp) m)]), (.c (.sl [TI]) cuts)]))) : TCon Try.prog 62 [(.a [(.c (.sl ctOp) m)]), (.c (.sl [TI]) cuts)] r :=
  tcon_gen (sg := [(.a [(.sl ctOp)]), (.c (.sl [TI]))]) mixed (TOk.cons s_CutsOk_ok (TOk.cons s_StageCost_ok TOk.nil)) s_MaxCost_st (by kernel_rfl) (by kernel_rfl) (by kernel_rfl) (by kernel_rfl) h
theorem s_MaxCost_h : s_MaxCost_C := by
  intro m cuts
  refine tcon_bd rfl fun hb => s_MaxCost_t m cuts _ (s_MaxCost_v0 _ m cuts ?_)
  have hl_m_0 : (m).length ≤ 9223372036854775807 := hb.1.1.1
  have hl_cuts : cuts.length ≤ 9223372036854775807 := hb.2.1.1
  cases hc : m_cutsOk m cuts with
  | false =>
    refine s_MaxCost_v2 (fun r' => r' = s_MaxCost_R (m_maxCost m cuts)) m cuts _ _ ⟨fun h => by simp [hc] at h, fun _ => R_eq ?_⟩
    simp [m_maxCost, hc]
  | true =>
    have hl := cuts_len hc
    refine upLoop (cuts.length + 1) (fun k => s_MaxCost_A2 (fun r' => r' = s_MaxCost_R (m_maxCost m cuts)) m cuts (maxGo (fun s => m_stageCost m cuts s) k 0) k) ?_ ?_
    · refine s_MaxCost_v2 (fun r' => r' = s_MaxCost_R (m_maxCost m cuts)) m cuts _ _ ⟨fun h => by simp at h; omega, fun _ => R_eq ?_⟩
      simp [m_maxCost, hc]
    · intro k hk ih
      refine s_MaxCost_v2 (fun r' => r' = s_MaxCost_R (m_maxCost m cuts)) m cuts _ _ ⟨fun _ => ?_, fun h => by simp [hc] at h; omega⟩
      rw [w64_ok (x := (k : Int) + 1) (by omega) (by omega)]
      exact ih

theorem s_MaxCost_ok : TRowOk Try.prog s_MaxCost_row := rowOk fun x _ => s_MaxCost_h x.1 x.2.1

def i_MaxCost_R (t : Int) : TRes := ⟨(.c TI t), [], [], false, []⟩
def i_MaxCost_row : TRow := mkRow 50 [(.a [(.sl ctOp)]), (.c (.sl [TI]))] fun x => (none, i_MaxCost_R (m_maxCost x.1 x.2.1))
def i_MaxCost_C : Prop := ∀ (x0 : List TOp') (x1 : List Int), TCon Try.prog 50 [(.a [(.c (.sl ctOp) x0)]), (.c (.sl [TI]) x1)] (i_MaxCost_R (m_maxCost x0 x1))

/-! impl.MaxCost -/
def i_MaxCost_G : List TRow := [i_CutsOk_row, i_StageCost_row]
def i_MaxCost_b2 : TCode :=
  (.seq (.seq (.reg [.op (some 12) (.mov (.s 6)),
     .op (some 13) (.mov (.s 1)),
     .op (some 14) (.len (.s 13)),
     .op (some 15) (.bin .leq (.s 12) (.s 14))])
  (.cond (.s 15) .skip (.exit 0)))
 (.seq (.block 1 (.reg [.op (some 18) (.mov (.s 5)),
      .op (some 19) (.load (.s 2) 1 true),
      .op (some 20) (.mov (.s 1)),
      .op (some 21) (.mov (.s 6)),
      .op (some 22) (.call 51 [(.s 19), (.s 20), (.s 21)]),
      .op (some 23) (.mm true (.s 18) (.s 22)),
      .op (some 5) (.mov (.s 23))]))
  (.reg [.op (some 16) (.mov (.s 6)),
     .op (some 17) (.bin .add (.s 16) (.k (.c TI (1 : Int)))),
     .op (some 6) (.mov (.s 17))])))
def i_MaxCost_L2 : List (Nat × Md) := [(1, .one .d), (2, .b [.d]), (5, .one .d), (6, .one .d)]
def i_MaxCost_y1 : TCode :=
  (.seq (.reg [.op (some 24) (.mov (.s 5)),
    .op (some 4) (.mov (.s 24))])
 .ret)
def i_MaxCost_c : TCode :=
  (.seq (.reg [.op (some 2) (.box 66 (.s 0) 1),
    .op (some 4) (.mov (.k (.c TI (0 : Int))))])
 (.seq (.reg [.op (some 5) (.mov (.k (.c TI (0 : Int))))])
  (.seq (.seq (.reg [.op (some 7) (.load (.s 2) 1 true),
       .op (some 8) (.mov (.s 1)),
       .op (some 9) (.call 47 [(.s 7), (.s 8)]),
       .op (some 10) (.not (.s 9))])
    (.cond (.s 10) (.seq (.reg [.op (some 11) (.mov (.s 5)),
         .op (some 4) (.mov (.s 11))])
      .ret) .skip))
   (.seq (.seq (.reg [.op (some 6) (.mov (.k (.c TI (0 : Int))))])
     (.block 0 (.loop i_MaxCost_L2 i_MaxCost_b2)))
    i_MaxCost_y1))))
def i_MaxCost_rs : List (ARv × Md) := [(.t 4, .one .d)]
theorem i_MaxCost_st : compF Try.prog 50 = some (i_MaxCost_c.er, i_MaxCost_rs.map Prod.fst, 25) := by kernel_rfl
def i_MaxCost_Q (K : TRes → Prop) : TPost := TQ 0 0 i_MaxCost_rs K
def i_MaxCost_q1 (K : TRes → Prop) : TPost := Qseq (tawp i_MaxCost_G 0 i_MaxCost_y1 (i_MaxCost_Q K)) (i_MaxCost_Q K)
def i_MaxCost_q2 (K : TRes → Prop) : TPost := Qblk 0 (i_MaxCost_q1 K)
def i_MaxCost_A2 (K : TRes → Prop) (m : List TOp') (cuts : List Int) (most : Int) (s : Int) : Prop := Loop i_MaxCost_G 0 i_MaxCost_L2 i_MaxCost_b2 (i_MaxCost_q2 K) ⟨[(1, (.c (.sl [TI]) cuts)), (2, (.p 0 0 0)), (5, (.c TI most)), (6, (.c TI s))], [(0, (.box [(.c (.sl ctOp) m)]))], 1⟩
theorem i_MaxCost_v2 (K : TRes → Prop) (m : List TOp') (cuts : List Int) (most : Int) (s : Int) (h :
  (((decide (s ≤ (cuts.length : Int))) = true → (i_MaxCost_A2 K m cuts (if most < (m_stageCost m cuts s) then (m_stageCost m cuts s) else most) (w64 (s + (1 : Int))))) ∧ ((decide (s ≤ (cuts.length : Int))) = false → K (i_MaxCost_R most)))) : i_MaxCost_A2 K m cuts most s :=
  Loop.of (by kernel_rfl) h
theorem i_MaxCost_v0 (K : TRes → Prop) (m : List TOp') (cuts : List Int) (h :
  (((!(m_cutsOk m cuts)) = true → K (i_MaxCost_R (0 : Int))) ∧ ((!(m_cutsOk m cuts)) = false → (i_MaxCost_A2 K m cuts (0 : Int) (0 : Int))))) : Hold (tawp i_MaxCost_G (0 + 0) i_MaxCost_c (TQ 0 0 i_MaxCost_rs K) (tstart [(.a [(.c (.sl ctOp) m)]), (.c (.sl [TI]) cuts)])) :=
  Hold.of (by kernel_rfl) h
theorem i_MaxCost_t (m : List TOp') (cuts : List Int) (r : TRes) (h : Hold (tawp i_MaxCost_G (0 + 0) i_MaxCost_c (TQ 0 0 i_MaxCost_rs fun r' => r' = r) (tstart [(.a [(.c (.sl ctOp) m)]), (.c (.sl [TI]) cuts)]))) : TCon Try.prog 50 [(.a [(.c (.sl ctOp) m)]), (.c (.sl [TI]) cuts)] r :=
  tcon_gen (sg := [(.a [(.sl ctOp)]), (.c (.sl [TI]))]) mixed (TOk.cons i_CutsOk_ok (TOk.cons i_StageCost_ok TOk.nil)) i_MaxCost_st (by kernel_rfl) (by kernel_rfl) (by kernel_rfl) (by kernel_rfl) h
theorem i_MaxCost_h : i_MaxCost_C := by
  intro m cuts
  refine tcon_bd rfl fun hb => i_MaxCost_t m cuts _ (i_MaxCost_v0 _ m cuts ?_)
  have hl_m_0 : (m).length ≤ 9223372036854775807 := hb.1.1.1
  have hl_cuts : cuts.length ≤ 9223372036854775807 := hb.2.1.1
  refine ⟨fun h => R_eq (by simp at h; simp [m_maxCost, h]), fun h => ?_⟩
  have hc : m_cutsOk m cuts = true := by simpa using h
  have hl := cuts_len hc
  refine upLoop (cuts.length + 1) (fun k => i_MaxCost_A2 (fun r' => r' = i_MaxCost_R (m_maxCost m cuts)) m cuts (maxGo (fun s => m_stageCost m cuts s) k 0) k) ?_ ?_
  · refine i_MaxCost_v2 (fun r' => r' = i_MaxCost_R (m_maxCost m cuts)) m cuts _ _ ⟨fun h => by simp at h; omega, fun _ => R_eq ?_⟩
    simp [m_maxCost, hc]
  · intro k hk ih
    refine i_MaxCost_v2 (fun r' => r' = i_MaxCost_R (m_maxCost m cuts)) m cuts _ _ ⟨fun _ => ?_, fun h => by simp at h; omega⟩
    rw [w64_ok (x := (k : Int) + 1) (by omega) (by omega)]
    exact ih

theorem i_MaxCost_ok : TRowOk Try.prog i_MaxCost_row := rowOk fun x _ => i_MaxCost_h x.1 x.2.1

def s_StagesOf_R (t : Int) : TRes := ⟨(.c TI t), [], [], false, []⟩
def s_StagesOf_row : TRow := mkRow 148 [(.a ctConfig)] fun x => (none, s_StagesOf_R (m_stagesOf x.1))
def s_StagesOf_C : Prop := ∀ (x0 : TConfig), TCon Try.prog 148 [(.a (Tup.cells ctConfig x0))] (s_StagesOf_R (m_stagesOf x0))

/-! spec.StagesOf -/
def s_StagesOf_G : List TRow := [s_CutsOk_row]
def s_StagesOf_c : TCode :=
  (.seq (.reg [.op (some 1) (.box 103 (.s 0) 6),
    .op (some 2) (.mov (.k (.c TI (0 : Int))))])
 (.seq (.seq (.reg [.op (some 3) (.fad (.s 1) 0),
      .op (some 4) (.load (.s 3) 1 true),
      .op (some 5) (.fad (.s 1) 1),
      .op (some 6) (.load (.s 5) 1 false),
      .op (some 7) (.call 48 [(.s 4), (.s 6)]),
      .op (some 8) (.not (.s 7))])
   (.cond (.s 8) (.seq (.reg [.op (some 2) (.mov (.k (.c TI (0 : Int))))])
     .ret) .skip))
  (.seq (.reg [.op (some 9) (.fad (.s 1) 1),
      .op (some 10) (.load (.s 9) 1 false),
      .op (some 11) (.len (.s 10)),
      .op (some 12) (.bin .add (.s 11) (.k (.c TI (1 : Int)))),
      .op (some 2) (.mov (.s 12))])
   .ret)))
def s_StagesOf_rs : List (ARv × Md) := [(.t 2, .one .d)]
theorem s_StagesOf_st : compF Try.prog 148 = some (s_StagesOf_c.er, s_StagesOf_rs.map Prod.fst, 13) := by kernel_rfl
def s_StagesOf_Q (K : TRes → Prop) : TPost := TQ 0 0 s_StagesOf_rs K
theorem s_StagesOf_v0 (K : TRes → Prop) (c : TConfig) (h :
  (((!(m_cutsOk c.1 c.2.1)) = true → K (s_StagesOf_R (0 : Int))) ∧ ((!(m_cutsOk c.1 c.2.1)) = false → K (s_StagesOf_R (w64 (((c.2.1).length : Int) + (1 : Int))))))) : Hold (tawp s_StagesOf_G (0 + 0) s_StagesOf_c (TQ 0 0 s_StagesOf_rs K) (tstart [(.a (Tup.cells ctConfig c))])) :=
  Hold.of (by kernel_rfl) h
theorem s_StagesOf_t (c : TConfig) (r : TRes) (h : Hold (tawp s_StagesOf_G (0 + 0) s_StagesOf_c (TQ 0 0 s_StagesOf_rs fun r' => r' = r) (tstart [(.a (Tup.cells ctConfig c))]))) : TCon Try.prog 148 [(.a (Tup.cells ctConfig c))] r :=
  tcon_gen (sg := [(.a ctConfig)]) mixed (TOk.cons s_CutsOk_ok TOk.nil) s_StagesOf_st (by kernel_rfl) (by kernel_rfl) (by kernel_rfl) (by kernel_rfl) h
theorem s_StagesOf_h : s_StagesOf_C := by
  intro c
  refine tcon_bd rfl fun hb => s_StagesOf_t c _ (s_StagesOf_v0 _ c ?_)
  have hl_c_0 : (c.1).length ≤ 9223372036854775807 := hb.1.1.1
  have hl_c_1 : (c.2.1).length ≤ 9223372036854775807 := hb.1.2.1.1
  have hl_c_3 : (c.2.2.2.1).length ≤ 9223372036854775807 := hb.1.2.2.2.1.1
  have hl_c_4 : (c.2.2.2.2.1).length ≤ 9223372036854775807 := hb.1.2.2.2.2.1.1
  have hl_c_5 : (c.2.2.2.2.2).length ≤ 9223372036854775807 := hb.1.2.2.2.2.2.1.1
  grind [m_stagesOf]

theorem s_StagesOf_ok : TRowOk Try.prog s_StagesOf_row := rowOk fun x _ => s_StagesOf_h x.1

def i_StagesOf_R (t : Int) : TRes := ⟨(.c TI t), [], [], false, []⟩
def i_StagesOf_row : TRow := mkRow 141 [(.a ctConfig)] fun x => (none, i_StagesOf_R (m_stagesOf x.1))
def i_StagesOf_C : Prop := ∀ (x0 : TConfig), TCon Try.prog 141 [(.a (Tup.cells ctConfig x0))] (i_StagesOf_R (m_stagesOf x0))

/-! impl.StagesOf -/
def i_StagesOf_G : List TRow := [i_CutsOk_row]
def i_StagesOf_c : TCode :=
  (.seq (.reg [.op (some 1) (.box 103 (.s 0) 6),
    .op (some 2) (.mov (.k (.c TI (0 : Int))))])
 (.seq (.seq (.reg [.op (some 3) (.fad (.s 1) 0),
      .op (some 4) (.load (.s 3) 1 true),
      .op (some 5) (.fad (.s 1) 1),
      .op (some 6) (.load (.s 5) 1 false),
      .op (some 7) (.call 47 [(.s 4), (.s 6)]),
      .op (some 8) (.not (.s 7))])
   (.cond (.s 8) (.seq (.reg [.op (some 2) (.mov (.k (.c TI (0 : Int))))])
     .ret) .skip))
  (.seq (.reg [.op (some 9) (.fad (.s 1) 1),
      .op (some 10) (.load (.s 9) 1 false),
      .op (some 11) (.len (.s 10)),
      .op (some 12) (.bin .add (.s 11) (.k (.c TI (1 : Int)))),
      .op (some 2) (.mov (.s 12))])
   .ret)))
def i_StagesOf_rs : List (ARv × Md) := [(.t 2, .one .d)]
theorem i_StagesOf_st : compF Try.prog 141 = some (i_StagesOf_c.er, i_StagesOf_rs.map Prod.fst, 13) := by kernel_rfl
def i_StagesOf_Q (K : TRes → Prop) : TPost := TQ 0 0 i_StagesOf_rs K
theorem i_StagesOf_v0 (K : TRes → Prop) (c : TConfig) (h :
  (((!(m_cutsOk c.1 c.2.1)) = true → K (i_StagesOf_R (0 : Int))) ∧ ((!(m_cutsOk c.1 c.2.1)) = false → K (i_StagesOf_R (w64 (((c.2.1).length : Int) + (1 : Int))))))) : Hold (tawp i_StagesOf_G (0 + 0) i_StagesOf_c (TQ 0 0 i_StagesOf_rs K) (tstart [(.a (Tup.cells ctConfig c))])) :=
  Hold.of (by kernel_rfl) h
theorem i_StagesOf_t (c : TConfig) (r : TRes) (h : Hold (tawp i_StagesOf_G (0 + 0) i_StagesOf_c (TQ 0 0 i_StagesOf_rs fun r' => r' = r) (tstart [(.a (Tup.cells ctConfig c))]))) : TCon Try.prog 141 [(.a (Tup.cells ctConfig c))] r :=
  tcon_gen (sg := [(.a ctConfig)]) mixed (TOk.cons i_CutsOk_ok TOk.nil) i_StagesOf_st (by kernel_rfl) (by kernel_rfl) (by kernel_rfl) (by kernel_rfl) h
theorem i_StagesOf_h : i_StagesOf_C := by
  intro c
  refine tcon_bd rfl fun hb => i_StagesOf_t c _ (i_StagesOf_v0 _ c ?_)
  have hl_c_0 : (c.1).length ≤ 9223372036854775807 := hb.1.1.1
  have hl_c_1 : (c.2.1).length ≤ 9223372036854775807 := hb.1.2.1.1
  have hl_c_3 : (c.2.2.2.1).length ≤ 9223372036854775807 := hb.1.2.2.2.1.1
  have hl_c_4 : (c.2.2.2.2.1).length ≤ 9223372036854775807 := hb.1.2.2.2.2.1.1
  have hl_c_5 : (c.2.2.2.2.2).length ≤ 9223372036854775807 := hb.1.2.2.2.2.2.1.1
  grind [m_stagesOf]

theorem i_StagesOf_ok : TRowOk Try.prog i_StagesOf_row := rowOk fun x _ => i_StagesOf_h x.1

end
end Go.Proofs.Ytephkbajoofeoaa.Am
