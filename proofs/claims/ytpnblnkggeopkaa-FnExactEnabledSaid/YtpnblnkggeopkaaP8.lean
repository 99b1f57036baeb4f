/-
  Written by program: the code of functions, what it asks, and that it comes to what the models say.
-/
import Derived.Test.YtpnblnkggeopkaaP1
import Derived.Test.YtpnblnkggeopkaaP4
namespace Go.Proofs.Ytpnblnkggeopkaa.Am
open Go Go.RowKit Go.Proofs.Ytpnblnkggeopkaa
set_option linter.unusedVariables false
set_option linter.unusedSimpArgs false
noncomputable section

def i_modelOf_R (t : (List TOp')) : TRes := ⟨(.a [(.c (.sl ctOp) t)]), [], [], true⟩
def i_modelOf_row : TRow := mkRow 153 [(.a ctStage)] fun x => (none, i_modelOf_R (m_modelOf x.1))
def i_modelOf_C : Prop := ∀ (x0 : TStage), TCon Try.prog 153 [(.a (Tup.cells ctStage x0))] (i_modelOf_R (m_modelOf x0))

/-! impl.modelOf -/
def i_modelOf_G : List TRow := []
def i_modelOf_c : TCode :=
  (.seq (.reg [.op (some 1) (.box 100 (.s 0) 14),
    .op (some 2) (.new 66 [(.n ctOp)])])
 (.seq (.reg [.op (some 3) (.fad (.s 1) 2),
     .op (some 4) (.load (.s 3) 1 false),
     .op (some 5) (.build [(.n ctOp)] [(0, 1, (.s 4))]),
     .op none (.store (.s 2) (.s 5) 1)])
  .ret))
def i_modelOf_rs : List (ARv × Md) := [(.l 2 1 true, .b [.d])]
theorem i_modelOf_st : compF Try.prog 153 = some (i_modelOf_c.er, i_modelOf_rs.map Prod.fst, 6) := by kernel_rfl
def i_modelOf_Q (K : TRes → Prop) : TPost := TQ 0 i_modelOf_rs K
theorem i_modelOf_v0 (K : TRes → Prop) (s : TStage) (h :
  K (i_modelOf_R s.2.2.1)) : Hold (tawp i_modelOf_G 0 i_modelOf_c (TQ 0 i_modelOf_rs K) (tstart [(.a (Tup.cells ctStage s))])) :=
  Hold.of (by kernel_rfl) h
theorem i_modelOf_t (s : TStage) (r : TRes) (h : Hold (tawp i_modelOf_G 0 i_modelOf_c (TQ 0 i_modelOf_rs fun r' => r' = r) (tstart [(.a (Tup.cells ctStage s))]))) : TCon Try.prog 153 [(.a (Tup.cells ctStage s))] r :=
  tcon_gen (sg := [(.a ctStage)]) mixed TOk.nil i_modelOf_st (by kernel_rfl) (by kernel_rfl) (by kernel_rfl) h
theorem i_modelOf_h : i_modelOf_C := by
  intro s
  refine tcon_bd rfl fun hb => i_modelOf_t s _ (i_modelOf_v0 _ s ?_)
  have hl_s_1 : (s.2.1).length ≤ 9223372036854775807 := hb.1.2.1.1
  have hl_s_2 : (s.2.2.1).length ≤ 9223372036854775807 := hb.1.2.2.1.1
  have hl_s_5 : (s.2.2.2.2.2.1).length ≤ 9223372036854775807 := hb.1.2.2.2.2.2.1.1
  have hl_s_6 : (s.2.2.2.2.2.2.1).length ≤ 9223372036854775807 := hb.1.2.2.2.2.2.2.1.1
  have hl_s_7 : (s.2.2.2.2.2.2.2.1).length ≤ 9223372036854775807 := hb.1.2.2.2.2.2.2.2.1.1
  have hl_s_8 : (s.2.2.2.2.2.2.2.2.1).length ≤ 9223372036854775807 := hb.1.2.2.2.2.2.2.2.2.1.1
  have hl_s_9 : (s.2.2.2.2.2.2.2.2.2.1).length ≤ 9223372036854775807 := hb.1.2.2.2.2.2.2.2.2.2.1.1
  have hl_s_10 : (s.2.2.2.2.2.2.2.2.2.2.1).length ≤ 9223372036854775807 := hb.1.2.2.2.2.2.2.2.2.2.2.1.1
  have hl_s_11 : (s.2.2.2.2.2.2.2.2.2.2.2.1).length ≤ 9223372036854775807 := hb.1.2.2.2.2.2.2.2.2.2.2.2.1.1
  exact R_eq rfl

theorem i_modelOf_ok : TRowOk Try.prog i_modelOf_row := rowOk fun x _ => i_modelOf_h x.1

def i_gradsFit_R (t : Bool) : TRes := ⟨(.c .bool t), [], [], false⟩
def i_gradsFit_row : TRow := mkRow 154 [(.a [(.sl ctOp)]), (.c (.sl [(.sl [TI])]))] fun x => (none, i_gradsFit_R (m_gradsFit x.1 x.2.1))
def i_gradsFit_C : Prop := ∀ (x0 : List TOp') (x1 : List (List Int)), TCon Try.prog 154 [(.a [(.c (.sl ctOp) x0)]), (.c (.sl [(.sl [TI])]) x1)] (i_gradsFit_R (m_gradsFit x0 x1))

/-! impl.gradsFit -/
def i_gradsFit_G : List TRow := []
def i_gradsFit_b2 : TCode :=
  (.seq (.reg [.op (some 17) (.bin .lss (.s 16) (.s 15))])
 (.seq (.cond (.s 17) .skip (.exit 0))
  (.seq (.block 1 (.seq (.reg [.op (some 18) (.mov (.s 16)),
        .op (some 19) (.iad (.s 14) (.s 16) ctOp),
        .op (some 20) (.load (.s 19) 4 true),
        .op (some 6) (.new 165 [(.c TI (0 : Int)), (.c TI (0 : Int)), (.c TI (0 : Int)), (.n [TI])]),
        .op (some 5) (.mov (.s 18)),
        .op none (.store (.s 6) (.s 20) 4)])
     (.seq (.draw [.op (some 21) (.mov (.s 1)),
         .op (some 22) (.mov (.s 5)),
         .op (some 23) (.iad (.s 21) (.s 22) [(.sl [TI])]),
         .op (some 24) (.fad (.s 23) 0),
         .op (some 25) (.load (.s 24) 1 false),
         .op (some 26) (.len (.s 25)),
         .op (some 27) (.fad (.s 6) 3),
         .op (some 28) (.load (.s 27) 1 false),
         .op (some 29) (.len (.s 28)),
         .op (some 30) (.bin .neq (.s 26) (.s 29))] [])
      (.cond (.s 30) (.seq (.reg [.op (some 4) (.mov (.k (.c .bool false)))])
        .ret) .skip))))
   (.reg [.op (some 31) (.bin .add (.s 16) (.k (.c TI (1 : Int)))),
      .op (some 16) (.mov (.s 31))]))))
def i_gradsFit_L2 : List (Nat × Md) := [(1, .one .d), (14, .one .d), (15, .one .d), (16, .one .d)]
def i_gradsFit_y1 : TCode :=
  (.seq (.reg [.op (some 4) (.mov (.k (.c .bool true)))])
 .ret)
def i_gradsFit_c : TCode :=
  (.seq (.reg [.op (some 2) (.box 66 (.s 0) 1),
    .op (some 4) (.mov (.k (.c .bool false)))])
 (.seq (.seq (.reg [.op (some 7) (.mov (.s 1)),
      .op (some 8) (.len (.s 7)),
      .op (some 9) (.fad (.s 2) 0),
      .op (some 10) (.load (.s 9) 1 false),
      .op (some 11) (.len (.s 10)),
      .op (some 12) (.bin .neq (.s 8) (.s 11))])
   (.cond (.s 12) (.seq (.reg [.op (some 4) (.mov (.k (.c .bool false)))])
     .ret) .skip))
  (.seq (.seq (.reg [.op (some 13) (.fad (.s 2) 0),
       .op (some 14) (.load (.s 13) 1 false),
       .op (some 15) (.len (.s 14)),
       .op (some 16) (.mov (.k (.c TI (0 : Int))))])
    (.block 0 (.loop i_gradsFit_L2 i_gradsFit_b2)))
   i_gradsFit_y1)))
def i_gradsFit_rs : List (ARv × Md) := [(.t 4, .one .d)]
theorem i_gradsFit_st : compF Try.prog 154 = some (i_gradsFit_c.er, i_gradsFit_rs.map Prod.fst, 32) := by kernel_rfl
def i_gradsFit_Q (K : TRes → Prop) : TPost := TQ 0 i_gradsFit_rs K
def i_gradsFit_q1 (K : TRes → Prop) : TPost := Qseq (tawp i_gradsFit_G 0 i_gradsFit_y1 (i_gradsFit_Q K)) (i_gradsFit_Q K)
def i_gradsFit_q2 (K : TRes → Prop) : TPost := Qblk 0 (i_gradsFit_q1 K)
def i_gradsFit_A2 (K : TRes → Prop) (m : List TOp') (rows : List (List Int)) (x : Int) : Prop := Loop i_gradsFit_G 0 i_gradsFit_L2 i_gradsFit_b2 (i_gradsFit_q2 K) ⟨[(1, (.c (.sl [(.sl [TI])]) rows)), (14, (.c (.sl ctOp) m)), (15, (.c TI (m.length : Int))), (16, (.c TI x))], [], 0⟩
theorem i_gradsFit_v2 (K : TRes → Prop) (m : List TOp') (rows : List (List Int)) (x : Int) (h :
  (((decide (x < (m.length : Int))) = true → (((0 : Int) ≤ x ∧ Int.toNat x < m.length) ∧ (((0 : Int) ≤ x ∧ Int.toNat x < rows.length) ∧ (((((gtd ([] : List Int) rows (Int.toNat x)).length : Int) != (((gtd dOp m (Int.toNat x)).2.2.2).length : Int)) = true → K (i_gradsFit_R false)) ∧ ((((gtd ([] : List Int) rows (Int.toNat x)).length : Int) != (((gtd dOp m (Int.toNat x)).2.2.2).length : Int)) = false → (i_gradsFit_A2 K m rows (w64 (x + (1 : Int))))))))) ∧ ((decide (x < (m.length : Int))) = false → K (i_gradsFit_R true)))) : i_gradsFit_A2 K m rows x :=
  Loop.of (by kernel_rfl) h
theorem i_gradsFit_v0 (K : TRes → Prop) (m : List TOp') (rows : List (List Int)) (h :
  ((((rows.length : Int) != (m.length : Int)) = true → K (i_gradsFit_R false)) ∧ (((rows.length : Int) != (m.length : Int)) = false → (i_gradsFit_A2 K m rows (0 : Int))))) : Hold (tawp i_gradsFit_G 0 i_gradsFit_c (TQ 0 i_gradsFit_rs K) (tstart [(.a [(.c (.sl ctOp) m)]), (.c (.sl [(.sl [TI])]) rows)])) :=
  Hold.of (by kernel_rfl) h
theorem i_gradsFit_t (m : List TOp') (rows : List (List Int)) (r : TRes) (h : Hold (tawp i_gradsFit_G 0 i_gradsFit_c (TQ 0 i_gradsFit_rs fun r' => r' = r) (tstart [(.a [(.c (.sl ctOp) m)]), (.c (.sl [(.sl [TI])]) rows)]))) : TCon Try.prog 154 [(.a [(.c (.sl ctOp) m)]), (.c (.sl [(.sl [TI])]) rows)] r :=
  tcon_gen (sg := [(.a [(.sl ctOp)]), (.c (.sl [(.sl [TI])]))]) mixed TOk.nil i_gradsFit_st (by kernel_rfl) (by kernel_rfl) (by kernel_rfl) h
theorem i_gradsFit_h : i_gradsFit_C := by
  intro m rows
  refine tcon_bd rfl fun hb => i_gradsFit_t m rows _ (i_gradsFit_v0 _ m rows ?_)
  have hl_m_0 : (m).length ≤ 9223372036854775807 := hb.1.1.1
  have hl_rows : rows.length ≤ 9223372036854775807 := hb.2.1.1
  refine ⟨fun h => R_eq (by grind [m_gradsFit]), fun h => ?_⟩
  have hl : rows.length = m.length := by
    have : ((rows.length : Int) == (m.length : Int)) = true := by simpa [bne] using h
    have := of_decide_eq_true (by simpa using this : decide ((rows.length : Int) = m.length) = true)
    omega
  refine listLoop m (fun r k => gradsGo r (rows.drop k) = gradsGo m rows → i_gradsFit_A2 (fun r' => r' = i_gradsFit_R (m_gradsFit m rows)) m rows k) ?_ ?_ rfl
  · intro he
    refine i_gradsFit_v2 (fun r' => r' = i_gradsFit_R (m_gradsFit m rows)) m rows _ ⟨fun h => by simp at h, fun _ => R_eq ?_⟩
    grind [m_gradsFit, gradsGo]
  · intro k x r hk hlt hg ih he
    obtain ⟨y, q, hq⟩ : ∃ y q, rows.drop k = y :: q := by
      cases hq : rows.drop k with
      | nil => have := congrArg List.length hq; simp at this; omega
      | cons y q => exact ⟨y, q, rfl⟩
    refine i_gradsFit_v2 (fun r' => r' = i_gradsFit_R (m_gradsFit m rows)) m rows _ ⟨fun _ => ?_, fun h => by simp at h; omega⟩
    rw [Int.toNat_natCast, hg, gtd_drop hq, w64_ok (x := (k : Int) + 1) (by omega) (by omega)]
    rw [hq, gradsGo] at he
    rw [drop_succ hq] at ih
    refine ⟨⟨by omega, hlt⟩, ⟨by omega, by omega⟩, fun h => R_eq ?_, fun h => ih ?_⟩
    · grind [m_gradsFit]
    · grind

theorem i_gradsFit_ok : TRowOk Try.prog i_gradsFit_row := rowOk fun x _ => i_gradsFit_h x.1 x.2.1

def i_goesIn_R (t : Bool) : TRes := ⟨(.c .bool t), [], [], false⟩
def i_goesIn_row : TRow := mkRow 155 [(.c (.sl ctOp)), (.c (.sl [(.sl [TI])])), (.c TI)] fun x => (some (p_goesIn x.1 x.2.1 x.2.2.1), i_goesIn_R (m_goesIn x.1 x.2.1 x.2.2.1))
def i_goesIn_C : Prop := ∀ (x0 : List TOp') (x1 : List (List Int)) (x2 : Int), (p_goesIn x0 x1 x2) → TCon Try.prog 155 [(.c (.sl ctOp) x0), (.c (.sl [(.sl [TI])]) x1), (.c TI x2)] (i_goesIn_R (m_goesIn x0 x1 x2))

/-! impl.goesIn -/
def i_goesIn_G : List TRow := [i_vecOf_row]
def i_goesIn_y4 : TCode :=
  (.seq (.reg [.op (some 30) (.mov (.s 1)),
    .op (some 31) (.mov (.s 7)),
    .op (some 32) (.iad (.s 30) (.s 31) [(.sl [TI])]),
    .op (some 33) (.fad (.s 32) 0),
    .op (some 34) (.load (.s 33) 1 false),
    .op (some 35) (.mov (.s 8)),
    .op (some 36) (.call 191 [(.s 34), (.s 35)]),
    .op (some 37) (.not (.s 36))])
 (.cond (.s 37) (.seq (.reg [.op (some 6) (.mov (.k (.c .bool false)))])
   .ret) .skip))
def i_goesIn_L4 : List (Nat × Md) := [(0, .one .d), (1, .one .d), (2, .one .d), (7, .one .d), (8, .one .d)]
def i_goesIn_y4w : TCode := .wk i_goesIn_L4 i_goesIn_y4
def i_goesIn_y3 : TCode :=
  (.reg [.op (some 12) (.mov (.s 7)),
   .op (some 13) (.bin .add (.s 12) (.k (.c TI (1 : Int)))),
   .op (some 7) (.mov (.s 13))])
def i_goesIn_b2 : TCode :=
  (.seq (.seq (.reg [.op (some 9) (.mov (.s 7)),
     .op (some 10) (.mov (.s 2)),
     .op (some 11) (.bin .lss (.s 9) (.s 10))])
  (.cond (.s 11) .skip (.exit 0)))
 (.seq (.block 1 (.seq (.reg [.op (some 14) (.mov (.s 0)),
       .op (some 15) (.mov (.s 0)),
       .op (some 16) (.len (.s 15)),
       .op (some 17) (.bin .sub (.s 16) (.k (.c TI (1 : Int)))),
       .op (some 18) (.iad (.s 14) (.s 17) ctOp),
       .op (some 19) (.fad (.s 18) 2),
       .op (some 20) (.load (.s 19) 1 false),
       .op (some 8) (.mov (.s 20))])
    (.seq (.seq (.reg [.op (some 21) (.mov (.s 7)),
         .op (some 22) (.mov (.s 0)),
         .op (some 23) (.len (.s 22)),
         .op (some 24) (.bin .lss (.s 21) (.s 23))])
      (.cond (.s 24) (.reg [.op (some 25) (.mov (.s 0)),
          .op (some 26) (.mov (.s 7)),
          .op (some 27) (.iad (.s 25) (.s 26) ctOp),
          .op (some 28) (.fad (.s 27) 1),
          .op (some 29) (.load (.s 28) 1 false),
          .op (some 8) (.mov (.s 29))]) .skip))
     i_goesIn_y4w)))
  i_goesIn_y3))
def i_goesIn_L2 : List (Nat × Md) := [(0, .one .d), (1, .one .d), (2, .one .d), (7, .one .d)]
def i_goesIn_y1 : TCode :=
  (.seq (.reg [.op (some 6) (.mov (.k (.c .bool true)))])
 .ret)
def i_goesIn_c : TCode :=
  (.seq (.reg [.op (some 6) (.mov (.k (.c .bool false)))])
 (.seq (.seq (.reg [.op (some 7) (.mov (.k (.c TI (0 : Int))))])
   (.block 0 (.loop i_goesIn_L2 i_goesIn_b2)))
  i_goesIn_y1))
def i_goesIn_rs : List (ARv × Md) := [(.t 6, .one .d)]
theorem i_goesIn_st : compF Try.prog 155 = some (i_goesIn_c.er, i_goesIn_rs.map Prod.fst, 38) := by kernel_rfl
def i_goesIn_Q (K : TRes → Prop) : TPost := TQ 0 i_goesIn_rs K
def i_goesIn_q1 (K : TRes → Prop) : TPost := Qseq (tawp i_goesIn_G 0 i_goesIn_y1 (i_goesIn_Q K)) (i_goesIn_Q K)
def i_goesIn_q2 (K : TRes → Prop) : TPost := Qblk 0 (i_goesIn_q1 K)
def i_goesIn_q3 (K : TRes → Prop) : TPost := Qseq (fun s' => Loop i_goesIn_G 0 i_goesIn_L2 i_goesIn_b2 (i_goesIn_q2 K) (gc 0 i_goesIn_L2 s')) (i_goesIn_q2 K)
def i_goesIn_q4 (K : TRes → Prop) : TPost := Qseq (tawp i_goesIn_G 0 i_goesIn_y3 (i_goesIn_q3 K)) (i_goesIn_q3 K)
def i_goesIn_q5 (K : TRes → Prop) : TPost := Qblk 1 (i_goesIn_q4 K)
def i_goesIn_A4 (K : TRes → Prop) (ops : List TOp') (rows : List (List Int)) (n : Int) (size : Int) (i : Int) : Prop := tawp i_goesIn_G 0 i_goesIn_y4 (i_goesIn_q5 K) ⟨[(0, (.c (.sl ctOp) ops)), (1, (.c (.sl [(.sl [TI])]) rows)), (2, (.c TI n)), (7, (.c TI i)), (8, (.c TI size))], [], 0⟩
def i_goesIn_A2 (K : TRes → Prop) (ops : List TOp') (rows : List (List Int)) (n : Int) (i : Int) : Prop := Loop i_goesIn_G 0 i_goesIn_L2 i_goesIn_b2 (i_goesIn_q2 K) ⟨[(0, (.c (.sl ctOp) ops)), (1, (.c (.sl [(.sl [TI])]) rows)), (2, (.c TI n)), (7, (.c TI i))], [], 0⟩
theorem i_goesIn_v4 (K : TRes → Prop) (ops : List TOp') (rows : List (List Int)) (n : Int) (size : Int) (i : Int) (h :
  (((0 : Int) ≤ i ∧ Int.toNat i < rows.length) ∧ (((!(m_vecOf (gtd ([] : List Int) rows (Int.toNat i)) size)) = true → K (i_goesIn_R false)) ∧ ((!(m_vecOf (gtd ([] : List Int) rows (Int.toNat i)) size)) = false → (i_goesIn_A2 K ops rows n (w64 (i + (1 : Int)))))))) : Hold (i_goesIn_A4 K ops rows n size i) :=
  Hold.of (by kernel_rfl) h
theorem i_goesIn_v2 (K : TRes → Prop) (ops : List TOp') (rows : List (List Int)) (n : Int) (i : Int) (h :
  (((decide (i < n)) = true → (((0 : Int) ≤ w64 ((ops.length : Int) - (1 : Int)) ∧ Int.toNat (w64 ((ops.length : Int) - (1 : Int))) < ops.length) ∧ (((decide (i < (ops.length : Int))) = true → (((0 : Int) ≤ i ∧ Int.toNat i < ops.length) ∧ (i_goesIn_A4 K ops rows n ((gtd dOp ops (Int.toNat i)).2.1) i))) ∧ ((decide (i < (ops.length : Int))) = false → (i_goesIn_A4 K ops rows n ((gtd dOp ops (Int.toNat (w64 ((ops.length : Int) - (1 : Int))))).2.2.1) i))))) ∧ ((decide (i < n)) = false → K (i_goesIn_R true)))) : i_goesIn_A2 K ops rows n i :=
  Loop.of (by kernel_rfl) h
theorem i_goesIn_v0 (K : TRes → Prop) (ops : List TOp') (rows : List (List Int)) (n : Int) (h :
  (i_goesIn_A2 K ops rows n (0 : Int))) : Hold (tawp i_goesIn_G 0 i_goesIn_c (TQ 0 i_goesIn_rs K) (tstart [(.c (.sl ctOp) ops), (.c (.sl [(.sl [TI])]) rows), (.c TI n)])) :=
  Hold.of (by kernel_rfl) h
theorem i_goesIn_t (ops : List TOp') (rows : List (List Int)) (n : Int) (r : TRes) (h : Hold (tawp i_goesIn_G 0 i_goesIn_c (TQ 0 i_goesIn_rs fun r' => r' = r) (tstart [(.c (.sl ctOp) ops), (.c (.sl [(.sl [TI])]) rows), (.c TI n)]))) : TCon Try.prog 155 [(.c (.sl ctOp) ops), (.c (.sl [(.sl [TI])]) rows), (.c TI n)] r :=
  tcon_gen (sg := [(.c (.sl ctOp)), (.c (.sl [(.sl [TI])])), (.c TI)]) mixed (TOk.cons i_vecOf_ok TOk.nil) i_goesIn_st (by kernel_rfl) (by kernel_rfl) (by kernel_rfl) h
theorem i_goesIn_h : i_goesIn_C := by
  intro ops rows n hp
  refine tcon_bd rfl fun hb => i_goesIn_t ops rows n _ (i_goesIn_v0 _ ops rows n ?_)
  have hl_ops : ops.length ≤ 9223372036854775807 := hb.1.1
  have hl_rows : rows.length ≤ 9223372036854775807 := hb.2.1.1
  have := sliceLoop rows 0 n (Int.le_refl 0) hp.2.1 hp.2.2 (fun r k => goesGo ops k r = (m_goesIn ops rows n) → i_goesIn_A2 (fun r' => r' = i_goesIn_R (m_goesIn ops rows n)) ops rows n k) ?_ ?_ (by simp [m_goesIn, slice])
  · exact this
  · intro he
    refine i_goesIn_v2 (fun r' => r' = i_goesIn_R (m_goesIn ops rows n)) ops rows n _ ⟨fun h => by simp at h; omega, fun _ => R_eq ?_⟩
    simpa [goesGo] using he
  · intro k x r h1 h2 hlt hg ih he
    have e := tn_sub1 hp.1 hl_ops
    have key : i_goesIn_A4 (fun r' => r' = i_goesIn_R (m_goesIn ops rows n)) ops rows n (sizeAt ops k) k := by
      refine (i_goesIn_v4 (fun r' => r' = i_goesIn_R (m_goesIn ops rows n)) ops rows n _ _ ?_).h
      rw [Int.toNat_natCast, hg, w64_ok (x := (k : Int) + 1) (by omega) (by omega)]
      rw [goesGo] at he
      refine ⟨⟨by omega, hlt⟩, fun h => R_eq ?_, fun h => ih ?_⟩ <;> grind
    refine i_goesIn_v2 (fun r' => r' = i_goesIn_R (m_goesIn ops rows n)) ops rows n _ ⟨fun _ => ?_, fun h => by simp at h; omega⟩
    rw [e.1, Int.toNat_natCast]
    refine ⟨⟨e.2, by have := hp.1; omega⟩, fun h => ⟨⟨by omega, by simpa using h⟩, ?_⟩, fun h => ?_⟩
    · rw [sizeAt, if_pos (by simpa using h)] at key; exact key
    · rw [sizeAt, if_neg (by simpa using h)] at key; exact key

theorem i_goesIn_ok : TRowOk Try.prog i_goesIn_row := rowOk fun x h => i_goesIn_h x.1 x.2.1 x.2.2.1 h

def i_StageOk_R (t : Bool) : TRes := ⟨(.c .bool t), [], [], false⟩
def i_StageOk_row : TRow := mkRow 86 [(.a ctStage)] fun x => (none, i_StageOk_R (m_stageOk x.1))
def i_StageOk_C : Prop := ∀ (x0 : TStage), TCon Try.prog 86 [(.a (Tup.cells ctStage x0))] (i_StageOk_R (m_stageOk x0))

/-! impl.StageOk -/
def i_StageOk_G : List TRow := [i_modelOf_row, i_ModelOk_row, i_gradsFit_row, i_goesIn_row, i_InOf_row, i_OutOf_row, i_emptyOr_row]
def i_StageOk_b3 : TCode :=
  (.seq (.reg [.op (some 45) (.bin .lss (.s 44) (.s 43))])
 (.seq (.cond (.s 45) .skip (.exit 0))
  (.seq (.block 1 (.seq (.reg [.op (some 46) (.iad (.s 42) (.s 44) ctSaved),
        .op (some 47) (.load (.s 46) 2 true),
        .op (some 6) (.new 140 [(.c TI (0 : Int)), (.n [(.sl [TI])])]),
        .op none (.store (.s 6) (.s 47) 2)])
     (.seq (.reg [.op (some 48) (.fad (.s 6) 1),
         .op (some 49) (.load (.s 48) 1 false),
         .op (some 50) (.len (.s 49)),
         .op (some 51) (.mov (.s 4)),
         .op (some 52) (.bin .neq (.s 50) (.s 51)),
         .op (some 53) (.mov (.s 52)),
         .grp 53 false [.op (some 54) (.fad (.s 1) 2), .op (some 55) (.load (.s 54) 1 false), .op (some 56) (.fad (.s 6) 1), .op (some 57) (.load (.s 56) 1 false), .op (some 58) (.mov (.s 4)), .op (some 59) (.call 155 [(.s 55), (.s 57), (.s 58)]), .op (some 60) (.not (.s 59))] 61 (.s 60)])
      (.cond (.s 61) (.seq (.reg [.op (some 2) (.mov (.k (.c .bool false)))])
        .ret) .skip))))
   (.reg [.op (some 62) (.bin .add (.s 44) (.k (.c TI (1 : Int)))),
      .op (some 44) (.mov (.s 62))]))))
def i_StageOk_L3 : List (Nat × Md) := [(1, .b [.d, .d, .d, .d, .d, .d, .d, .d, .d, .d, .d, .d, .d, .d]), (3, .b [.d]), (4, .one .d), (42, .one .d), (43, .one .d), (44, .one .d)]
def i_StageOk_y2 : TCode :=
  (.seq (.draw [.op (some 63) (.load (.s 3) 1 true),
    .op (some 64) (.call 156 [(.s 63)]),
    .op (some 65) (.load (.s 3) 1 true),
    .op (some 66) (.call 157 [(.s 65)]),
    .op (some 7) (.mov (.s 64)),
    .op (some 8) (.mov (.s 66))] [(1, 2)])
 (.seq (.reg [.op (some 67) (.fad (.s 1) 7),
     .op (some 68) (.load (.s 67) 1 false),
     .op (some 69) (.mov (.s 7)),
     .op (some 70) (.call 158 [(.s 68), (.s 69)]),
     .op (some 71) (.mov (.s 70)),
     .grp 71 true [.op (some 72) (.fad (.s 1) 10), .op (some 73) (.load (.s 72) 1 false), .op (some 74) (.mov (.s 7)), .op (some 75) (.call 158 [(.s 73), (.s 74)])] 76 (.s 75),
     .op (some 77) (.mov (.s 76)),
     .grp 77 true [.op (some 78) (.fad (.s 1) 8), .op (some 79) (.load (.s 78) 1 false), .op (some 80) (.mov (.s 8)), .op (some 81) (.call 158 [(.s 79), (.s 80)])] 82 (.s 81),
     .op (some 83) (.mov (.s 82)),
     .grp 83 true [.op (some 84) (.fad (.s 1) 9), .op (some 85) (.load (.s 84) 1 false), .op (some 86) (.mov (.s 8)), .op (some 87) (.call 158 [(.s 85), (.s 86)])] 88 (.s 87),
     .op (some 2) (.mov (.s 88))])
  .ret))
def i_StageOk_y1 : TCode :=
  (.seq (.seq (.reg [.op (some 41) (.fad (.s 1) 5),
     .op (some 42) (.load (.s 41) 1 false),
     .op (some 43) (.len (.s 42)),
     .op (some 44) (.mov (.k (.c TI (0 : Int))))])
  (.block 0 (.loop i_StageOk_L3 i_StageOk_b3)))
 i_StageOk_y2)
def i_StageOk_L1 : List (Nat × Md) := [(1, .b [.d, .d, .d, .d, .d, .d, .d, .d, .d, .d, .d, .d, .d, .d]), (3, .b [.d]), (4, .one .d)]
def i_StageOk_y1w : TCode := .wk i_StageOk_L1 i_StageOk_y1
def i_StageOk_c : TCode :=
  (.seq (.reg [.op (some 1) (.box 100 (.s 0) 14),
    .op (some 2) (.mov (.k (.c .bool false)))])
 (.seq (.reg [.op (some 9) (.load (.s 1) 14 true),
     .op (some 10) (.call 153 [(.s 9)]),
     .op (some 3) (.new 66 [(.n ctOp)]),
     .op none (.store (.s 3) (.s 10) 1)])
  (.seq (.seq (.reg [.op (some 11) (.load (.s 3) 1 true),
       .op (some 12) (.call 134 [(.s 11)]),
       .op (some 13) (.not (.s 12)),
       .op (some 14) (.mov (.s 13)),
       .grp 14 false [.op (some 15) (.fad (.s 1) 0), .op (some 16) (.load (.s 15) 1 false), .op (some 17) (.bin .lss (.s 16) (.k (.c TI (0 : Int))))] 18 (.s 17),
       .op (some 19) (.mov (.s 18)),
       .grp 19 false [.op (some 20) (.fad (.s 1) 0), .op (some 21) (.load (.s 20) 1 false), .op (some 22) (.fad (.s 1) 1), .op (some 23) (.load (.s 22) 1 false), .op (some 24) (.len (.s 23)), .op (some 25) (.bin .gtr (.s 21) (.s 24))] 26 (.s 25),
       .op (some 27) (.mov (.s 26)),
       .grp 27 false [.op (some 28) (.load (.s 3) 1 true), .op (some 29) (.fad (.s 1) 11), .op (some 30) (.fad (.s 29) 0), .op (some 31) (.load (.s 30) 1 false), .op (some 32) (.call 154 [(.s 28), (.s 31)]), .op (some 33) (.not (.s 32))] 34 (.s 33)])
    (.cond (.s 34) (.seq (.reg [.op (some 2) (.mov (.k (.c .bool false)))])
      .ret) .skip))
   (.seq (.reg [.op (some 35) (.fad (.s 1) 2),
       .op (some 36) (.load (.s 35) 1 false),
       .op (some 37) (.len (.s 36)),
       .op (some 38) (.bin .add (.s 37) (.k (.c TI (1 : Int)))),
       .op (some 4) (.mov (.s 38))])
    (.seq (.seq (.reg [.op (some 39) (.fad (.s 1) 4),
         .op (some 40) (.load (.s 39) 1 false)])
      (.cond (.s 40) (.reg [.op (some 4) (.mov (.k (.c TI (1 : Int))))]) .skip))
     i_StageOk_y1w)))))
def i_StageOk_rs : List (ARv × Md) := [(.t 2, .one .d)]
theorem i_StageOk_st : compF Try.prog 86 = some (i_StageOk_c.er, i_StageOk_rs.map Prod.fst, 89) := by kernel_rfl
def i_StageOk_Q (K : TRes → Prop) : TPost := TQ 0 i_StageOk_rs K
def i_StageOk_q1 (K : TRes → Prop) : TPost := Qseq (tawp i_StageOk_G 0 i_StageOk_y2 (i_StageOk_Q K)) (i_StageOk_Q K)
def i_StageOk_q2 (K : TRes → Prop) : TPost := Qblk 0 (i_StageOk_q1 K)
def i_StageOk_A3 (K : TRes → Prop) (s : TStage) (kept : Int) (x : Int) : Prop := Loop i_StageOk_G 0 i_StageOk_L3 i_StageOk_b3 (i_StageOk_q2 K) ⟨[(1, (.p 0 0 0)), (3, (.p 1 0 0)), (4, (.c TI kept)), (42, (.c (.sl ctSaved) s.2.2.2.2.2.1)), (43, (.c TI ((s.2.2.2.2.2.1).length : Int))), (44, (.c TI x))], [(0, (.box [(.c TI s.1), (.c (.sl ctIns) s.2.1), (.c (.sl ctOp) s.2.2.1), (.c .bool s.2.2.2.1), (.c .bool s.2.2.2.2.1), (.c (.sl ctSaved) s.2.2.2.2.2.1), (.c (.sl [(.sl [TI])]) s.2.2.2.2.2.2.1), (.c (.sl [TI]) s.2.2.2.2.2.2.2.1), (.c (.sl [TI]) s.2.2.2.2.2.2.2.2.1), (.c (.sl [TI]) s.2.2.2.2.2.2.2.2.2.1), (.c (.sl [TI]) s.2.2.2.2.2.2.2.2.2.2.1), (.c (.sl [(.sl [TI])]) s.2.2.2.2.2.2.2.2.2.2.2.1), (.c TI s.2.2.2.2.2.2.2.2.2.2.2.2.1), (.c .bool s.2.2.2.2.2.2.2.2.2.2.2.2.2)])), (1, (.box [(.c (.sl ctOp) (m_modelOf s))]))], 2⟩
def i_StageOk_A1 (K : TRes → Prop) (s : TStage) (kept : Int) : Prop := tawp i_StageOk_G 0 i_StageOk_y1 (i_StageOk_Q K) ⟨[(1, (.p 0 0 0)), (3, (.p 1 0 0)), (4, (.c TI kept))], [(0, (.box [(.c TI s.1), (.c (.sl ctIns) s.2.1), (.c (.sl ctOp) s.2.2.1), (.c .bool s.2.2.2.1), (.c .bool s.2.2.2.2.1), (.c (.sl ctSaved) s.2.2.2.2.2.1), (.c (.sl [(.sl [TI])]) s.2.2.2.2.2.2.1), (.c (.sl [TI]) s.2.2.2.2.2.2.2.1), (.c (.sl [TI]) s.2.2.2.2.2.2.2.2.1), (.c (.sl [TI]) s.2.2.2.2.2.2.2.2.2.1), (.c (.sl [TI]) s.2.2.2.2.2.2.2.2.2.2.1), (.c (.sl [(.sl [TI])]) s.2.2.2.2.2.2.2.2.2.2.2.1), (.c TI s.2.2.2.2.2.2.2.2.2.2.2.2.1), (.c .bool s.2.2.2.2.2.2.2.2.2.2.2.2.2)])), (1, (.box [(.c (.sl ctOp) (m_modelOf s))]))], 2⟩
theorem i_StageOk_v3 (K : TRes → Prop) (s : TStage) (kept : Int) (x : Int) (h :
  (((decide (x < ((s.2.2.2.2.2.1).length : Int))) = true → (((0 : Int) ≤ x ∧ Int.toNat x < (s.2.2.2.2.2.1).length) ∧ (((!((((gtd dSaved s.2.2.2.2.2.1 (Int.toNat x)).2).length : Int) != kept)) = true → (p_goesIn s.2.2.1 ((gtd dSaved s.2.2.2.2.2.1 (Int.toNat x)).2) kept)) ∧ (((((((gtd dSaved s.2.2.2.2.2.1 (Int.toNat x)).2).length : Int) != kept) || (!(m_goesIn s.2.2.1 ((gtd dSaved s.2.2.2.2.2.1 (Int.toNat x)).2) kept))) = true → K (i_StageOk_R false)) ∧ ((((((gtd dSaved s.2.2.2.2.2.1 (Int.toNat x)).2).length : Int) != kept) || (!(m_goesIn s.2.2.1 ((gtd dSaved s.2.2.2.2.2.1 (Int.toNat x)).2) kept))) = false → (i_StageOk_A3 K s kept (w64 (x + (1 : Int))))))))) ∧ ((decide (x < ((s.2.2.2.2.2.1).length : Int))) = false → K (i_StageOk_R ((((m_hand s.2.2.2.2.2.2.2.1 (m_inOf (m_modelOf s))) && (m_hand s.2.2.2.2.2.2.2.2.2.2.1 (m_inOf (m_modelOf s)))) && (m_hand s.2.2.2.2.2.2.2.2.1 (m_outOf (m_modelOf s)))) && (m_hand s.2.2.2.2.2.2.2.2.2.1 (m_outOf (m_modelOf s)))))))) : i_StageOk_A3 K s kept x :=
  Loop.of (by kernel_rfl) h
theorem i_StageOk_v1 (K : TRes → Prop) (s : TStage) (kept : Int) (h :
  (i_StageOk_A3 K s kept (0 : Int))) : Hold (i_StageOk_A1 K s kept) :=
  Hold.of (by kernel_rfl) h
theorem i_StageOk_v0 (K : TRes → Prop) (s : TStage) (h :
  ((((((!(m_modelOk (m_modelOf s))) || (decide (s.1 < (0 : Int)))) || (decide (s.1 > ((s.2.1).length : Int)))) || (!(m_gradsFit (m_modelOf s) s.2.2.2.2.2.2.2.2.2.2.2.1))) = true → K (i_StageOk_R false)) ∧ (((((!(m_modelOk (m_modelOf s))) || (decide (s.1 < (0 : Int)))) || (decide (s.1 > ((s.2.1).length : Int)))) || (!(m_gradsFit (m_modelOf s) s.2.2.2.2.2.2.2.2.2.2.2.1))) = false → ((s.2.2.2.2.1 = true → (i_StageOk_A1 K s (1 : Int))) ∧ (s.2.2.2.2.1 = false → (i_StageOk_A1 K s (w64 (((s.2.2.1).length : Int) + (1 : Int))))))))) : Hold (tawp i_StageOk_G 0 i_StageOk_c (TQ 0 i_StageOk_rs K) (tstart [(.a (Tup.cells ctStage s))])) :=
  Hold.of (by kernel_rfl) h
theorem i_StageOk_t (s : TStage) (r : TRes) (h : Hold (tawp i_StageOk_G 0 i_StageOk_c (TQ 0 i_StageOk_rs fun r' => r' = r) (tstart [(.a (Tup.cells ctStage s))]))) : TCon Try.prog 86 [(.a (Tup.cells ctStage s))] r :=
  tcon_gen (sg := [(.a ctStage)]) mixed (TOk.cons i_modelOf_ok (TOk.cons i_ModelOk_ok (TOk.cons i_gradsFit_ok (TOk.cons i_goesIn_ok (TOk.cons i_InOf_ok (TOk.cons i_OutOf_ok (TOk.cons i_emptyOr_ok TOk.nil))))))) i_StageOk_st (by kernel_rfl) (by kernel_rfl) (by kernel_rfl) h
theorem i_StageOk_h : i_StageOk_C := by
  intro s
  refine tcon_bd rfl fun hb => i_StageOk_t s _ (i_StageOk_v0 _ s ?_)
  have hl_s_1 : (s.2.1).length ≤ 9223372036854775807 := hb.1.2.1.1
  have hl_s_2 : (s.2.2.1).length ≤ 9223372036854775807 := hb.1.2.2.1.1
  have hl_s_5 : (s.2.2.2.2.2.1).length ≤ 9223372036854775807 := hb.1.2.2.2.2.2.1.1
  have hl_s_6 : (s.2.2.2.2.2.2.1).length ≤ 9223372036854775807 := hb.1.2.2.2.2.2.2.1.1
  have hl_s_7 : (s.2.2.2.2.2.2.2.1).length ≤ 9223372036854775807 := hb.1.2.2.2.2.2.2.2.1.1
  have hl_s_8 : (s.2.2.2.2.2.2.2.2.1).length ≤ 9223372036854775807 := hb.1.2.2.2.2.2.2.2.2.1.1
  have hl_s_9 : (s.2.2.2.2.2.2.2.2.2.1).length ≤ 9223372036854775807 := hb.1.2.2.2.2.2.2.2.2.2.1.1
  have hl_s_10 : (s.2.2.2.2.2.2.2.2.2.2.1).length ≤ 9223372036854775807 := hb.1.2.2.2.2.2.2.2.2.2.2.1.1
  have hl_s_11 : (s.2.2.2.2.2.2.2.2.2.2.2.1).length ≤ 9223372036854775807 := hb.1.2.2.2.2.2.2.2.2.2.2.2.1.1
  refine ⟨fun h => R_eq (by grind [m_stageOk, m_in]), fun h => ?_⟩
  have h0 : m_modelOk s.2.2.1 = true ∧ m_in s.1 0 s.2.1.length = true ∧ m_gradsFit s.2.2.1 s.2.2.2.2.2.2.2.2.2.2.2.1 = true := by grind [m_in]
  have hm := mod_len h0.1
  have hk : 1 ≤ m_kept s ∧ m_kept s ≤ 9 := by unfold m_kept; split <;> omega
  have key : i_StageOk_A3 (fun r' => r' = i_StageOk_R (m_stageOk s)) s (m_kept s) ((0 : Nat) : Int) := by
    refine listLoop s.2.2.2.2.2.1 (fun r k => r.all (m_savedOk s) = s.2.2.2.2.2.1.all (m_savedOk s) → i_StageOk_A3 (fun r' => r' = i_StageOk_R (m_stageOk s)) s (m_kept s) k) ?_ ?_ rfl
    · intro he
      refine i_StageOk_v3 (fun r' => r' = i_StageOk_R (m_stageOk s)) s _ _ ⟨fun h => by simp at h, fun _ => R_eq ?_⟩
      grind [m_stageOk]
    · intro k x r hk2 hlt hg ih he
      refine i_StageOk_v3 (fun r' => r' = i_StageOk_R (m_stageOk s)) s _ _ ⟨fun _ => ?_, fun h => by simp at h; omega⟩
      rw [Int.toNat_natCast, hg, w64_ok (x := (k : Int) + 1) (by omega) (by omega)]
      refine ⟨⟨by omega, hlt⟩, fun h => ?_, fun h => R_eq ?_, fun h => ih ?_⟩
      · have : (x.2.length : Int) = m_kept s := by simpa using h
        exact ⟨hm.1, by omega, by omega⟩
      · grind [m_stageOk, m_savedOk]
      · grind [m_savedOk]
  refine ⟨fun h1 => ?_, fun h1 => ?_⟩
  · have e : m_kept s = 1 := by simp [m_kept, h1]
    rw [e] at key
    exact (i_StageOk_v1 (fun r' => r' = i_StageOk_R (m_stageOk s)) s _ key).h
  · have e : m_kept s = s.2.2.1.length + 1 := by simp [m_kept, h1]
    rw [w64_ok (x := (s.2.2.1.length : Int) + 1) (by omega) (by omega)]
    rw [e] at key
    exact (i_StageOk_v1 (fun r' => r' = i_StageOk_R (m_stageOk s)) s _ key).h

theorem i_StageOk_ok : TRowOk Try.prog i_StageOk_row := rowOk fun x _ => i_StageOk_h x.1

def s_StageOk_R (t : Bool) : TRes := ⟨(.c .bool t), [], [], false⟩
def s_StageOk_row : TRow := mkRow 85 [(.a ctStage)] fun x => (none, s_StageOk_R (m_stageOk x.1))
def s_StageOk_C : Prop := ∀ (x0 : TStage), TCon Try.prog 85 [(.a (Tup.cells ctStage x0))] (s_StageOk_R (m_stageOk x0))

/-! spec.StageOk -/
def s_StageOk_G : List TRow := [s_ModelOk_row, s_l1In_row, s_VecOk_row, s_l11Hand_row]
def s_StageOk_b2 : TCode :=
  (.seq (.seq (.reg [.op (some 47) (.mov (.s 5)),
     .op (some 48) (.fad (.s 1) 2),
     .op (some 49) (.load (.s 48) 1 false),
     .op (some 50) (.len (.s 49)),
     .op (some 51) (.bin .lss (.s 47) (.s 50))])
  (.cond (.s 51) .skip (.exit 0)))
 (.seq (.block 1 (.seq (.draw [.op (some 54) (.fad (.s 1) 11),
       .op (some 55) (.fad (.s 54) 0),
       .op (some 56) (.load (.s 55) 1 false),
       .op (some 57) (.mov (.s 5)),
       .op (some 58) (.iad (.s 56) (.s 57) [(.sl [TI])]),
       .op (some 59) (.fad (.s 58) 0),
       .op (some 60) (.load (.s 59) 1 false),
       .op (some 61) (.len (.s 60)),
       .op (some 62) (.fad (.s 1) 2),
       .op (some 63) (.load (.s 62) 1 false),
       .op (some 64) (.mov (.s 5)),
       .op (some 65) (.iad (.s 63) (.s 64) ctOp),
       .op (some 66) (.fad (.s 65) 3),
       .op (some 67) (.load (.s 66) 1 false),
       .op (some 68) (.len (.s 67)),
       .op (some 69) (.bin .neq (.s 61) (.s 68))] [])
    (.cond (.s 69) (.seq (.reg [.op (some 2) (.mov (.k (.c .bool false)))])
      .ret) .skip)))
  (.reg [.op (some 52) (.mov (.s 5)),
     .op (some 53) (.bin .add (.s 52) (.k (.c TI (1 : Int)))),
     .op (some 5) (.mov (.s 53))])))
def s_StageOk_L2 : List (Nat × Md) := [(1, .b [.d, .d, .d, .d, .d, .d, .d, .d, .d, .d, .d, .d, .d, .d]), (3, .one .d), (4, .one .d), (5, .one .d)]
def s_StageOk_b6 : TCode :=
  (.seq (.seq (.reg [.op (some 126) (.mov (.s 8)),
     .op (some 127) (.mov (.s 7)),
     .op (some 128) (.len (.s 127)),
     .op (some 129) (.bin .lss (.s 126) (.s 128))])
  (.cond (.s 129) .skip (.exit 4)))
 (.seq (.block 5 (.seq (.draw [.op (some 132) (.mov (.s 7)),
       .op (some 133) (.mov (.s 8)),
       .op (some 134) (.iad (.s 132) (.s 133) [(.sl [TI])]),
       .op (some 135) (.fad (.s 134) 0),
       .op (some 136) (.load (.s 135) 1 false),
       .op (some 137) (.call 120 [(.s 136)]),
       .op (some 138) (.not (.s 137)),
       .op (some 139) (.mov (.s 138)),
       .grp 139 false [.op (some 140) (.mov (.s 7)), .op (some 141) (.mov (.s 8)), .op (some 142) (.iad (.s 140) (.s 141) [(.sl [TI])]), .op (some 143) (.fad (.s 142) 0), .op (some 144) (.load (.s 143) 1 false), .op (some 145) (.len (.s 144)), .op (some 146) (.fad (.s 1) 2), .op (some 147) (.load (.s 146) 1 false), .op (some 148) (.mov (.s 8)), .op (some 149) (.bin .sub (.s 148) (.k (.c TI (1 : Int)))), .op (some 150) (.iad (.s 147) (.s 149) ctOp), .op (some 151) (.fad (.s 150) 2), .op (some 152) (.load (.s 151) 1 false), .op (some 153) (.bin .neq (.s 145) (.s 152))] 154 (.s 153)] [])
    (.cond (.s 154) (.seq (.reg [.op (some 2) (.mov (.k (.c .bool false)))])
      .ret) .skip)))
  (.reg [.op (some 130) (.mov (.s 8)),
     .op (some 131) (.bin .add (.s 130) (.k (.c TI (1 : Int)))),
     .op (some 8) (.mov (.s 131))])))
def s_StageOk_L6 : List (Nat × Md) := [(1, .b [.d, .d, .d, .d, .d, .d, .d, .d, .d, .d, .d, .d, .d, .d]), (3, .one .d), (4, .one .d), (6, .one .d), (7, .one .d), (8, .one .d)]
def s_StageOk_y5 : TCode :=
  (.reg [.op (some 75) (.mov (.s 6)),
   .op (some 76) (.bin .add (.s 75) (.k (.c TI (1 : Int)))),
   .op (some 6) (.mov (.s 76))])
def s_StageOk_b4 : TCode :=
  (.seq (.seq (.reg [.op (some 70) (.mov (.s 6)),
     .op (some 71) (.fad (.s 1) 5),
     .op (some 72) (.load (.s 71) 1 false),
     .op (some 73) (.len (.s 72)),
     .op (some 74) (.bin .lss (.s 70) (.s 73))])
  (.cond (.s 74) .skip (.exit 2)))
 (.seq (.block 3 (.seq (.reg [.op (some 77) (.fad (.s 1) 5),
       .op (some 78) (.load (.s 77) 1 false),
       .op (some 79) (.mov (.s 6)),
       .op (some 80) (.iad (.s 78) (.s 79) ctSaved),
       .op (some 81) (.fad (.s 80) 1),
       .op (some 82) (.load (.s 81) 1 false),
       .op (some 7) (.mov (.s 82))])
    (.seq (.seq (.reg [.op (some 83) (.mov (.s 7)),
         .op (some 84) (.len (.s 83)),
         .op (some 85) (.bin .eql (.s 84) (.k (.c TI (0 : Int)))),
         .op (some 86) (.mov (.s 85)),
         .grp 86 false [.op (some 87) (.mov (.s 7)), .op (some 88) (.iad (.s 87) (.k (.c TI (0 : Int))) [(.sl [TI])]), .op (some 89) (.fad (.s 88) 0), .op (some 90) (.load (.s 89) 1 false), .op (some 91) (.call 120 [(.s 90)]), .op (some 92) (.not (.s 91))] 93 (.s 92),
         .op (some 94) (.mov (.s 93)),
         .grp 94 false [.op (some 95) (.mov (.s 7)), .op (some 96) (.iad (.s 95) (.k (.c TI (0 : Int))) [(.sl [TI])]), .op (some 97) (.fad (.s 96) 0), .op (some 98) (.load (.s 97) 1 false), .op (some 99) (.len (.s 98)), .op (some 100) (.mov (.s 3)), .op (some 101) (.bin .neq (.s 99) (.s 100))] 102 (.s 101),
         .op (some 103) (.mov (.s 102)),
         .grp 103 false [.op (some 104) (.fad (.s 1) 4), .op (some 105) (.load (.s 104) 1 false), .op (some 106) (.not (.s 105)), .op (some 107) (.mov (.s 106)), .grp 107 true [.op (some 108) (.mov (.s 7)), .op (some 109) (.len (.s 108)), .op (some 110) (.fad (.s 1) 2), .op (some 111) (.load (.s 110) 1 false), .op (some 112) (.len (.s 111)), .op (some 113) (.bin .add (.s 112) (.k (.c TI (1 : Int)))), .op (some 114) (.bin .neq (.s 109) (.s 113))] 115 (.s 114)] 116 (.s 115),
         .op (some 117) (.mov (.s 116)),
         .grp 117 false [.op (some 118) (.fad (.s 1) 4), .op (some 119) (.load (.s 118) 1 false), .op (some 120) (.mov (.s 119)), .grp 120 true [.op (some 121) (.mov (.s 7)), .op (some 122) (.len (.s 121)), .op (some 123) (.bin .neq (.s 122) (.k (.c TI (1 : Int))))] 124 (.s 123)] 125 (.s 124)])
      (.cond (.s 125) (.seq (.reg [.op (some 2) (.mov (.k (.c .bool false)))])
        .ret) .skip))
     (.seq (.reg [.op (some 8) (.mov (.k (.c TI (1 : Int))))])
      (.block 4 (.loop s_StageOk_L6 s_StageOk_b6))))))
  s_StageOk_y5))
def s_StageOk_L4 : List (Nat × Md) := [(1, .b [.d, .d, .d, .d, .d, .d, .d, .d, .d, .d, .d, .d, .d, .d]), (3, .one .d), (4, .one .d), (6, .one .d)]
def s_StageOk_y3 : TCode :=
  (.seq (.reg [.op (some 155) (.fad (.s 1) 7),
    .op (some 156) (.load (.s 155) 1 false),
    .op (some 157) (.mov (.s 3)),
    .op (some 158) (.call 152 [(.s 156), (.s 157)]),
    .op (some 159) (.mov (.s 158)),
    .grp 159 true [.op (some 160) (.fad (.s 1) 8), .op (some 161) (.load (.s 160) 1 false), .op (some 162) (.mov (.s 4)), .op (some 163) (.call 152 [(.s 161), (.s 162)])] 164 (.s 163),
    .op (some 165) (.mov (.s 164)),
    .grp 165 true [.op (some 166) (.fad (.s 1) 9), .op (some 167) (.load (.s 166) 1 false), .op (some 168) (.mov (.s 4)), .op (some 169) (.call 152 [(.s 167), (.s 168)])] 170 (.s 169),
    .op (some 171) (.mov (.s 170)),
    .grp 171 true [.op (some 172) (.fad (.s 1) 10), .op (some 173) (.load (.s 172) 1 false), .op (some 174) (.mov (.s 3)), .op (some 175) (.call 152 [(.s 173), (.s 174)])] 176 (.s 175),
    .op (some 2) (.mov (.s 176))])
 .ret)
def s_StageOk_y1 : TCode :=
  (.seq (.seq (.reg [.op (some 6) (.mov (.k (.c TI (0 : Int))))])
  (.block 2 (.loop s_StageOk_L4 s_StageOk_b4)))
 s_StageOk_y3)
def s_StageOk_c : TCode :=
  (.seq (.reg [.op (some 1) (.box 100 (.s 0) 14),
    .op (some 2) (.mov (.k (.c .bool false)))])
 (.seq (.seq (.reg [.op (some 9) (.fad (.s 1) 2),
      .op (some 10) (.load (.s 9) 1 false),
      .op (some 11) (.build [(.n ctOp)] [(0, 1, (.s 10))]),
      .op (some 12) (.call 132 [(.s 11)]),
      .op (some 13) (.not (.s 12)),
      .op (some 14) (.mov (.s 13)),
      .grp 14 false [.op (some 15) (.fad (.s 1) 0), .op (some 16) (.load (.s 15) 1 false), .op (some 17) (.fad (.s 1) 1), .op (some 18) (.load (.s 17) 1 false), .op (some 19) (.len (.s 18)), .op (some 20) (.call 121 [(.s 16), (.k (.c TI (0 : Int))), (.s 19)]), .op (some 21) (.not (.s 20))] 22 (.s 21),
      .op (some 23) (.mov (.s 22)),
      .grp 23 false [.op (some 24) (.fad (.s 1) 11), .op (some 25) (.fad (.s 24) 0), .op (some 26) (.load (.s 25) 1 false), .op (some 27) (.len (.s 26)), .op (some 28) (.fad (.s 1) 2), .op (some 29) (.load (.s 28) 1 false), .op (some 30) (.len (.s 29)), .op (some 31) (.bin .neq (.s 27) (.s 30))] 32 (.s 31)])
   (.cond (.s 32) (.seq (.reg [.op (some 2) (.mov (.k (.c .bool false)))])
     .ret) .skip))
  (.seq (.reg [.op (some 33) (.fad (.s 1) 2),
      .op (some 34) (.load (.s 33) 1 false),
      .op (some 35) (.iad (.s 34) (.k (.c TI (0 : Int))) ctOp),
      .op (some 36) (.fad (.s 35) 1),
      .op (some 37) (.load (.s 36) 1 false),
      .op (some 3) (.mov (.s 37))])
   (.seq (.reg [.op (some 38) (.fad (.s 1) 2),
       .op (some 39) (.load (.s 38) 1 false),
       .op (some 40) (.fad (.s 1) 2),
       .op (some 41) (.load (.s 40) 1 false),
       .op (some 42) (.len (.s 41)),
       .op (some 43) (.bin .sub (.s 42) (.k (.c TI (1 : Int)))),
       .op (some 44) (.iad (.s 39) (.s 43) ctOp),
       .op (some 45) (.fad (.s 44) 2),
       .op (some 46) (.load (.s 45) 1 false),
       .op (some 4) (.mov (.s 46))])
    (.seq (.seq (.reg [.op (some 5) (.mov (.k (.c TI (0 : Int))))])
      (.block 0 (.loop s_StageOk_L2 s_StageOk_b2)))
     s_StageOk_y1)))))
def s_StageOk_rs : List (ARv × Md) := [(.t 2, .one .d)]
theorem s_StageOk_st : compF Try.prog 85 = some (s_StageOk_c.er, s_StageOk_rs.map Prod.fst, 177) := by kernel_rfl
def s_StageOk_Q (K : TRes → Prop) : TPost := TQ 0 s_StageOk_rs K
def s_StageOk_q1 (K : TRes → Prop) : TPost := Qseq (tawp s_StageOk_G 0 s_StageOk_y3 (s_StageOk_Q K)) (s_StageOk_Q K)
def s_StageOk_q2 (K : TRes → Prop) : TPost := Qblk 2 (s_StageOk_q1 K)
def s_StageOk_q3 (K : TRes → Prop) : TPost := Qseq (fun s' => Loop s_StageOk_G 0 s_StageOk_L4 s_StageOk_b4 (s_StageOk_q2 K) (gc 0 s_StageOk_L4 s')) (s_StageOk_q2 K)
def s_StageOk_q4 (K : TRes → Prop) : TPost := Qseq (tawp s_StageOk_G 0 s_StageOk_y5 (s_StageOk_q3 K)) (s_StageOk_q3 K)
def s_StageOk_q5 (K : TRes → Prop) : TPost := Qblk 3 (s_StageOk_q4 K)
def s_StageOk_q6 (K : TRes → Prop) : TPost := Qblk 4 (s_StageOk_q5 K)
def s_StageOk_A6 (K : TRes → Prop) (s : TStage) (k : Int) (i1 : Int) : Prop := Loop s_StageOk_G 0 s_StageOk_L6 s_StageOk_b6 (s_StageOk_q6 K) ⟨[(1, (.p 0 0 0)), (3, (.c TI ((gtd dOp s.2.2.1 (Int.toNat (0 : Int))).2.1))), (4, (.c TI ((gtd dOp s.2.2.1 (Int.toNat (w64 (((s.2.2.1).length : Int) - (1 : Int))))).2.2.1))), (6, (.c TI i1)), (7, (.c (.sl [(.sl [TI])]) ((gtd dSaved s.2.2.2.2.2.1 (Int.toNat i1)).2))), (8, (.c TI k))], [(0, (.box [(.c TI s.1), (.c (.sl ctIns) s.2.1), (.c (.sl ctOp) s.2.2.1), (.c .bool s.2.2.2.1), (.c .bool s.2.2.2.2.1), (.c (.sl ctSaved) s.2.2.2.2.2.1), (.c (.sl [(.sl [TI])]) s.2.2.2.2.2.2.1), (.c (.sl [TI]) s.2.2.2.2.2.2.2.1), (.c (.sl [TI]) s.2.2.2.2.2.2.2.2.1), (.c (.sl [TI]) s.2.2.2.2.2.2.2.2.2.1), (.c (.sl [TI]) s.2.2.2.2.2.2.2.2.2.2.1), (.c (.sl [(.sl [TI])]) s.2.2.2.2.2.2.2.2.2.2.2.1), (.c TI s.2.2.2.2.2.2.2.2.2.2.2.2.1), (.c .bool s.2.2.2.2.2.2.2.2.2.2.2.2.2)]))], 1⟩
def s_StageOk_A4 (K : TRes → Prop) (s : TStage) (i1 : Int) : Prop := Loop s_StageOk_G 0 s_StageOk_L4 s_StageOk_b4 (s_StageOk_q2 K) ⟨[(1, (.p 0 0 0)), (3, (.c TI ((gtd dOp s.2.2.1 (Int.toNat (0 : Int))).2.1))), (4, (.c TI ((gtd dOp s.2.2.1 (Int.toNat (w64 (((s.2.2.1).length : Int) - (1 : Int))))).2.2.1))), (6, (.c TI i1))], [(0, (.box [(.c TI s.1), (.c (.sl ctIns) s.2.1), (.c (.sl ctOp) s.2.2.1), (.c .bool s.2.2.2.1), (.c .bool s.2.2.2.2.1), (.c (.sl ctSaved) s.2.2.2.2.2.1), (.c (.sl [(.sl [TI])]) s.2.2.2.2.2.2.1), (.c (.sl [TI]) s.2.2.2.2.2.2.2.1), (.c (.sl [TI]) s.2.2.2.2.2.2.2.2.1), (.c (.sl [TI]) s.2.2.2.2.2.2.2.2.2.1), (.c (.sl [TI]) s.2.2.2.2.2.2.2.2.2.2.1), (.c (.sl [(.sl [TI])]) s.2.2.2.2.2.2.2.2.2.2.2.1), (.c TI s.2.2.2.2.2.2.2.2.2.2.2.2.1), (.c .bool s.2.2.2.2.2.2.2.2.2.2.2.2.2)]))], 1⟩
def s_StageOk_q7 (K : TRes → Prop) : TPost := Qseq (tawp s_StageOk_G 0 s_StageOk_y1 (s_StageOk_Q K)) (s_StageOk_Q K)
def s_StageOk_q8 (K : TRes → Prop) : TPost := Qblk 0 (s_StageOk_q7 K)
def s_StageOk_A2 (K : TRes → Prop) (s : TStage) (i : Int) : Prop := Loop s_StageOk_G 0 s_StageOk_L2 s_StageOk_b2 (s_StageOk_q8 K) ⟨[(1, (.p 0 0 0)), (3, (.c TI ((gtd dOp s.2.2.1 (Int.toNat (0 : Int))).2.1))), (4, (.c TI ((gtd dOp s.2.2.1 (Int.toNat (w64 (((s.2.2.1).length : Int) - (1 : Int))))).2.2.1))), (5, (.c TI i))], [(0, (.box [(.c TI s.1), (.c (.sl ctIns) s.2.1), (.c (.sl ctOp) s.2.2.1), (.c .bool s.2.2.2.1), (.c .bool s.2.2.2.2.1), (.c (.sl ctSaved) s.2.2.2.2.2.1), (.c (.sl [(.sl [TI])]) s.2.2.2.2.2.2.1), (.c (.sl [TI]) s.2.2.2.2.2.2.2.1), (.c (.sl [TI]) s.2.2.2.2.2.2.2.2.1), (.c (.sl [TI]) s.2.2.2.2.2.2.2.2.2.1), (.c (.sl [TI]) s.2.2.2.2.2.2.2.2.2.2.1), (.c (.sl [(.sl [TI])]) s.2.2.2.2.2.2.2.2.2.2.2.1), (.c TI s.2.2.2.2.2.2.2.2.2.2.2.2.1), (.c .bool s.2.2.2.2.2.2.2.2.2.2.2.2.2)]))], 1⟩
theorem s_StageOk_v6 (K : TRes → Prop) (s : TStage) (k : Int) (i1 : Int) (h :
  (((decide (k < (((gtd dSaved s.2.2.2.2.2.1 (Int.toNat i1)).2).length : Int))) = true → ((((0 : Int) ≤ k ∧ Int.toNat k < ((gtd dSaved s.2.2.2.2.2.1 (Int.toNat i1)).2).length) ∧ ((!(!(m_vecOk (gtd ([] : List Int) ((gtd dSaved s.2.2.2.2.2.1 (Int.toNat i1)).2) (Int.toNat k))))) = true → (((0 : Int) ≤ k ∧ Int.toNat k < ((gtd dSaved s.2.2.2.2.2.1 (Int.toNat i1)).2).length) ∧ ((0 : Int) ≤ w64 (k - (1 : Int)) ∧ Int.toNat (w64 (k - (1 : Int))) < (s.2.2.1).length)))) ∧ ((((!(m_vecOk (gtd ([] : List Int) ((gtd dSaved s.2.2.2.2.2.1 (Int.toNat i1)).2) (Int.toNat k)))) || (((gtd ([] : List Int) ((gtd dSaved s.2.2.2.2.2.1 (Int.toNat i1)).2) (Int.toNat k)).length : Int) != ((gtd dOp s.2.2.1 (Int.toNat (w64 (k - (1 : Int))))).2.2.1))) = true → K (s_StageOk_R false)) ∧ (((!(m_vecOk (gtd ([] : List Int) ((gtd dSaved s.2.2.2.2.2.1 (Int.toNat i1)).2) (Int.toNat k)))) || (((gtd ([] : List Int) ((gtd dSaved s.2.2.2.2.2.1 (Int.toNat i1)).2) (Int.toNat k)).length : Int) != ((gtd dOp s.2.2.1 (Int.toNat (w64 (k - (1 : Int))))).2.2.1))) = false → (s_StageOk_A6 K s (w64 (k + (1 : Int))) i1))))) ∧ ((decide (k < (((gtd dSaved s.2.2.2.2.2.1 (Int.toNat i1)).2).length : Int))) = false → (s_StageOk_A4 K s (w64 (i1 + (1 : Int))))))) : s_StageOk_A6 K s k i1 :=
  Loop.of (by kernel_rfl) h
theorem s_StageOk_v4 (K : TRes → Prop) (s : TStage) (i1 : Int) (h :
  (((decide (i1 < ((s.2.2.2.2.2.1).length : Int))) = true → (((0 : Int) ≤ i1 ∧ Int.toNat i1 < (s.2.2.2.2.2.1).length) ∧ ((((!((((gtd dSaved s.2.2.2.2.2.1 (Int.toNat i1)).2).length : Int) == (0 : Int))) = true → ((0 : Int) ≤ (0 : Int) ∧ Int.toNat (0 : Int) < ((gtd dSaved s.2.2.2.2.2.1 (Int.toNat i1)).2).length)) ∧ ((!(((((gtd dSaved s.2.2.2.2.2.1 (Int.toNat i1)).2).length : Int) == (0 : Int)) || (!(m_vecOk (gtd ([] : List Int) ((gtd dSaved s.2.2.2.2.2.1 (Int.toNat i1)).2) (Int.toNat (0 : Int))))))) = true → ((0 : Int) ≤ (0 : Int) ∧ Int.toNat (0 : Int) < ((gtd dSaved s.2.2.2.2.2.1 (Int.toNat i1)).2).length))) ∧ ((((((((((gtd dSaved s.2.2.2.2.2.1 (Int.toNat i1)).2).length : Int) == (0 : Int)) || (!(m_vecOk (gtd ([] : List Int) ((gtd dSaved s.2.2.2.2.2.1 (Int.toNat i1)).2) (Int.toNat (0 : Int)))))) || (((gtd ([] : List Int) ((gtd dSaved s.2.2.2.2.2.1 (Int.toNat i1)).2) (Int.toNat (0 : Int))).length : Int) != ((gtd dOp s.2.2.1 (Int.toNat (0 : Int))).2.1))) || ((!s.2.2.2.2.1) && ((((gtd dSaved s.2.2.2.2.2.1 (Int.toNat i1)).2).length : Int) != (w64 (((s.2.2.1).length : Int) + (1 : Int)))))) || (s.2.2.2.2.1 && ((((gtd dSaved s.2.2.2.2.2.1 (Int.toNat i1)).2).length : Int) != (1 : Int)))) = true → K (s_StageOk_R false)) ∧ (((((((((gtd dSaved s.2.2.2.2.2.1 (Int.toNat i1)).2).length : Int) == (0 : Int)) || (!(m_vecOk (gtd ([] : List Int) ((gtd dSaved s.2.2.2.2.2.1 (Int.toNat i1)).2) (Int.toNat (0 : Int)))))) || (((gtd ([] : List Int) ((gtd dSaved s.2.2.2.2.2.1 (Int.toNat i1)).2) (Int.toNat (0 : Int))).length : Int) != ((gtd dOp s.2.2.1 (Int.toNat (0 : Int))).2.1))) || ((!s.2.2.2.2.1) && ((((gtd dSaved s.2.2.2.2.2.1 (Int.toNat i1)).2).length : Int) != (w64 (((s.2.2.1).length : Int) + (1 : Int)))))) || (s.2.2.2.2.1 && ((((gtd dSaved s.2.2.2.2.2.1 (Int.toNat i1)).2).length : Int) != (1 : Int)))) = false → (s_StageOk_A6 K s (1 : Int) i1)))))) ∧ ((decide (i1 < ((s.2.2.2.2.2.1).length : Int))) = false → K (s_StageOk_R ((((m_hand s.2.2.2.2.2.2.2.1 ((gtd dOp s.2.2.1 (Int.toNat (0 : Int))).2.1)) && (m_hand s.2.2.2.2.2.2.2.2.1 ((gtd dOp s.2.2.1 (Int.toNat (w64 (((s.2.2.1).length : Int) - (1 : Int))))).2.2.1))) && (m_hand s.2.2.2.2.2.2.2.2.2.1 ((gtd dOp s.2.2.1 (Int.toNat (w64 (((s.2.2.1).length : Int) - (1 : Int))))).2.2.1))) && (m_hand s.2.2.2.2.2.2.2.2.2.2.1 ((gtd dOp s.2.2.1 (Int.toNat (0 : Int))).2.1))))))) : s_StageOk_A4 K s i1 :=
  Loop.of (by kernel_rfl) h
theorem s_StageOk_v2 (K : TRes → Prop) (s : TStage) (i : Int) (h :
  (((decide (i < ((s.2.2.1).length : Int))) = true → ((((0 : Int) ≤ i ∧ Int.toNat i < (s.2.2.2.2.2.2.2.2.2.2.2.1).length) ∧ ((0 : Int) ≤ i ∧ Int.toNat i < (s.2.2.1).length)) ∧ (((((gtd ([] : List Int) s.2.2.2.2.2.2.2.2.2.2.2.1 (Int.toNat i)).length : Int) != (((gtd dOp s.2.2.1 (Int.toNat i)).2.2.2).length : Int)) = true → K (s_StageOk_R false)) ∧ ((((gtd ([] : List Int) s.2.2.2.2.2.2.2.2.2.2.2.1 (Int.toNat i)).length : Int) != (((gtd dOp s.2.2.1 (Int.toNat i)).2.2.2).length : Int)) = false → (s_StageOk_A2 K s (w64 (i + (1 : Int)))))))) ∧ ((decide (i < ((s.2.2.1).length : Int))) = false → (s_StageOk_A4 K s (0 : Int))))) : s_StageOk_A2 K s i :=
  Loop.of (by kernel_rfl) h
theorem s_StageOk_v0 (K : TRes → Prop) (s : TStage) (h :
  (((((!(m_modelOk s.2.2.1)) || (!(m_in s.1 (0 : Int) ((s.2.1).length : Int)))) || (((s.2.2.2.2.2.2.2.2.2.2.2.1).length : Int) != ((s.2.2.1).length : Int))) = true → K (s_StageOk_R false)) ∧ ((((!(m_modelOk s.2.2.1)) || (!(m_in s.1 (0 : Int) ((s.2.1).length : Int)))) || (((s.2.2.2.2.2.2.2.2.2.2.2.1).length : Int) != ((s.2.2.1).length : Int))) = false → (((0 : Int) ≤ (0 : Int) ∧ Int.toNat (0 : Int) < (s.2.2.1).length) ∧ (((0 : Int) ≤ w64 (((s.2.2.1).length : Int) - (1 : Int)) ∧ Int.toNat (w64 (((s.2.2.1).length : Int) - (1 : Int))) < (s.2.2.1).length) ∧ (s_StageOk_A2 K s (0 : Int))))))) : Hold (tawp s_StageOk_G 0 s_StageOk_c (TQ 0 s_StageOk_rs K) (tstart [(.a (Tup.cells ctStage s))])) :=
  Hold.of (by kernel_rfl) h
theorem s_StageOk_t (s : TStage) (r : TRes) (h : Hold (tawp s_StageOk_G 0 s_StageOk_c (TQ 0 s_StageOk_rs fun r' => r' = r) (tstart [(.a (Tup.cells ctStage s))]))) : TCon Try.prog 85 [(.a (Tup.cells ctStage s))] r :=
  tcon_gen (sg := [(.a ctStage)]) mixed (TOk.cons s_ModelOk_ok (TOk.cons s_l1In_ok (TOk.cons s_VecOk_ok (TOk.cons s_l11Hand_ok TOk.nil)))) s_StageOk_st (by kernel_rfl) (by kernel_rfl) (by kernel_rfl) h
theorem s_StageOk_h : s_StageOk_C := by
  intro s
  refine tcon_bd rfl fun hb => s_StageOk_t s _ (s_StageOk_v0 _ s ?_)
  have hl_s_1 : (s.2.1).length ≤ 9223372036854775807 := hb.1.2.1.1
  have hl_s_2 : (s.2.2.1).length ≤ 9223372036854775807 := hb.1.2.2.1.1
  have hl_s_5 : (s.2.2.2.2.2.1).length ≤ 9223372036854775807 := hb.1.2.2.2.2.2.1.1
  have hl_s_6 : (s.2.2.2.2.2.2.1).length ≤ 9223372036854775807 := hb.1.2.2.2.2.2.2.1.1
  have hl_s_7 : (s.2.2.2.2.2.2.2.1).length ≤ 9223372036854775807 := hb.1.2.2.2.2.2.2.2.1.1
  have hl_s_8 : (s.2.2.2.2.2.2.2.2.1).length ≤ 9223372036854775807 := hb.1.2.2.2.2.2.2.2.2.1.1
  have hl_s_9 : (s.2.2.2.2.2.2.2.2.2.1).length ≤ 9223372036854775807 := hb.1.2.2.2.2.2.2.2.2.2.1.1
  have hl_s_10 : (s.2.2.2.2.2.2.2.2.2.2.1).length ≤ 9223372036854775807 := hb.1.2.2.2.2.2.2.2.2.2.2.1.1
  have hl_s_11 : (s.2.2.2.2.2.2.2.2.2.2.2.1).length ≤ 9223372036854775807 := hb.1.2.2.2.2.2.2.2.2.2.2.2.1.1
  refine ⟨fun h => R_eq (by grind [m_stageOk, m_gradsFit]), fun h => ?_⟩
  have h0 : m_modelOk s.2.2.1 = true ∧ m_in s.1 0 s.2.1.length = true ∧ s.2.2.2.2.2.2.2.2.2.2.2.1.length = s.2.2.1.length := by
    have : ((s.2.2.2.2.2.2.2.2.2.2.2.1.length : Int) != (s.2.2.1.length : Int)) = false := by grind
    have h3 : s.2.2.2.2.2.2.2.2.2.2.2.1.length = s.2.2.1.length := by
      have h4 : ((s.2.2.2.2.2.2.2.2.2.2.2.1.length : Int) == (s.2.2.1.length : Int)) = true := by simpa [bne] using this
      have := of_decide_eq_true (by simpa using h4 : decide ((s.2.2.2.2.2.2.2.2.2.2.2.1.length : Int) = s.2.2.1.length) = true)
      omega
    grind
  have hm := mod_len h0.1
  have eo := tn_sub1 (n := s.2.2.1.length) hm.1 (by omega)
  have ei : m_inOf s.2.2.1 = (gtd dOp s.2.2.1 0).2.1 := by simp [m_inOf, h0.1]
  have eu : m_outOf s.2.2.1 = (gtd dOp s.2.2.1 (s.2.2.1.length - 1)).2.2.1 := by simp [m_outOf, h0.1]
  have hk9 : 1 ≤ m_kept s ∧ m_kept s ≤ s.2.2.1.length + 1 := by unfold m_kept; split <;> omega
  -- what is saved
  have saved : m_gradsFit s.2.2.1 s.2.2.2.2.2.2.2.2.2.2.2.1 = true → s_StageOk_A4 (fun r' => r' = s_StageOk_R (m_stageOk s)) s ((0 : Nat) : Int) := by
    intro hgf
    refine listLoop s.2.2.2.2.2.1 (fun r k => r.all (m_savedOk s) = s.2.2.2.2.2.1.all (m_savedOk s) → s_StageOk_A4 (fun r' => r' = s_StageOk_R (m_stageOk s)) s k) ?_ ?_ rfl
    · intro he
      refine s_StageOk_v4 (fun r' => r' = s_StageOk_R (m_stageOk s)) s _ ⟨fun h => by simp at h, fun _ => R_eq ?_⟩
      rw [eo.1]
      grind [m_stageOk]
    · intro k x r hk hlt hg ih he
      have hbx : x.2.length ≤ 9223372036854775807 := by
        have hmem : x ∈ s.2.2.2.2.2.1 := List.mem_of_mem_drop (i := k) (by rw [hk]; exact List.mem_cons_self)
        exact (hb.1.2.2.2.2.2.1.2 x hmem).2.1.1
      -- the rows behind the first one
      have rows : (x.2.length : Int) = m_kept s → ∀ (q : List (List Int)) (j : Nat), 1 ≤ j → x.2.drop j = q → j ≤ x.2.length → goesGo s.2.2.1 j q = m_savedOk s x → s_StageOk_A6 (fun r' => r' = s_StageOk_R (m_stageOk s)) s j k := by
        intro hlen q
        induction q with
        | nil =>
          intro j h1 hj hle hgo
          have : x.2.length ≤ j := by simpa using hj
          refine s_StageOk_v6 (fun r' => r' = s_StageOk_R (m_stageOk s)) s _ _ ⟨fun h => ?_, fun _ => ?_⟩
          · rw [Int.toNat_natCast, hg] at h; simp at h; omega
          · rw [w64_ok (x := (k : Int) + 1) (by omega) (by omega)]
            refine ih ?_
            simp only [goesGo] at hgo
            rw [← he, List.all_cons, ← hgo, Bool.true_and]
        | cons z q ihq =>
          intro j h1 hj hle hgo
          have hjl := lt_of_drop hj
          have e2 := tn_sub1 h1 (by omega : j ≤ 9223372036854775807)
          have hsz := size_out h0.1 h1 (by omega : j ≤ s.2.2.1.length)
          refine s_StageOk_v6 (fun r' => r' = s_StageOk_R (m_stageOk s)) s _ _ ⟨fun _ => ?_, fun h => ?_⟩
          · rw [Int.toNat_natCast, Int.toNat_natCast, hg, gtd_drop hj, e2.1, w64_ok (x := (j : Int) + 1) (by omega) (by omega)]
            rw [goesGo, hsz] at hgo
            refine ⟨⟨⟨by omega, hjl⟩, fun _ => ⟨⟨by omega, hjl⟩, e2.2, by omega⟩⟩, fun h => R_eq ?_, fun h => ihq (j + 1) (by omega) (drop_succ hj) hjl ?_⟩
            · have hf : m_savedOk s x = false := by rw [← hgo]; grind [m_vecOf]
              have : s.2.2.2.2.2.1.all (m_savedOk s) = false := by rw [← he, List.all_cons, hf]; rfl
              simp [m_stageOk, this]
            · rw [← hgo]; grind [m_vecOf]
          · rw [Int.toNat_natCast, hg] at h; simp at h; omega
      refine s_StageOk_v4 (fun r' => r' = s_StageOk_R (m_stageOk s)) s _ ⟨fun _ => ?_, fun h => by simp at h; omega⟩
      rw [Int.toNat_natCast, hg]
      have bad : m_savedOk s x = false → false = m_stageOk s := by
        intro hf
        have : s.2.2.2.2.2.1.all (m_savedOk s) = false := by rw [← he, List.all_cons, hf]; rfl
        simp [m_stageOk, this]
      have ek : w64 ((s.2.2.1.length : Int) + 1) = s.2.2.1.length + 1 := w64_ok (by omega) (by omega)
      rw [ek]
      cases hx : x.2 with
      | nil =>
        refine ⟨⟨by omega, hlt⟩, ⟨by simp, by simp⟩, fun _ => R_eq (bad ?_), fun h => by simp at h⟩
        simp [m_savedOk, hx]; omega
      | cons z q =>
        have z0 : gtd ([] : List Int) (z :: q) (Int.toNat 0) = z := gtd_zero _ _ _
        rw [z0]
        have hsz : sizeAt s.2.2.1 0 = (gtd dOp s.2.2.1 (Int.toNat 0)).2.1 := size_zero h0.1
        rw [← hsz]
        have main : (((q.length + 1 : Nat) : Int) == m_kept s) = true → m_savedOk s x = (m_vecOf z (sizeAt s.2.2.1 0) && goesGo s.2.2.1 1 q) := by
          intro h
          have h : ((q.length + 1 : Nat) : Int) = m_kept s := by simpa using h
          have e : (z :: q).take (m_kept s).toNat = z :: q := by rw [List.take_of_length_le]; simp; omega
          simp only [m_savedOk, hx, m_goesIn, e, goesGo]
          simp; omega
        refine ⟨⟨by omega, hlt⟩, ⟨fun _ => by simp, fun _ => by simp⟩, fun h => R_eq (bad ?_), fun h => ?_⟩
        · by_cases hl : (((q.length + 1 : Nat) : Int) == m_kept s) = true
          · rw [main hl]
            have hl : ((q.length + 1 : Nat) : Int) = m_kept s := by simpa using hl
            unfold m_kept at hl
            by_cases hr : s.2.2.2.2.1 = true
            · rw [if_pos hr] at hl
              simp [hr] at h
              grind [m_vecOf]
            · rw [if_neg hr] at hl
              simp [hr] at h
              grind [m_vecOf]
          · have : (((x.2.length : Nat) : Int) == m_kept s) = false := by rw [hx]; simpa using hl
            simp [m_savedOk, this]
        · have hl : ((q.length + 1 : Nat) : Int) = m_kept s := by
            unfold m_kept
            by_cases hr : s.2.2.2.2.1 = true
            · rw [if_pos hr]; simp [hr] at h; omega
            · rw [if_neg hr]; simp [hr] at h; omega
          have hv : m_vecOf z (sizeAt s.2.2.1 0) = true := by simp at h; simp [m_vecOf, h]
          refine rows (by rw [hx]; simpa using hl) q 1 (Nat.le_refl _) (by rw [hx]; rfl) (by rw [hx]; simp) ?_
          rw [main (by simpa using hl), hv, Bool.true_and]
  refine ⟨⟨by omega, by simp; omega⟩, ⟨eo.2, by rw [eo.1]; omega⟩, ?_⟩
  refine listLoop s.2.2.1 (fun r k => gradsGo r (s.2.2.2.2.2.2.2.2.2.2.2.1.drop k) = gradsGo s.2.2.1 s.2.2.2.2.2.2.2.2.2.2.2.1 → s_StageOk_A2 (fun r' => r' = s_StageOk_R (m_stageOk s)) s k) ?_ ?_ rfl
  · intro he
    refine s_StageOk_v2 (fun r' => r' = s_StageOk_R (m_stageOk s)) s _ ⟨fun h => by simp at h, fun _ => saved ?_⟩
    grind [m_gradsFit, gradsGo]
  · intro k x r hk hlt hg ih he
    obtain ⟨y, q, hq⟩ : ∃ y q, s.2.2.2.2.2.2.2.2.2.2.2.1.drop k = y :: q := by
      cases hq : s.2.2.2.2.2.2.2.2.2.2.2.1.drop k with
      | nil => have := congrArg List.length hq; simp at this; omega
      | cons y q => exact ⟨y, q, rfl⟩
    refine s_StageOk_v2 (fun r' => r' = s_StageOk_R (m_stageOk s)) s _ ⟨fun _ => ?_, fun h => by simp at h; omega⟩
    rw [Int.toNat_natCast, hg, gtd_drop hq, w64_ok (x := (k : Int) + 1) (by omega) (by omega)]
    rw [hq, gradsGo] at he
    rw [drop_succ hq] at ih
    refine ⟨⟨⟨by omega, by omega⟩, by omega, hlt⟩, fun h => R_eq ?_, fun h => ih ?_⟩
    · grind [m_stageOk, m_gradsFit]
    · grind

theorem s_StageOk_ok : TRowOk Try.prog s_StageOk_row := rowOk fun x _ => s_StageOk_h x.1

end
end Go.Proofs.Ytpnblnkggeopkaa.Am
