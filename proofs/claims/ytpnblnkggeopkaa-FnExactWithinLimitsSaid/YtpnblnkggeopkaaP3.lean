/-
  Written by program: the code of functions, what it asks, and that it comes to what the models say.
-/
import Derived.Test.YtpnblnkggeopkaaM3
namespace Go.Proofs.Ytpnblnkggeopkaa.Am
open Go Go.RowKit Go.Proofs.Ytpnblnkggeopkaa
set_option linter.unusedVariables false
set_option linter.unusedSimpArgs false
noncomputable section

def s_FindSaved_R (t : Int) : TRes := ⟨(.c TI t), [], [], false⟩
def s_FindSaved_row : TRow := mkRow 31 [(.c (.sl ctSaved)), (.c TI)] fun x => (none, s_FindSaved_R (m_findSaved x.1 x.2.1))
def s_FindSaved_C : Prop := ∀ (x0 : List TSaved) (x1 : Int), TCon Try.prog 31 [(.c (.sl ctSaved) x0), (.c TI x1)] (s_FindSaved_R (m_findSaved x0 x1))

/-! spec.FindSaved -/
def s_FindSaved_G : List TRow := []
def s_FindSaved_b2 : TCode :=
  (.seq (.seq (.reg [.op (some 6) (.mov (.s 5)),
     .op (some 7) (.mov (.s 0)),
     .op (some 8) (.len (.s 7)),
     .op (some 9) (.bin .lss (.s 6) (.s 8))])
  (.cond (.s 9) .skip (.exit 0)))
 (.seq (.block 1 (.seq (.reg [.op (some 12) (.mov (.s 0)),
       .op (some 13) (.mov (.s 5)),
       .op (some 14) (.iad (.s 12) (.s 13) ctSaved),
       .op (some 15) (.fad (.s 14) 0),
       .op (some 16) (.load (.s 15) 1 false),
       .op (some 17) (.mov (.s 1)),
       .op (some 18) (.bin .eql (.s 16) (.s 17))])
    (.cond (.s 18) (.seq (.reg [.op (some 19) (.mov (.s 5)),
         .op (some 4) (.mov (.s 19))])
      .ret) .skip)))
  (.reg [.op (some 10) (.mov (.s 5)),
     .op (some 11) (.bin .add (.s 10) (.k (.c TI (1 : Int)))),
     .op (some 5) (.mov (.s 11))])))
def s_FindSaved_L2 : List (Nat × Md) := [(0, .one .d), (1, .one .d), (5, .one .d)]
def s_FindSaved_y1 : TCode :=
  (.seq (.reg [.op (some 4) (.mov (.k (.c TI (-1 : Int))))])
 .ret)
def s_FindSaved_c : TCode :=
  (.seq (.reg [.op (some 4) (.mov (.k (.c TI (0 : Int))))])
 (.seq (.seq (.reg [.op (some 5) (.mov (.k (.c TI (0 : Int))))])
   (.block 0 (.loop s_FindSaved_L2 s_FindSaved_b2)))
  s_FindSaved_y1))
def s_FindSaved_rs : List (ARv × Md) := [(.t 4, .one .d)]
theorem s_FindSaved_st : compF Try.prog 31 = some (s_FindSaved_c.er, s_FindSaved_rs.map Prod.fst, 20) := by kernel_rfl
def s_FindSaved_Q (K : TRes → Prop) : TPost := TQ 0 s_FindSaved_rs K
def s_FindSaved_q1 (K : TRes → Prop) : TPost := Qseq (tawp s_FindSaved_G 0 s_FindSaved_y1 (s_FindSaved_Q K)) (s_FindSaved_Q K)
def s_FindSaved_q2 (K : TRes → Prop) : TPost := Qblk 0 (s_FindSaved_q1 K)
def s_FindSaved_A2 (K : TRes → Prop) (l : List TSaved) (m : Int) (i : Int) : Prop := Loop s_FindSaved_G 0 s_FindSaved_L2 s_FindSaved_b2 (s_FindSaved_q2 K) ⟨[(0, (.c (.sl ctSaved) l)), (1, (.c TI m)), (5, (.c TI i))], [], 0⟩
theorem s_FindSaved_v2 (K : TRes → Prop) (l : List TSaved) (m : Int) (i : Int) (h :
  (((decide (i < (l.length : Int))) = true → (((0 : Int) ≤ i ∧ Int.toNat i < l.length) ∧ (((((gtd dSaved l (Int.toNat i)).1) == m) = true → K (s_FindSaved_R i)) ∧ ((((gtd dSaved l (Int.toNat i)).1) == m) = false → (s_FindSaved_A2 K l m (w64 (i + (1 : Int)))))))) ∧ ((decide (i < (l.length : Int))) = false → K (s_FindSaved_R (-1 : Int))))) : s_FindSaved_A2 K l m i :=
  Loop.of (by kernel_rfl) h
theorem s_FindSaved_v0 (K : TRes → Prop) (l : List TSaved) (m : Int) (h :
  (s_FindSaved_A2 K l m (0 : Int))) : Hold (tawp s_FindSaved_G 0 s_FindSaved_c (TQ 0 s_FindSaved_rs K) (tstart [(.c (.sl ctSaved) l), (.c TI m)])) :=
  Hold.of (by kernel_rfl) h
theorem s_FindSaved_t (l : List TSaved) (m : Int) (r : TRes) (h : Hold (tawp s_FindSaved_G 0 s_FindSaved_c (TQ 0 s_FindSaved_rs fun r' => r' = r) (tstart [(.c (.sl ctSaved) l), (.c TI m)]))) : TCon Try.prog 31 [(.c (.sl ctSaved) l), (.c TI m)] r :=
  tcon_gen (sg := [(.c (.sl ctSaved)), (.c TI)]) mixed TOk.nil s_FindSaved_st (by kernel_rfl) (by kernel_rfl) (by kernel_rfl) h
theorem s_FindSaved_h : s_FindSaved_C := by
  intro l m
  refine tcon_bd rfl fun hb => s_FindSaved_t l m _ (s_FindSaved_v0 _ l m ?_)
  have hl_l : l.length ≤ 9223372036854775807 := hb.1.1
  refine listLoop l (fun r k => m_findGo r m k = m_findSaved l m → s_FindSaved_A2 (fun r' => r' = s_FindSaved_R (m_findSaved l m)) l m k) ?_ ?_ rfl
  · intro he
    refine s_FindSaved_v2 (fun r' => r' = s_FindSaved_R (m_findSaved l m)) l m _ ⟨fun h => by simp at h, fun _ => ?_⟩
    grind [m_findGo]
  · intro k x r hk hlt hg ih he
    refine s_FindSaved_v2 (fun r' => r' = s_FindSaved_R (m_findSaved l m)) l m _ ⟨fun _ => ?_, fun h => by simp at h; omega⟩
    rw [Int.toNat_natCast, hg, w64_ok (by omega) (by omega)]
    grind [m_findGo]

theorem s_FindSaved_ok : TRowOk Try.prog s_FindSaved_row := rowOk fun x _ => s_FindSaved_h x.1 x.2.1

def i_FindSaved_R (t : Int) : TRes := ⟨(.c TI t), [], [], false⟩
def i_FindSaved_row : TRow := mkRow 33 [(.c (.sl ctSaved)), (.c TI)] fun x => (none, i_FindSaved_R (m_findSaved x.1 x.2.1))
def i_FindSaved_C : Prop := ∀ (x0 : List TSaved) (x1 : Int), TCon Try.prog 33 [(.c (.sl ctSaved) x0), (.c TI x1)] (i_FindSaved_R (m_findSaved x0 x1))

/-! impl.FindSaved -/
def i_FindSaved_G : List TRow := []
def i_FindSaved_b2 : TCode :=
  (.seq (.reg [.op (some 10) (.bin .lss (.s 9) (.s 8))])
 (.seq (.cond (.s 10) .skip (.exit 0))
  (.seq (.block 1 (.seq (.reg [.op (some 11) (.mov (.s 9)),
        .op (some 12) (.iad (.s 7) (.s 9) ctSaved),
        .op (some 13) (.load (.s 12) 2 true),
        .op (some 6) (.new 140 [(.c TI (0 : Int)), (.n [(.sl [TI])])]),
        .op (some 5) (.mov (.s 11)),
        .op none (.store (.s 6) (.s 13) 2)])
     (.seq (.reg [.op (some 14) (.fad (.s 6) 0),
         .op (some 15) (.load (.s 14) 1 false),
         .op (some 16) (.mov (.s 1)),
         .op (some 17) (.bin .eql (.s 15) (.s 16))])
      (.cond (.s 17) (.seq (.reg [.op (some 18) (.mov (.s 5)),
           .op (some 4) (.mov (.s 18))])
        .ret) .skip))))
   (.reg [.op (some 19) (.bin .add (.s 9) (.k (.c TI (1 : Int)))),
      .op (some 9) (.mov (.s 19))]))))
def i_FindSaved_L2 : List (Nat × Md) := [(1, .one .d), (7, .one .d), (8, .one .d), (9, .one .d)]
def i_FindSaved_y1 : TCode :=
  (.seq (.reg [.op (some 4) (.mov (.k (.c TI (-1 : Int))))])
 .ret)
def i_FindSaved_c : TCode :=
  (.seq (.reg [.op (some 4) (.mov (.k (.c TI (0 : Int))))])
 (.seq (.seq (.reg [.op (some 7) (.mov (.s 0)),
      .op (some 8) (.len (.s 7)),
      .op (some 9) (.mov (.k (.c TI (0 : Int))))])
   (.block 0 (.loop i_FindSaved_L2 i_FindSaved_b2)))
  i_FindSaved_y1))
def i_FindSaved_rs : List (ARv × Md) := [(.t 4, .one .d)]
theorem i_FindSaved_st : compF Try.prog 33 = some (i_FindSaved_c.er, i_FindSaved_rs.map Prod.fst, 20) := by kernel_rfl
def i_FindSaved_Q (K : TRes → Prop) : TPost := TQ 0 i_FindSaved_rs K
def i_FindSaved_q1 (K : TRes → Prop) : TPost := Qseq (tawp i_FindSaved_G 0 i_FindSaved_y1 (i_FindSaved_Q K)) (i_FindSaved_Q K)
def i_FindSaved_q2 (K : TRes → Prop) : TPost := Qblk 0 (i_FindSaved_q1 K)
def i_FindSaved_A2 (K : TRes → Prop) (l : List TSaved) (m : Int) (x : Int) : Prop := Loop i_FindSaved_G 0 i_FindSaved_L2 i_FindSaved_b2 (i_FindSaved_q2 K) ⟨[(1, (.c TI m)), (7, (.c (.sl ctSaved) l)), (8, (.c TI (l.length : Int))), (9, (.c TI x))], [], 0⟩
theorem i_FindSaved_v2 (K : TRes → Prop) (l : List TSaved) (m : Int) (x : Int) (h :
  (((decide (x < (l.length : Int))) = true → (((0 : Int) ≤ x ∧ Int.toNat x < l.length) ∧ (((((gtd dSaved l (Int.toNat x)).1) == m) = true → K (i_FindSaved_R x)) ∧ ((((gtd dSaved l (Int.toNat x)).1) == m) = false → (i_FindSaved_A2 K l m (w64 (x + (1 : Int)))))))) ∧ ((decide (x < (l.length : Int))) = false → K (i_FindSaved_R (-1 : Int))))) : i_FindSaved_A2 K l m x :=
  Loop.of (by kernel_rfl) h
theorem i_FindSaved_v0 (K : TRes → Prop) (l : List TSaved) (m : Int) (h :
  (i_FindSaved_A2 K l m (0 : Int))) : Hold (tawp i_FindSaved_G 0 i_FindSaved_c (TQ 0 i_FindSaved_rs K) (tstart [(.c (.sl ctSaved) l), (.c TI m)])) :=
  Hold.of (by kernel_rfl) h
theorem i_FindSaved_t (l : List TSaved) (m : Int) (r : TRes) (h : Hold (tawp i_FindSaved_G 0 i_FindSaved_c (TQ 0 i_FindSaved_rs fun r' => r' = r) (tstart [(.c (.sl ctSaved) l), (.c TI m)]))) : TCon Try.prog 33 [(.c (.sl ctSaved) l), (.c TI m)] r :=
  tcon_gen (sg := [(.c (.sl ctSaved)), (.c TI)]) mixed TOk.nil i_FindSaved_st (by kernel_rfl) (by kernel_rfl) (by kernel_rfl) h
theorem i_FindSaved_h : i_FindSaved_C := by
  intro l m
  refine tcon_bd rfl fun hb => i_FindSaved_t l m _ (i_FindSaved_v0 _ l m ?_)
  have hl_l : l.length ≤ 9223372036854775807 := hb.1.1
  refine listLoop l (fun r k => m_findGo r m k = m_findSaved l m → i_FindSaved_A2 (fun r' => r' = i_FindSaved_R (m_findSaved l m)) l m k) ?_ ?_ rfl
  · intro he
    refine i_FindSaved_v2 (fun r' => r' = i_FindSaved_R (m_findSaved l m)) l m _ ⟨fun h => by simp at h, fun _ => ?_⟩
    grind [m_findGo]
  · intro k x r hk hlt hg ih he
    refine i_FindSaved_v2 (fun r' => r' = i_FindSaved_R (m_findSaved l m)) l m _ ⟨fun _ => ?_, fun h => by simp at h; omega⟩
    rw [Int.toNat_natCast, hg, w64_ok (by omega) (by omega)]
    grind [m_findGo]

theorem i_FindSaved_ok : TRowOk Try.prog i_FindSaved_row := rowOk fun x _ => i_FindSaved_h x.1 x.2.1

def i_wordsIn_R (t : Int) : TRes := ⟨(.c TI t), [], [], false⟩
def i_wordsIn_row : TRow := mkRow 147 [(.c (.sl [(.sl [TI])]))] fun x => (none, i_wordsIn_R (m_wordsIn x.1))
def i_wordsIn_C : Prop := ∀ (x0 : List (List Int)), TCon Try.prog 147 [(.c (.sl [(.sl [TI])]) x0)] (i_wordsIn_R (m_wordsIn x0))

/-! impl.wordsIn -/
def i_wordsIn_G : List TRow := []
def i_wordsIn_b2 : TCode :=
  (.seq (.reg [.op (some 9) (.bin .lss (.s 8) (.s 7))])
 (.seq (.cond (.s 9) .skip (.exit 0))
  (.seq (.block 1 (.seq (.reg [.op (some 10) (.iad (.s 6) (.s 8) [(.sl [TI])]),
        .op (some 11) (.load (.s 10) 1 true),
        .op (some 5) (.new 174 [(.n [TI])]),
        .op none (.store (.s 5) (.s 11) 1)])
     (.reg [.op (some 12) (.mov (.s 3)),
        .op (some 13) (.fad (.s 5) 0),
        .op (some 14) (.load (.s 13) 1 false),
        .op (some 15) (.len (.s 14)),
        .op (some 16) (.bin .add (.s 12) (.s 15)),
        .op (some 3) (.mov (.s 16))])))
   (.reg [.op (some 17) (.bin .add (.s 8) (.k (.c TI (1 : Int)))),
      .op (some 8) (.mov (.s 17))]))))
def i_wordsIn_L2 : List (Nat × Md) := [(3, .one .d), (6, .one .d), (7, .one .d), (8, .one .d)]
def i_wordsIn_y1 : TCode :=
  (.seq (.reg [.op (some 18) (.mov (.s 3)),
    .op (some 2) (.mov (.s 18))])
 .ret)
def i_wordsIn_c : TCode :=
  (.seq (.reg [.op (some 2) (.mov (.k (.c TI (0 : Int))))])
 (.seq (.reg [.op (some 3) (.mov (.k (.c TI (0 : Int))))])
  (.seq (.seq (.reg [.op (some 6) (.mov (.s 0)),
       .op (some 7) (.len (.s 6)),
       .op (some 8) (.mov (.k (.c TI (0 : Int))))])
    (.block 0 (.loop i_wordsIn_L2 i_wordsIn_b2)))
   i_wordsIn_y1)))
def i_wordsIn_rs : List (ARv × Md) := [(.t 2, .one .d)]
theorem i_wordsIn_st : compF Try.prog 147 = some (i_wordsIn_c.er, i_wordsIn_rs.map Prod.fst, 19) := by kernel_rfl
def i_wordsIn_Q (K : TRes → Prop) : TPost := TQ 0 i_wordsIn_rs K
def i_wordsIn_q1 (K : TRes → Prop) : TPost := Qseq (tawp i_wordsIn_G 0 i_wordsIn_y1 (i_wordsIn_Q K)) (i_wordsIn_Q K)
def i_wordsIn_q2 (K : TRes → Prop) : TPost := Qblk 0 (i_wordsIn_q1 K)
def i_wordsIn_A2 (K : TRes → Prop) (rows : List (List Int)) (n : Int) (x : Int) : Prop := Loop i_wordsIn_G 0 i_wordsIn_L2 i_wordsIn_b2 (i_wordsIn_q2 K) ⟨[(3, (.c TI n)), (6, (.c (.sl [(.sl [TI])]) rows)), (7, (.c TI (rows.length : Int))), (8, (.c TI x))], [], 0⟩
theorem i_wordsIn_v2 (K : TRes → Prop) (rows : List (List Int)) (n : Int) (x : Int) (h :
  (((decide (x < (rows.length : Int))) = true → (((0 : Int) ≤ x ∧ Int.toNat x < rows.length) ∧ (i_wordsIn_A2 K rows (w64 (n + ((gtd ([] : List Int) rows (Int.toNat x)).length : Int))) (w64 (x + (1 : Int)))))) ∧ ((decide (x < (rows.length : Int))) = false → K (i_wordsIn_R n)))) : i_wordsIn_A2 K rows n x :=
  Loop.of (by kernel_rfl) h
theorem i_wordsIn_v0 (K : TRes → Prop) (rows : List (List Int)) (h :
  (i_wordsIn_A2 K rows (0 : Int) (0 : Int))) : Hold (tawp i_wordsIn_G 0 i_wordsIn_c (TQ 0 i_wordsIn_rs K) (tstart [(.c (.sl [(.sl [TI])]) rows)])) :=
  Hold.of (by kernel_rfl) h
theorem i_wordsIn_t (rows : List (List Int)) (r : TRes) (h : Hold (tawp i_wordsIn_G 0 i_wordsIn_c (TQ 0 i_wordsIn_rs fun r' => r' = r) (tstart [(.c (.sl [(.sl [TI])]) rows)]))) : TCon Try.prog 147 [(.c (.sl [(.sl [TI])]) rows)] r :=
  tcon_gen (sg := [(.c (.sl [(.sl [TI])]))]) mixed TOk.nil i_wordsIn_st (by kernel_rfl) (by kernel_rfl) (by kernel_rfl) h
theorem i_wordsIn_h : i_wordsIn_C := by
  intro rows
  refine tcon_bd rfl fun hb => i_wordsIn_t rows _ (i_wordsIn_v0 _ rows ?_)
  have hl_rows : rows.length ≤ 9223372036854775807 := hb.1.1
  refine listLoop rows (fun r k => ∀ y : Int, w64 (y + (r.map fun r => (r.length : Int)).sum) = (m_wordsIn rows) → i_wordsIn_A2 (fun r' => r' = i_wordsIn_R (m_wordsIn rows)) rows (w64 y) k) ?_ ?_ 0 (by simp [m_wordsIn])
  · intro y he
    refine i_wordsIn_v2 (fun r' => r' = i_wordsIn_R (m_wordsIn rows)) rows _ _ ⟨fun h => by simp at h, fun _ => R_eq ?_⟩
    simpa using he
  · intro k x r hk hlt hg ih y he
    refine i_wordsIn_v2 (fun r' => r' = i_wordsIn_R (m_wordsIn rows)) rows _ _ ⟨fun _ => ?_, fun h => by simp at h; omega⟩
    rw [Int.toNat_natCast, hg, w64_ok (x := (k : Int) + 1) (by omega) (by omega), w64_add_l]
    refine ⟨⟨by omega, hlt⟩, ih _ ?_⟩
    rw [← he, List.map_cons, List.sum_cons, Int.add_assoc]

theorem i_wordsIn_ok : TRowOk Try.prog i_wordsIn_row := rowOk fun x _ => i_wordsIn_h x.1

def i_Ledger_R (t : Int) : TRes := ⟨(.c TI t), [], [], false⟩
def i_Ledger_row : TRow := mkRow 79 [(.a ctStage)] fun x => (none, i_Ledger_R (m_ledger x.1))
def i_Ledger_C : Prop := ∀ (x0 : TStage), TCon Try.prog 79 [(.a (Tup.cells ctStage x0))] (i_Ledger_R (m_ledger x0))

/-! impl.Ledger -/
def i_Ledger_G : List TRow := [i_wordsIn_row]
def i_Ledger_b2 : TCode :=
  (.seq (.reg [.op (some 29) (.bin .lss (.s 28) (.s 27))])
 (.seq (.cond (.s 29) .skip (.exit 0))
  (.seq (.block 1 (.seq (.reg [.op (some 30) (.iad (.s 26) (.s 28) ctSaved),
        .op (some 31) (.load (.s 30) 2 true),
        .op (some 5) (.new 140 [(.c TI (0 : Int)), (.n [(.sl [TI])])]),
        .op none (.store (.s 5) (.s 31) 2)])
     (.reg [.op (some 32) (.mov (.s 3)),
        .op (some 33) (.fad (.s 5) 1),
        .op (some 34) (.load (.s 33) 1 false),
        .op (some 35) (.call 147 [(.s 34)]),
        .op (some 36) (.bin .add (.s 32) (.s 35)),
        .op (some 3) (.mov (.s 36))])))
   (.reg [.op (some 37) (.bin .add (.s 28) (.k (.c TI (1 : Int)))),
      .op (some 28) (.mov (.s 37))]))))
def i_Ledger_L2 : List (Nat × Md) := [(3, .one .d), (26, .one .d), (27, .one .d), (28, .one .d)]
def i_Ledger_y1 : TCode :=
  (.seq (.reg [.op (some 38) (.mov (.s 3)),
    .op (some 2) (.mov (.s 38))])
 .ret)
def i_Ledger_c : TCode :=
  (.seq (.reg [.op (some 1) (.box 100 (.s 0) 14),
    .op (some 2) (.mov (.k (.c TI (0 : Int))))])
 (.seq (.draw [.op (some 6) (.fad (.s 1) 7),
     .op (some 7) (.load (.s 6) 1 false),
     .op (some 8) (.len (.s 7)),
     .op (some 9) (.fad (.s 1) 8),
     .op (some 10) (.load (.s 9) 1 false),
     .op (some 11) (.len (.s 10)),
     .op (some 12) (.bin .add (.s 8) (.s 11)),
     .op (some 13) (.fad (.s 1) 9),
     .op (some 14) (.load (.s 13) 1 false),
     .op (some 15) (.len (.s 14)),
     .op (some 16) (.bin .add (.s 12) (.s 15)),
     .op (some 17) (.fad (.s 1) 10),
     .op (some 18) (.load (.s 17) 1 false),
     .op (some 19) (.len (.s 18)),
     .op (some 20) (.bin .add (.s 16) (.s 19)),
     .op (some 21) (.fad (.s 1) 6),
     .op (some 22) (.load (.s 21) 1 false),
     .op (some 23) (.call 147 [(.s 22)]),
     .op (some 24) (.bin .add (.s 20) (.s 23)),
     .op (some 3) (.mov (.s 24))] [(0, 17), (1, 17), (2, 17), (3, 17), (4, 17), (5, 17), (7, 17), (8, 17), (9, 17), (11, 17), (12, 17), (13, 17)])
  (.seq (.seq (.reg [.op (some 25) (.fad (.s 1) 5),
       .op (some 26) (.load (.s 25) 1 false),
       .op (some 27) (.len (.s 26)),
       .op (some 28) (.mov (.k (.c TI (0 : Int))))])
    (.block 0 (.loop i_Ledger_L2 i_Ledger_b2)))
   i_Ledger_y1)))
def i_Ledger_rs : List (ARv × Md) := [(.t 2, .one .d)]
theorem i_Ledger_st : compF Try.prog 79 = some (i_Ledger_c.er, i_Ledger_rs.map Prod.fst, 39) := by kernel_rfl
def i_Ledger_Q (K : TRes → Prop) : TPost := TQ 0 i_Ledger_rs K
def i_Ledger_q1 (K : TRes → Prop) : TPost := Qseq (tawp i_Ledger_G 0 i_Ledger_y1 (i_Ledger_Q K)) (i_Ledger_Q K)
def i_Ledger_q2 (K : TRes → Prop) : TPost := Qblk 0 (i_Ledger_q1 K)
def i_Ledger_A2 (K : TRes → Prop) (s : TStage) (n : Int) (x : Int) : Prop := Loop i_Ledger_G 0 i_Ledger_L2 i_Ledger_b2 (i_Ledger_q2 K) ⟨[(3, (.c TI n)), (26, (.c (.sl ctSaved) s.2.2.2.2.2.1)), (27, (.c TI ((s.2.2.2.2.2.1).length : Int))), (28, (.c TI x))], [], 0⟩
theorem i_Ledger_v2 (K : TRes → Prop) (s : TStage) (n : Int) (x : Int) (h :
  (((decide (x < ((s.2.2.2.2.2.1).length : Int))) = true → (((0 : Int) ≤ x ∧ Int.toNat x < (s.2.2.2.2.2.1).length) ∧ (i_Ledger_A2 K s (w64 (n + (m_wordsIn ((gtd dSaved s.2.2.2.2.2.1 (Int.toNat x)).2)))) (w64 (x + (1 : Int)))))) ∧ ((decide (x < ((s.2.2.2.2.2.1).length : Int))) = false → K (i_Ledger_R n)))) : i_Ledger_A2 K s n x :=
  Loop.of (by kernel_rfl) h
theorem i_Ledger_v0 (K : TRes → Prop) (s : TStage) (h :
  (i_Ledger_A2 K s (w64 ((w64 ((w64 ((w64 (((s.2.2.2.2.2.2.2.1).length : Int) + ((s.2.2.2.2.2.2.2.2.1).length : Int))) + ((s.2.2.2.2.2.2.2.2.2.1).length : Int))) + ((s.2.2.2.2.2.2.2.2.2.2.1).length : Int))) + (m_wordsIn s.2.2.2.2.2.2.1))) (0 : Int))) : Hold (tawp i_Ledger_G 0 i_Ledger_c (TQ 0 i_Ledger_rs K) (tstart [(.a (Tup.cells ctStage s))])) :=
  Hold.of (by kernel_rfl) h
theorem i_Ledger_t (s : TStage) (r : TRes) (h : Hold (tawp i_Ledger_G 0 i_Ledger_c (TQ 0 i_Ledger_rs fun r' => r' = r) (tstart [(.a (Tup.cells ctStage s))]))) : TCon Try.prog 79 [(.a (Tup.cells ctStage s))] r :=
  tcon_gen (sg := [(.a ctStage)]) mixed (TOk.cons i_wordsIn_ok TOk.nil) i_Ledger_st (by kernel_rfl) (by kernel_rfl) (by kernel_rfl) h
theorem i_Ledger_h : i_Ledger_C := by
  intro s
  refine tcon_bd rfl fun hb => i_Ledger_t s _ (i_Ledger_v0 _ s ?_)
  have hl_s_1 : (s.2.1).length ≤ 9223372036854775807 := hb.1.2.1.1
  have hl_s_2 : (s.2.2.1).length ≤ 9223372036854775807 := hb.1.2.2.1.1
  have hl_s_5 : (s.2.2.2.2.2.1).length ≤ 9223372036854775807 := hb.1.2.2.2.2.2.1.1
  have hl_s_6 : (s.2.2.2.2.2.2.1).length ≤ 9223372036854775807 := hb.1.2.2.2.2.2.2.1.1
  have hl_s_7 : (s.2.2.2.2.2.2.2.1).length ≤ 9223372036854775807 := hb.1.2.2.2.2.2.2.2.1.1
  have hl_s_8 : (s.2.2.2.2.2.2.2.2.1).length ≤ 9223372036854775807 := hb.1.2.2.2.2.2.2.2.2.1.1
  have hl_s_9 : (s.2.2.2.2.2.2.2.2.2.1).length ≤ 9223372036854775807 := hb.1.2.2.2.2.2.2.2.2.2.1.1
  have hl_s_10 : (s.2.2.2.2.2.2.2.2.2.2.1).length ≤ 9223372036854775807 := hb.1.2.2.2.2.2.2.2.2.2.2.1.1
  have hl_s_11 : (s.2.2.2.2.2.2.2.2.2.2.2.1).length ≤ 9223372036854775807 := hb.1.2.2.2.2.2.2.2.2.2.2.2.1.1
  simp only [m_wordsIn, w64_add_l, w64_add_r]
  refine listLoop s.2.2.2.2.2.1 (fun r k => ∀ y : Int, w64 (y + (r.map fun x => (x.2.map fun r => (r.length : Int)).sum).sum) = (m_ledger s) → i_Ledger_A2 (fun r' => r' = i_Ledger_R (m_ledger s)) s (w64 y) k) ?_ ?_ _ rfl
  · intro y he
    refine i_Ledger_v2 (fun r' => r' = i_Ledger_R (m_ledger s)) s _ _ ⟨fun h => by simp at h, fun _ => R_eq ?_⟩
    simpa using he
  · intro k x r hk hlt hg ih y he
    refine i_Ledger_v2 (fun r' => r' = i_Ledger_R (m_ledger s)) s _ _ ⟨fun _ => ?_, fun h => by simp at h; omega⟩
    rw [Int.toNat_natCast, hg, w64_ok (x := (k : Int) + 1) (by omega) (by omega)]
    simp only [m_wordsIn, w64_add_l, w64_add_r]
    refine ⟨⟨by omega, hlt⟩, ih _ ?_⟩
    rw [← he, List.map_cons, List.sum_cons, Int.add_assoc]

theorem i_Ledger_ok : TRowOk Try.prog i_Ledger_row := rowOk fun x _ => i_Ledger_h x.1

def s_Ledger_R (t : Int) : TRes := ⟨(.c TI t), [], [], false⟩
def s_Ledger_row : TRow := mkRow 77 [(.a ctStage)] fun x => (none, s_Ledger_R (m_ledger x.1))
def s_Ledger_C : Prop := ∀ (x0 : TStage), TCon Try.prog 77 [(.a (Tup.cells ctStage x0))] (s_Ledger_R (m_ledger x0))

/-! spec.Ledger -/
def s_Ledger_G : List TRow := []
def s_Ledger_b4 : TCode :=
  (.seq (.seq (.reg [.op (some 29) (.mov (.s 5)),
     .op (some 30) (.fad (.s 1) 5),
     .op (some 31) (.load (.s 30) 1 false),
     .op (some 32) (.mov (.s 4)),
     .op (some 33) (.iad (.s 31) (.s 32) ctSaved),
     .op (some 34) (.fad (.s 33) 1),
     .op (some 35) (.load (.s 34) 1 false),
     .op (some 36) (.len (.s 35)),
     .op (some 37) (.bin .lss (.s 29) (.s 36))])
  (.cond (.s 37) .skip (.exit 2)))
 (.seq (.block 3 (.reg [.op (some 40) (.mov (.s 3)),
      .op (some 41) (.fad (.s 1) 5),
      .op (some 42) (.load (.s 41) 1 false),
      .op (some 43) (.mov (.s 4)),
      .op (some 44) (.iad (.s 42) (.s 43) ctSaved),
      .op (some 45) (.fad (.s 44) 1),
      .op (some 46) (.load (.s 45) 1 false),
      .op (some 47) (.mov (.s 5)),
      .op (some 48) (.iad (.s 46) (.s 47) [(.sl [TI])]),
      .op (some 49) (.fad (.s 48) 0),
      .op (some 50) (.load (.s 49) 1 false),
      .op (some 51) (.len (.s 50)),
      .op (some 52) (.bin .add (.s 40) (.s 51)),
      .op (some 3) (.mov (.s 52))]))
  (.reg [.op (some 38) (.mov (.s 5)),
     .op (some 39) (.bin .add (.s 38) (.k (.c TI (1 : Int)))),
     .op (some 5) (.mov (.s 39))])))
def s_Ledger_L4 : List (Nat × Md) := [(1, .b [.d, .d, .d, .d, .d, .d, .d, .d, .d, .d, .d, .d, .d, .d]), (3, .one .d), (4, .one .d), (5, .one .d)]
def s_Ledger_y3 : TCode :=
  (.reg [.op (some 27) (.mov (.s 4)),
   .op (some 28) (.bin .add (.s 27) (.k (.c TI (1 : Int)))),
   .op (some 4) (.mov (.s 28))])
def s_Ledger_b2 : TCode :=
  (.seq (.seq (.reg [.op (some 22) (.mov (.s 4)),
     .op (some 23) (.fad (.s 1) 5),
     .op (some 24) (.load (.s 23) 1 false),
     .op (some 25) (.len (.s 24)),
     .op (some 26) (.bin .lss (.s 22) (.s 25))])
  (.cond (.s 26) .skip (.exit 0)))
 (.seq (.block 1 (.seq (.reg [.op (some 5) (.mov (.k (.c TI (0 : Int))))])
    (.block 2 (.loop s_Ledger_L4 s_Ledger_b4))))
  s_Ledger_y3))
def s_Ledger_L2 : List (Nat × Md) := [(1, .b [.d, .d, .d, .d, .d, .d, .d, .d, .d, .d, .d, .d, .d, .d]), (3, .one .d), (4, .one .d)]
def s_Ledger_b6 : TCode :=
  (.seq (.seq (.reg [.op (some 53) (.mov (.s 6)),
     .op (some 54) (.fad (.s 1) 6),
     .op (some 55) (.load (.s 54) 1 false),
     .op (some 56) (.len (.s 55)),
     .op (some 57) (.bin .lss (.s 53) (.s 56))])
  (.cond (.s 57) .skip (.exit 4)))
 (.seq (.block 5 (.reg [.op (some 60) (.mov (.s 3)),
      .op (some 61) (.fad (.s 1) 6),
      .op (some 62) (.load (.s 61) 1 false),
      .op (some 63) (.mov (.s 6)),
      .op (some 64) (.iad (.s 62) (.s 63) [(.sl [TI])]),
      .op (some 65) (.fad (.s 64) 0),
      .op (some 66) (.load (.s 65) 1 false),
      .op (some 67) (.len (.s 66)),
      .op (some 68) (.bin .add (.s 60) (.s 67)),
      .op (some 3) (.mov (.s 68))]))
  (.reg [.op (some 58) (.mov (.s 6)),
     .op (some 59) (.bin .add (.s 58) (.k (.c TI (1 : Int)))),
     .op (some 6) (.mov (.s 59))])))
def s_Ledger_L6 : List (Nat × Md) := [(1, .b [.d, .d, .d, .d, .d, .d, .d, .d, .d, .d, .d, .d, .d, .d]), (3, .one .d), (6, .one .d)]
def s_Ledger_y5 : TCode :=
  (.seq (.reg [.op (some 69) (.mov (.s 3)),
    .op (some 2) (.mov (.s 69))])
 .ret)
def s_Ledger_y1 : TCode :=
  (.seq (.seq (.reg [.op (some 6) (.mov (.k (.c TI (0 : Int))))])
  (.block 4 (.loop s_Ledger_L6 s_Ledger_b6)))
 s_Ledger_y5)
def s_Ledger_c : TCode :=
  (.seq (.reg [.op (some 1) (.box 100 (.s 0) 14),
    .op (some 2) (.mov (.k (.c TI (0 : Int))))])
 (.seq (.reg [.op (some 7) (.fad (.s 1) 7),
     .op (some 8) (.load (.s 7) 1 false),
     .op (some 9) (.len (.s 8)),
     .op (some 10) (.fad (.s 1) 8),
     .op (some 11) (.load (.s 10) 1 false),
     .op (some 12) (.len (.s 11)),
     .op (some 13) (.bin .add (.s 9) (.s 12)),
     .op (some 14) (.fad (.s 1) 9),
     .op (some 15) (.load (.s 14) 1 false),
     .op (some 16) (.len (.s 15)),
     .op (some 17) (.bin .add (.s 13) (.s 16)),
     .op (some 18) (.fad (.s 1) 10),
     .op (some 19) (.load (.s 18) 1 false),
     .op (some 20) (.len (.s 19)),
     .op (some 21) (.bin .add (.s 17) (.s 20)),
     .op (some 3) (.mov (.s 21))])
  (.seq (.seq (.reg [.op (some 4) (.mov (.k (.c TI (0 : Int))))])
    (.block 0 (.loop s_Ledger_L2 s_Ledger_b2)))
   s_Ledger_y1)))
def s_Ledger_rs : List (ARv × Md) := [(.t 2, .one .d)]
theorem s_Ledger_st : compF Try.prog 77 = some (s_Ledger_c.er, s_Ledger_rs.map Prod.fst, 70) := by kernel_rfl
def s_Ledger_Q (K : TRes → Prop) : TPost := TQ 0 s_Ledger_rs K
def s_Ledger_q1 (K : TRes → Prop) : TPost := Qseq (tawp s_Ledger_G 0 s_Ledger_y1 (s_Ledger_Q K)) (s_Ledger_Q K)
def s_Ledger_q2 (K : TRes → Prop) : TPost := Qblk 0 (s_Ledger_q1 K)
def s_Ledger_q3 (K : TRes → Prop) : TPost := Qseq (fun s' => Loop s_Ledger_G 0 s_Ledger_L2 s_Ledger_b2 (s_Ledger_q2 K) (gc 0 s_Ledger_L2 s')) (s_Ledger_q2 K)
def s_Ledger_q4 (K : TRes → Prop) : TPost := Qseq (tawp s_Ledger_G 0 s_Ledger_y3 (s_Ledger_q3 K)) (s_Ledger_q3 K)
def s_Ledger_q5 (K : TRes → Prop) : TPost := Qblk 1 (s_Ledger_q4 K)
def s_Ledger_q6 (K : TRes → Prop) : TPost := Qblk 2 (s_Ledger_q5 K)
def s_Ledger_A4 (K : TRes → Prop) (s : TStage) (n : Int) (k : Int) (i : Int) : Prop := Loop s_Ledger_G 0 s_Ledger_L4 s_Ledger_b4 (s_Ledger_q6 K) ⟨[(1, (.p 0 0 0)), (3, (.c TI n)), (4, (.c TI i)), (5, (.c TI k))], [(0, (.box [(.c TI s.1), (.c (.sl ctIns) s.2.1), (.c (.sl ctOp) s.2.2.1), (.c .bool s.2.2.2.1), (.c .bool s.2.2.2.2.1), (.c (.sl ctSaved) s.2.2.2.2.2.1), (.c (.sl [(.sl [TI])]) s.2.2.2.2.2.2.1), (.c (.sl [TI]) s.2.2.2.2.2.2.2.1), (.c (.sl [TI]) s.2.2.2.2.2.2.2.2.1), (.c (.sl [TI]) s.2.2.2.2.2.2.2.2.2.1), (.c (.sl [TI]) s.2.2.2.2.2.2.2.2.2.2.1), (.c (.sl [(.sl [TI])]) s.2.2.2.2.2.2.2.2.2.2.2.1), (.c TI s.2.2.2.2.2.2.2.2.2.2.2.2.1), (.c .bool s.2.2.2.2.2.2.2.2.2.2.2.2.2)]))], 1⟩
def s_Ledger_q7 (K : TRes → Prop) : TPost := Qseq (tawp s_Ledger_G 0 s_Ledger_y5 (s_Ledger_Q K)) (s_Ledger_Q K)
def s_Ledger_q8 (K : TRes → Prop) : TPost := Qblk 4 (s_Ledger_q7 K)
def s_Ledger_A6 (K : TRes → Prop) (s : TStage) (n2 : Int) (k1 : Int) : Prop := Loop s_Ledger_G 0 s_Ledger_L6 s_Ledger_b6 (s_Ledger_q8 K) ⟨[(1, (.p 0 0 0)), (3, (.c TI n2)), (6, (.c TI k1))], [(0, (.box [(.c TI s.1), (.c (.sl ctIns) s.2.1), (.c (.sl ctOp) s.2.2.1), (.c .bool s.2.2.2.1), (.c .bool s.2.2.2.2.1), (.c (.sl ctSaved) s.2.2.2.2.2.1), (.c (.sl [(.sl [TI])]) s.2.2.2.2.2.2.1), (.c (.sl [TI]) s.2.2.2.2.2.2.2.1), (.c (.sl [TI]) s.2.2.2.2.2.2.2.2.1), (.c (.sl [TI]) s.2.2.2.2.2.2.2.2.2.1), (.c (.sl [TI]) s.2.2.2.2.2.2.2.2.2.2.1), (.c (.sl [(.sl [TI])]) s.2.2.2.2.2.2.2.2.2.2.2.1), (.c TI s.2.2.2.2.2.2.2.2.2.2.2.2.1), (.c .bool s.2.2.2.2.2.2.2.2.2.2.2.2.2)]))], 1⟩
def s_Ledger_A2 (K : TRes → Prop) (s : TStage) (n1 : Int) (i : Int) : Prop := Loop s_Ledger_G 0 s_Ledger_L2 s_Ledger_b2 (s_Ledger_q2 K) ⟨[(1, (.p 0 0 0)), (3, (.c TI n1)), (4, (.c TI i))], [(0, (.box [(.c TI s.1), (.c (.sl ctIns) s.2.1), (.c (.sl ctOp) s.2.2.1), (.c .bool s.2.2.2.1), (.c .bool s.2.2.2.2.1), (.c (.sl ctSaved) s.2.2.2.2.2.1), (.c (.sl [(.sl [TI])]) s.2.2.2.2.2.2.1), (.c (.sl [TI]) s.2.2.2.2.2.2.2.1), (.c (.sl [TI]) s.2.2.2.2.2.2.2.2.1), (.c (.sl [TI]) s.2.2.2.2.2.2.2.2.2.1), (.c (.sl [TI]) s.2.2.2.2.2.2.2.2.2.2.1), (.c (.sl [(.sl [TI])]) s.2.2.2.2.2.2.2.2.2.2.2.1), (.c TI s.2.2.2.2.2.2.2.2.2.2.2.2.1), (.c .bool s.2.2.2.2.2.2.2.2.2.2.2.2.2)]))], 1⟩
theorem s_Ledger_v4 (K : TRes → Prop) (s : TStage) (n : Int) (k : Int) (i : Int) (h :
  (((0 : Int) ≤ i ∧ Int.toNat i < (s.2.2.2.2.2.1).length) ∧ (((decide (k < (((gtd dSaved s.2.2.2.2.2.1 (Int.toNat i)).2).length : Int))) = true → ((((0 : Int) ≤ i ∧ Int.toNat i < (s.2.2.2.2.2.1).length) ∧ ((0 : Int) ≤ k ∧ Int.toNat k < ((gtd dSaved s.2.2.2.2.2.1 (Int.toNat i)).2).length)) ∧ (s_Ledger_A4 K s (w64 (n + ((gtd ([] : List Int) ((gtd dSaved s.2.2.2.2.2.1 (Int.toNat i)).2) (Int.toNat k)).length : Int))) (w64 (k + (1 : Int))) i))) ∧ ((decide (k < (((gtd dSaved s.2.2.2.2.2.1 (Int.toNat i)).2).length : Int))) = false → (s_Ledger_A2 K s n (w64 (i + (1 : Int)))))))) : s_Ledger_A4 K s n k i :=
  Loop.of (by kernel_rfl) h
theorem s_Ledger_v6 (K : TRes → Prop) (s : TStage) (n2 : Int) (k1 : Int) (h :
  (((decide (k1 < ((s.2.2.2.2.2.2.1).length : Int))) = true → (((0 : Int) ≤ k1 ∧ Int.toNat k1 < (s.2.2.2.2.2.2.1).length) ∧ (s_Ledger_A6 K s (w64 (n2 + ((gtd ([] : List Int) s.2.2.2.2.2.2.1 (Int.toNat k1)).length : Int))) (w64 (k1 + (1 : Int)))))) ∧ ((decide (k1 < ((s.2.2.2.2.2.2.1).length : Int))) = false → K (s_Ledger_R n2)))) : s_Ledger_A6 K s n2 k1 :=
  Loop.of (by kernel_rfl) h
theorem s_Ledger_v2 (K : TRes → Prop) (s : TStage) (n1 : Int) (i : Int) (h :
  (((decide (i < ((s.2.2.2.2.2.1).length : Int))) = true → (s_Ledger_A4 K s n1 (0 : Int) i)) ∧ ((decide (i < ((s.2.2.2.2.2.1).length : Int))) = false → (s_Ledger_A6 K s n1 (0 : Int))))) : s_Ledger_A2 K s n1 i :=
  Loop.of (by kernel_rfl) h
theorem s_Ledger_v0 (K : TRes → Prop) (s : TStage) (h :
  (s_Ledger_A2 K s (w64 ((w64 ((w64 (((s.2.2.2.2.2.2.2.1).length : Int) + ((s.2.2.2.2.2.2.2.2.1).length : Int))) + ((s.2.2.2.2.2.2.2.2.2.1).length : Int))) + ((s.2.2.2.2.2.2.2.2.2.2.1).length : Int))) (0 : Int))) : Hold (tawp s_Ledger_G 0 s_Ledger_c (TQ 0 s_Ledger_rs K) (tstart [(.a (Tup.cells ctStage s))])) :=
  Hold.of (by kernel_rfl) h
theorem s_Ledger_t (s : TStage) (r : TRes) (h : Hold (tawp s_Ledger_G 0 s_Ledger_c (TQ 0 s_Ledger_rs fun r' => r' = r) (tstart [(.a (Tup.cells ctStage s))]))) : TCon Try.prog 77 [(.a (Tup.cells ctStage s))] r :=
  tcon_gen (sg := [(.a ctStage)]) mixed TOk.nil s_Ledger_st (by kernel_rfl) (by kernel_rfl) (by kernel_rfl) h
theorem s_Ledger_h : s_Ledger_C := by
  intro s
  refine tcon_bd rfl fun hb => s_Ledger_t s _ (s_Ledger_v0 _ s ?_)
  have hl_s_1 : (s.2.1).length ≤ 9223372036854775807 := hb.1.2.1.1
  have hl_s_2 : (s.2.2.1).length ≤ 9223372036854775807 := hb.1.2.2.1.1
  have hl_s_5 : (s.2.2.2.2.2.1).length ≤ 9223372036854775807 := hb.1.2.2.2.2.2.1.1
  have hl_s_6 : (s.2.2.2.2.2.2.1).length ≤ 9223372036854775807 := hb.1.2.2.2.2.2.2.1.1
  have hl_s_7 : (s.2.2.2.2.2.2.2.1).length ≤ 9223372036854775807 := hb.1.2.2.2.2.2.2.2.1.1
  have hl_s_8 : (s.2.2.2.2.2.2.2.2.1).length ≤ 9223372036854775807 := hb.1.2.2.2.2.2.2.2.2.1.1
  have hl_s_9 : (s.2.2.2.2.2.2.2.2.2.1).length ≤ 9223372036854775807 := hb.1.2.2.2.2.2.2.2.2.2.1.1
  have hl_s_10 : (s.2.2.2.2.2.2.2.2.2.2.1).length ≤ 9223372036854775807 := hb.1.2.2.2.2.2.2.2.2.2.2.1.1
  have hl_s_11 : (s.2.2.2.2.2.2.2.2.2.2.2.1).length ≤ 9223372036854775807 := hb.1.2.2.2.2.2.2.2.2.2.2.2.1.1
  simp only [w64_add_l]
  have full : ∀ y : Int, w64 (y + (s.2.2.2.2.2.2.1.map fun r => (r.length : Int)).sum) = (m_ledger s) → s_Ledger_A6 (fun r' => r' = s_Ledger_R (m_ledger s)) s (w64 y) 0 := by
    refine listLoop s.2.2.2.2.2.2.1 (fun r k => ∀ y : Int, w64 (y + (r.map fun r => (r.length : Int)).sum) = (m_ledger s) → s_Ledger_A6 (fun r' => r' = s_Ledger_R (m_ledger s)) s (w64 y) k) ?_ ?_
    · intro y he
      refine s_Ledger_v6 (fun r' => r' = s_Ledger_R (m_ledger s)) s _ _ ⟨fun h => by simp at h, fun _ => R_eq ?_⟩
      simpa using he
    · intro k x r hk hlt hg ih y he
      refine s_Ledger_v6 (fun r' => r' = s_Ledger_R (m_ledger s)) s _ _ ⟨fun _ => ?_, fun h => by simp at h; omega⟩
      rw [Int.toNat_natCast, hg, w64_ok (x := (k : Int) + 1) (by omega) (by omega), w64_add_l]
      refine ⟨⟨by omega, hlt⟩, ih _ ?_⟩
      rw [← he, List.map_cons, List.sum_cons, Int.add_assoc]
  refine listLoop s.2.2.2.2.2.1 (fun r k => ∀ y : Int, w64 (y + (r.map fun x => (x.2.map fun r => (r.length : Int)).sum).sum + (s.2.2.2.2.2.2.1.map fun r => (r.length : Int)).sum) = (m_ledger s) → s_Ledger_A2 (fun r' => r' = s_Ledger_R (m_ledger s)) s (w64 y) k) ?_ ?_ _ (by unfold m_ledger; congr 1; omega)
  · intro y he
    refine s_Ledger_v2 (fun r' => r' = s_Ledger_R (m_ledger s)) s _ _ ⟨fun h => by simp at h, fun _ => full y ?_⟩
    simpa using he
  · intro k x r hk hlt hg ih y he
    have inner : ∀ (q : List (List Int)) (j : Nat), x.2.drop j = q → j ≤ x.2.length → ∀ y : Int, w64 (y + (q.map fun r => (r.length : Int)).sum + (r.map fun x => (x.2.map fun r => (r.length : Int)).sum).sum + (s.2.2.2.2.2.2.1.map fun r => (r.length : Int)).sum) = (m_ledger s) → s_Ledger_A4 (fun r' => r' = s_Ledger_R (m_ledger s)) s (w64 y) j k := by
      intro q
      induction q with
      | nil =>
        intro j hj hle y he
        have : x.2.length ≤ j := by simpa using hj
        refine s_Ledger_v4 (fun r' => r' = s_Ledger_R (m_ledger s)) s _ _ _ ⟨⟨by omega, by rw [Int.toNat_natCast]; exact hlt⟩, fun h => ?_, fun _ => ?_⟩
        · rw [Int.toNat_natCast, hg] at h; simp at h; omega
        · rw [w64_ok (x := (k : Int) + 1) (by omega) (by omega)]
          exact ih y (by simpa using he)
      | cons z q ihq =>
        intro j hj hle y he
        have hjl := lt_of_drop hj
        have hb2 : x.2.length ≤ 9223372036854775807 := by
          have hmem : x ∈ s.2.2.2.2.2.1 := List.mem_of_mem_drop (i := k) (by rw [hk]; exact List.mem_cons_self)
          have hm := hb.1.2.2.2.2.2.1.2 x hmem
          exact hm.2.1.1
        refine s_Ledger_v4 (fun r' => r' = s_Ledger_R (m_ledger s)) s _ _ _ ⟨⟨by omega, by rw [Int.toNat_natCast]; exact hlt⟩, fun _ => ?_, fun h => ?_⟩
        · rw [Int.toNat_natCast, Int.toNat_natCast, hg, gtd_drop hj, w64_ok (x := (j : Int) + 1) (by omega) (by omega), w64_add_l]
          refine ⟨⟨⟨by omega, hlt⟩, by omega, hjl⟩, ihq (j + 1) (drop_succ hj) hjl _ ?_⟩
          rw [← he, List.map_cons, List.sum_cons]
          congr 1
          omega
        · rw [Int.toNat_natCast, hg] at h; simp at h; omega
    refine s_Ledger_v2 (fun r' => r' = s_Ledger_R (m_ledger s)) s _ _ ⟨fun _ => ?_, fun h => by simp at h; omega⟩
    refine inner x.2 0 rfl (Nat.zero_le _) y ?_
    rw [← he, List.map_cons, List.sum_cons]
    congr 1
    omega

theorem s_Ledger_ok : TRowOk Try.prog s_Ledger_row := rowOk fun x _ => s_Ledger_h x.1

end
end Go.Proofs.Ytpnblnkggeopkaa.Am
