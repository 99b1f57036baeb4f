/-
  Written by program: the code of functions, what it asks, and that it comes to what the models say.
-/
import Derived.Test.YtpnblnkggeopkaaH1
namespace Go.Proofs.Ytpnblnkggeopkaa.Am
open Go Go.RowKit Go.Proofs.Ytpnblnkggeopkaa
set_option linter.unusedVariables false
set_option linter.unusedSimpArgs false
noncomputable section

def l_szItem_R (t : Int) : TRes := ⟨(.c TI t), [], [], false⟩
def l_szItem_row : TRow := mkRow 175 [(.a ctItem), (.c TI)] fun x => (some (p_sz (α := TItem) x.1 x.2.1), l_szItem_R (m_sz (α := TItem) x.1 x.2.1))
def l_szItem_C : Prop := ∀ (x0 : TItem) (x1 : Int), (p_sz (α := TItem) x0 x1) → TCon Try.prog 175 [(.a [(.c TI x0.1), (.c (.sl [TI]) x0.2)]), (.c TI x1)] (l_szItem_R (m_sz (α := TItem) x0 x1))

/-! laws.szItem -/
def l_szItem_G : List TRow := [l_szIntS_row]
def l_szItem_c : TCode :=
  (.seq (.reg [.op (some 2) (.box 202 (.s 0) 2),
    .op (some 4) (.mov (.k (.c TI (0 : Int))))])
 (.seq (.reg [.op (some 5) (.fad (.s 2) 1),
     .op (some 6) (.load (.s 5) 1 false),
     .op (some 7) (.mov (.s 1)),
     .op (some 8) (.call 118 [(.s 6), (.s 7)]),
     .op (some 1) (.mov (.s 8))])
  (.seq (.seq (.reg [.op (some 9) (.mov (.s 1)),
       .op (some 10) (.bin .lss (.s 9) (.k (.c TI (0 : Int))))])
    (.cond (.s 10) (.seq (.reg [.op (some 4) (.mov (.k (.c TI (-1 : Int))))])
      .ret) .skip))
   (.seq (.reg [.op (some 11) (.mov (.s 1)),
       .op (some 4) (.mov (.s 11))])
    .ret))))
def l_szItem_rs : List (ARv × Md) := [(.t 4, .one .d)]
theorem l_szItem_st : compF Try.prog 175 = some (l_szItem_c.er, l_szItem_rs.map Prod.fst, 12) := by kernel_rfl
def l_szItem_Q (K : TRes → Prop) : TPost := TQ 0 l_szItem_rs K
theorem l_szItem_v0 (K : TRes → Prop) (a : TItem) (left : Int) (h :
  ((p_sz (α := List Int) a.2 left) ∧ (((decide ((m_sz (α := List Int) a.2 left) < (0 : Int))) = true → K (l_szItem_R (-1 : Int))) ∧ ((decide ((m_sz (α := List Int) a.2 left) < (0 : Int))) = false → K (l_szItem_R (m_sz (α := List Int) a.2 left)))))) : Hold (tawp l_szItem_G 0 l_szItem_c (TQ 0 l_szItem_rs K) (tstart [(.a [(.c TI a.1), (.c (.sl [TI]) a.2)]), (.c TI left)])) :=
  Hold.of (by kernel_rfl) h
theorem l_szItem_t (a : TItem) (left : Int) (r : TRes) (h : Hold (tawp l_szItem_G 0 l_szItem_c (TQ 0 l_szItem_rs fun r' => r' = r) (tstart [(.a [(.c TI a.1), (.c (.sl [TI]) a.2)]), (.c TI left)]))) : TCon Try.prog 175 [(.a [(.c TI a.1), (.c (.sl [TI]) a.2)]), (.c TI left)] r :=
  tcon_gen (sg := [(.a ctItem), (.c TI)]) mixed (TOk.cons l_szIntS_ok TOk.nil) l_szItem_st (by kernel_rfl) (by kernel_rfl) (by kernel_rfl) h
theorem l_szItem_h : l_szItem_C := by
  intro a left hp
  refine tcon_bd rfl fun hb => l_szItem_t a left _ (l_szItem_v0 _ a left ?_)
  refine ⟨hp, fun h => R_eq (sz_neg (of_decide_eq_true h) (by first | omega | (simp only [sz_prod, sz_int, sz_bool]; omega)) hp.1), fun h => ?_⟩
  exact R_eq (congrArg (m_szN · _) (by first | rfl | omega | (simp only [sz_prod, sz_int, sz_bool]; omega)))

theorem l_szItem_ok : TRowOk Try.prog l_szItem_row := rowOk fun x h => l_szItem_h x.1 x.2.1 h

def l_szItemS_R (t : Int) : TRes := ⟨(.c TI t), [], [], false⟩
def l_szItemS_row : TRow := mkRow 119 [(.c (.sl ctItem)), (.c TI)] fun x => (some (p_sz (α := List TItem) x.1 x.2.1), l_szItemS_R (m_sz (α := List TItem) x.1 x.2.1))
def l_szItemS_C : Prop := ∀ (x0 : List TItem) (x1 : Int), (p_sz (α := List TItem) x0 x1) → TCon Try.prog 119 [(.c (.sl ctItem) x0), (.c TI x1)] (l_szItemS_R (m_sz (α := List TItem) x0 x1))

/-! laws.szItemS -/
def l_szItemS_G : List TRow := [l_szItem_row]
def l_szItemS_b2 : TCode :=
  (.seq (.seq (.reg [.op (some 12) (.mov (.s 5)),
     .op (some 13) (.mov (.s 0)),
     .op (some 14) (.len (.s 13)),
     .op (some 15) (.bin .lss (.s 12) (.s 14))])
  (.cond (.s 15) .skip (.exit 0)))
 (.seq (.block 1 (.seq (.reg [.op (some 18) (.mov (.s 0)),
       .op (some 19) (.mov (.s 5)),
       .op (some 20) (.iad (.s 18) (.s 19) ctItem),
       .op (some 21) (.load (.s 20) 2 true),
       .op (some 22) (.mov (.s 1)),
       .op (some 23) (.call 175 [(.s 21), (.s 22)]),
       .op (some 1) (.mov (.s 23))])
    (.seq (.reg [.op (some 24) (.mov (.s 1)),
        .op (some 25) (.bin .lss (.s 24) (.k (.c TI (0 : Int))))])
     (.cond (.s 25) (.seq (.reg [.op (some 4) (.mov (.k (.c TI (-1 : Int))))])
       .ret) .skip))))
  (.reg [.op (some 16) (.mov (.s 5)),
     .op (some 17) (.bin .add (.s 16) (.k (.c TI (1 : Int)))),
     .op (some 5) (.mov (.s 17))])))
def l_szItemS_L2 : List (Nat × Md) := [(0, .one .d), (1, .one .d), (5, .one .d)]
def l_szItemS_y1 : TCode :=
  (.seq (.reg [.op (some 26) (.mov (.s 1)),
    .op (some 4) (.mov (.s 26))])
 .ret)
def l_szItemS_c : TCode :=
  (.seq (.reg [.op (some 4) (.mov (.k (.c TI (0 : Int))))])
 (.seq (.reg [.op (some 6) (.mov (.s 1)),
     .op (some 7) (.mov (.s 0)),
     .op (some 8) (.len (.s 7)),
     .op (some 9) (.bin .sub (.s 6) (.s 8)),
     .op (some 1) (.mov (.s 9))])
  (.seq (.seq (.reg [.op (some 10) (.mov (.s 1)),
       .op (some 11) (.bin .lss (.s 10) (.k (.c TI (0 : Int))))])
    (.cond (.s 11) (.seq (.reg [.op (some 4) (.mov (.k (.c TI (-1 : Int))))])
      .ret) .skip))
   (.seq (.seq (.reg [.op (some 5) (.mov (.k (.c TI (0 : Int))))])
     (.block 0 (.loop l_szItemS_L2 l_szItemS_b2)))
    l_szItemS_y1))))
def l_szItemS_rs : List (ARv × Md) := [(.t 4, .one .d)]
theorem l_szItemS_st : compF Try.prog 119 = some (l_szItemS_c.er, l_szItemS_rs.map Prod.fst, 27) := by kernel_rfl
def l_szItemS_Q (K : TRes → Prop) : TPost := TQ 0 l_szItemS_rs K
def l_szItemS_q1 (K : TRes → Prop) : TPost := Qseq (tawp l_szItemS_G 0 l_szItemS_y1 (l_szItemS_Q K)) (l_szItemS_Q K)
def l_szItemS_q2 (K : TRes → Prop) : TPost := Qblk 0 (l_szItemS_q1 K)
def l_szItemS_A2 (K : TRes → Prop) (a : List TItem) (left1 : Int) (i : Int) : Prop := Loop l_szItemS_G 0 l_szItemS_L2 l_szItemS_b2 (l_szItemS_q2 K) ⟨[(0, (.c (.sl ctItem) a)), (1, (.c TI left1)), (5, (.c TI i))], [], 0⟩
theorem l_szItemS_v2 (K : TRes → Prop) (a : List TItem) (left1 : Int) (i : Int) (h :
  (((decide (i < (a.length : Int))) = true → ((((0 : Int) ≤ i ∧ Int.toNat i < a.length) ∧ (p_sz (α := TItem) (gtd ((0, []) : TItem) a (Int.toNat i)) left1)) ∧ (((decide ((m_sz (α := TItem) (gtd ((0, []) : TItem) a (Int.toNat i)) left1) < (0 : Int))) = true → K (l_szItemS_R (-1 : Int))) ∧ ((decide ((m_sz (α := TItem) (gtd ((0, []) : TItem) a (Int.toNat i)) left1) < (0 : Int))) = false → (l_szItemS_A2 K a (m_sz (α := TItem) (gtd ((0, []) : TItem) a (Int.toNat i)) left1) (w64 (i + (1 : Int)))))))) ∧ ((decide (i < (a.length : Int))) = false → K (l_szItemS_R left1)))) : l_szItemS_A2 K a left1 i :=
  Loop.of (by kernel_rfl) h
theorem l_szItemS_v0 (K : TRes → Prop) (a : List TItem) (left : Int) (h :
  (((decide ((w64 (left - (a.length : Int))) < (0 : Int))) = true → K (l_szItemS_R (-1 : Int))) ∧ ((decide ((w64 (left - (a.length : Int))) < (0 : Int))) = false → (l_szItemS_A2 K a (w64 (left - (a.length : Int))) (0 : Int))))) : Hold (tawp l_szItemS_G 0 l_szItemS_c (TQ 0 l_szItemS_rs K) (tstart [(.c (.sl ctItem) a), (.c TI left)])) :=
  Hold.of (by kernel_rfl) h
theorem l_szItemS_t (a : List TItem) (left : Int) (r : TRes) (h : Hold (tawp l_szItemS_G 0 l_szItemS_c (TQ 0 l_szItemS_rs fun r' => r' = r) (tstart [(.c (.sl ctItem) a), (.c TI left)]))) : TCon Try.prog 119 [(.c (.sl ctItem) a), (.c TI left)] r :=
  tcon_gen (sg := [(.c (.sl ctItem)), (.c TI)]) mixed (TOk.cons l_szItem_ok TOk.nil) l_szItemS_st (by kernel_rfl) (by kernel_rfl) (by kernel_rfl) h
theorem l_szItemS_h : l_szItemS_C := by
  intro a left hp
  refine tcon_bd rfl fun hb => l_szItemS_t a left _ (l_szItemS_v0 _ a left ?_)
  exact szLoop (Q := fun x => l_szItemS_R x = l_szItemS_R (m_sz (α := List TItem) a left)) ((0, []) : TItem) hp hb.1.1 (fun l i h => l_szItemS_v2 _ a l i h) rfl

theorem l_szItemS_ok : TRowOk Try.prog l_szItemS_row := rowOk fun x h => l_szItemS_h x.1 x.2.1 h

def l_szQueue_R (t : Int) : TRes := ⟨(.c TI t), [], [], false⟩
def l_szQueue_row : TRow := mkRow 45 [(.a ctQueue), (.c TI)] fun x => (some (p_sz (α := TQueue) x.1 x.2.1), l_szQueue_R (m_sz (α := TQueue) x.1 x.2.1))
def l_szQueue_C : Prop := ∀ (x0 : TQueue) (x1 : Int), (p_sz (α := TQueue) x0 x1) → TCon Try.prog 45 [(.a [(.c TI x0.1), (.c (.sl ctItem) x0.2)]), (.c TI x1)] (l_szQueue_R (m_sz (α := TQueue) x0 x1))

/-! laws.szQueue -/
def l_szQueue_G : List TRow := [l_szItemS_row]
def l_szQueue_c : TCode :=
  (.seq (.reg [.op (some 2) (.box 47 (.s 0) 2),
    .op (some 4) (.mov (.k (.c TI (0 : Int))))])
 (.seq (.reg [.op (some 5) (.fad (.s 2) 1),
     .op (some 6) (.load (.s 5) 1 false),
     .op (some 7) (.mov (.s 1)),
     .op (some 8) (.call 119 [(.s 6), (.s 7)]),
     .op (some 1) (.mov (.s 8))])
  (.seq (.seq (.reg [.op (some 9) (.mov (.s 1)),
       .op (some 10) (.bin .lss (.s 9) (.k (.c TI (0 : Int))))])
    (.cond (.s 10) (.seq (.reg [.op (some 4) (.mov (.k (.c TI (-1 : Int))))])
      .ret) .skip))
   (.seq (.reg [.op (some 11) (.mov (.s 1)),
       .op (some 4) (.mov (.s 11))])
    .ret))))
def l_szQueue_rs : List (ARv × Md) := [(.t 4, .one .d)]
theorem l_szQueue_st : compF Try.prog 45 = some (l_szQueue_c.er, l_szQueue_rs.map Prod.fst, 12) := by kernel_rfl
def l_szQueue_Q (K : TRes → Prop) : TPost := TQ 0 l_szQueue_rs K
theorem l_szQueue_v0 (K : TRes → Prop) (a : TQueue) (left : Int) (h :
  ((p_sz (α := List TItem) a.2 left) ∧ (((decide ((m_sz (α := List TItem) a.2 left) < (0 : Int))) = true → K (l_szQueue_R (-1 : Int))) ∧ ((decide ((m_sz (α := List TItem) a.2 left) < (0 : Int))) = false → K (l_szQueue_R (m_sz (α := List TItem) a.2 left)))))) : Hold (tawp l_szQueue_G 0 l_szQueue_c (TQ 0 l_szQueue_rs K) (tstart [(.a [(.c TI a.1), (.c (.sl ctItem) a.2)]), (.c TI left)])) :=
  Hold.of (by kernel_rfl) h
theorem l_szQueue_t (a : TQueue) (left : Int) (r : TRes) (h : Hold (tawp l_szQueue_G 0 l_szQueue_c (TQ 0 l_szQueue_rs fun r' => r' = r) (tstart [(.a [(.c TI a.1), (.c (.sl ctItem) a.2)]), (.c TI left)]))) : TCon Try.prog 45 [(.a [(.c TI a.1), (.c (.sl ctItem) a.2)]), (.c TI left)] r :=
  tcon_gen (sg := [(.a ctQueue), (.c TI)]) mixed (TOk.cons l_szItemS_ok TOk.nil) l_szQueue_st (by kernel_rfl) (by kernel_rfl) (by kernel_rfl) h
theorem l_szQueue_h : l_szQueue_C := by
  intro a left hp
  refine tcon_bd rfl fun hb => l_szQueue_t a left _ (l_szQueue_v0 _ a left ?_)
  refine ⟨hp, fun h => R_eq (sz_neg (of_decide_eq_true h) (by first | omega | (simp only [sz_prod, sz_int, sz_bool]; omega)) hp.1), fun h => ?_⟩
  exact R_eq (congrArg (m_szN · _) (by first | rfl | omega | (simp only [sz_prod, sz_int, sz_bool]; omega)))

theorem l_szQueue_ok : TRowOk Try.prog l_szQueue_row := rowOk fun x h => l_szQueue_h x.1 x.2.1 h

def l_szQueueS_R (t : Int) : TRes := ⟨(.c TI t), [], [], false⟩
def l_szQueueS_row : TRow := mkRow 167 [(.c (.sl ctQueue)), (.c TI)] fun x => (some (p_sz (α := List TQueue) x.1 x.2.1), l_szQueueS_R (m_sz (α := List TQueue) x.1 x.2.1))
def l_szQueueS_C : Prop := ∀ (x0 : List TQueue) (x1 : Int), (p_sz (α := List TQueue) x0 x1) → TCon Try.prog 167 [(.c (.sl ctQueue) x0), (.c TI x1)] (l_szQueueS_R (m_sz (α := List TQueue) x0 x1))

/-! laws.szQueueS -/
def l_szQueueS_G : List TRow := [l_szQueue_row]
def l_szQueueS_b2 : TCode :=
  (.seq (.seq (.reg [.op (some 12) (.mov (.s 5)),
     .op (some 13) (.mov (.s 0)),
     .op (some 14) (.len (.s 13)),
     .op (some 15) (.bin .lss (.s 12) (.s 14))])
  (.cond (.s 15) .skip (.exit 0)))
 (.seq (.block 1 (.seq (.reg [.op (some 18) (.mov (.s 0)),
       .op (some 19) (.mov (.s 5)),
       .op (some 20) (.iad (.s 18) (.s 19) ctQueue),
       .op (some 21) (.load (.s 20) 2 true),
       .op (some 22) (.mov (.s 1)),
       .op (some 23) (.call 45 [(.s 21), (.s 22)]),
       .op (some 1) (.mov (.s 23))])
    (.seq (.reg [.op (some 24) (.mov (.s 1)),
        .op (some 25) (.bin .lss (.s 24) (.k (.c TI (0 : Int))))])
     (.cond (.s 25) (.seq (.reg [.op (some 4) (.mov (.k (.c TI (-1 : Int))))])
       .ret) .skip))))
  (.reg [.op (some 16) (.mov (.s 5)),
     .op (some 17) (.bin .add (.s 16) (.k (.c TI (1 : Int)))),
     .op (some 5) (.mov (.s 17))])))
def l_szQueueS_L2 : List (Nat × Md) := [(0, .one .d), (1, .one .d), (5, .one .d)]
def l_szQueueS_y1 : TCode :=
  (.seq (.reg [.op (some 26) (.mov (.s 1)),
    .op (some 4) (.mov (.s 26))])
 .ret)
def l_szQueueS_c : TCode :=
  (.seq (.reg [.op (some 4) (.mov (.k (.c TI (0 : Int))))])
 (.seq (.reg [.op (some 6) (.mov (.s 1)),
     .op (some 7) (.mov (.s 0)),
     .op (some 8) (.len (.s 7)),
     .op (some 9) (.bin .sub (.s 6) (.s 8)),
     .op (some 1) (.mov (.s 9))])
  (.seq (.seq (.reg [.op (some 10) (.mov (.s 1)),
       .op (some 11) (.bin .lss (.s 10) (.k (.c TI (0 : Int))))])
    (.cond (.s 11) (.seq (.reg [.op (some 4) (.mov (.k (.c TI (-1 : Int))))])
      .ret) .skip))
   (.seq (.seq (.reg [.op (some 5) (.mov (.k (.c TI (0 : Int))))])
     (.block 0 (.loop l_szQueueS_L2 l_szQueueS_b2)))
    l_szQueueS_y1))))
def l_szQueueS_rs : List (ARv × Md) := [(.t 4, .one .d)]
theorem l_szQueueS_st : compF Try.prog 167 = some (l_szQueueS_c.er, l_szQueueS_rs.map Prod.fst, 27) := by kernel_rfl
def l_szQueueS_Q (K : TRes → Prop) : TPost := TQ 0 l_szQueueS_rs K
def l_szQueueS_q1 (K : TRes → Prop) : TPost := Qseq (tawp l_szQueueS_G 0 l_szQueueS_y1 (l_szQueueS_Q K)) (l_szQueueS_Q K)
def l_szQueueS_q2 (K : TRes → Prop) : TPost := Qblk 0 (l_szQueueS_q1 K)
def l_szQueueS_A2 (K : TRes → Prop) (a : List TQueue) (left1 : Int) (i : Int) : Prop := Loop l_szQueueS_G 0 l_szQueueS_L2 l_szQueueS_b2 (l_szQueueS_q2 K) ⟨[(0, (.c (.sl ctQueue) a)), (1, (.c TI left1)), (5, (.c TI i))], [], 0⟩
theorem l_szQueueS_v2 (K : TRes → Prop) (a : List TQueue) (left1 : Int) (i : Int) (h :
  (((decide (i < (a.length : Int))) = true → ((((0 : Int) ≤ i ∧ Int.toNat i < a.length) ∧ (p_sz (α := TQueue) (gtd dQueue a (Int.toNat i)) left1)) ∧ (((decide ((m_sz (α := TQueue) (gtd dQueue a (Int.toNat i)) left1) < (0 : Int))) = true → K (l_szQueueS_R (-1 : Int))) ∧ ((decide ((m_sz (α := TQueue) (gtd dQueue a (Int.toNat i)) left1) < (0 : Int))) = false → (l_szQueueS_A2 K a (m_sz (α := TQueue) (gtd dQueue a (Int.toNat i)) left1) (w64 (i + (1 : Int)))))))) ∧ ((decide (i < (a.length : Int))) = false → K (l_szQueueS_R left1)))) : l_szQueueS_A2 K a left1 i :=
  Loop.of (by kernel_rfl) h
theorem l_szQueueS_v0 (K : TRes → Prop) (a : List TQueue) (left : Int) (h :
  (((decide ((w64 (left - (a.length : Int))) < (0 : Int))) = true → K (l_szQueueS_R (-1 : Int))) ∧ ((decide ((w64 (left - (a.length : Int))) < (0 : Int))) = false → (l_szQueueS_A2 K a (w64 (left - (a.length : Int))) (0 : Int))))) : Hold (tawp l_szQueueS_G 0 l_szQueueS_c (TQ 0 l_szQueueS_rs K) (tstart [(.c (.sl ctQueue) a), (.c TI left)])) :=
  Hold.of (by kernel_rfl) h
theorem l_szQueueS_t (a : List TQueue) (left : Int) (r : TRes) (h : Hold (tawp l_szQueueS_G 0 l_szQueueS_c (TQ 0 l_szQueueS_rs fun r' => r' = r) (tstart [(.c (.sl ctQueue) a), (.c TI left)]))) : TCon Try.prog 167 [(.c (.sl ctQueue) a), (.c TI left)] r :=
  tcon_gen (sg := [(.c (.sl ctQueue)), (.c TI)]) mixed (TOk.cons l_szQueue_ok TOk.nil) l_szQueueS_st (by kernel_rfl) (by kernel_rfl) (by kernel_rfl) h
theorem l_szQueueS_h : l_szQueueS_C := by
  intro a left hp
  refine tcon_bd rfl fun hb => l_szQueueS_t a left _ (l_szQueueS_v0 _ a left ?_)
  exact szLoop (Q := fun x => l_szQueueS_R x = l_szQueueS_R (m_sz (α := List TQueue) a left)) dQueue hp hb.1.1 (fun l i h => l_szQueueS_v2 _ a l i h) rfl

theorem l_szQueueS_ok : TRowOk Try.prog l_szQueueS_row := rowOk fun x h => l_szQueueS_h x.1 x.2.1 h

def l_toItem_R (t : TItem) : TRes := ⟨(.a [(.c TI t.1), (.c (.sl [TI]) t.2)]), [], [], true⟩
def l_toItem_row : TRow := mkRow 177 [(.a ctItem)] fun x => (some (p_to (α := TItem) x.1), l_toItem_R (id (α := TItem) x.1))
def l_toItem_C : Prop := ∀ (x0 : TItem), (p_to (α := TItem) x0) → TCon Try.prog 177 [(.a [(.c TI x0.1), (.c (.sl [TI]) x0.2)])] (l_toItem_R (id (α := TItem) x0))

/-! laws.toItem -/
def l_toItem_G : List TRow := [l_toIntS_row]
def l_toItem_c : TCode :=
  (.seq (.reg [.op (some 1) (.box 202 (.s 0) 2),
    .op (some 2) (.new 149 [(.c TI (0 : Int)), (.n [TI])])])
 (.seq (.reg [.op (some 3) (.new 149 [(.c TI (0 : Int)), (.n [TI])])])
  (.seq (.reg [.op (some 4) (.fad (.s 1) 0),
      .op (some 5) (.load (.s 4) 1 false),
      .op (some 6) (.fad (.s 3) 0),
      .op none (.store (.s 6) (.s 5) 1)])
   (.seq (.reg [.op (some 7) (.fad (.s 1) 1),
       .op (some 8) (.load (.s 7) 1 false),
       .op (some 9) (.call 57 [(.s 8)]),
       .op (some 10) (.fad (.s 3) 1),
       .op none (.store (.s 10) (.s 9) 1)])
    (.seq (.reg [.op (some 11) (.load (.s 3) 2 true),
        .op none (.store (.s 2) (.s 11) 2)])
     .ret)))))
def l_toItem_rs : List (ARv × Md) := [(.l 2 2 true, .b [.d, .d])]
theorem l_toItem_st : compF Try.prog 177 = some (l_toItem_c.er, l_toItem_rs.map Prod.fst, 12) := by kernel_rfl
def l_toItem_Q (K : TRes → Prop) : TPost := TQ 0 l_toItem_rs K
theorem l_toItem_v0 (K : TRes → Prop) (a : TItem) (h :
  ((p_to (α := List Int) a.2) ∧ K (l_toItem_R (a.1, (id (α := List Int) a.2))))) : Hold (tawp l_toItem_G 0 l_toItem_c (TQ 0 l_toItem_rs K) (tstart [(.a [(.c TI a.1), (.c (.sl [TI]) a.2)])])) :=
  Hold.of (by kernel_rfl) h
theorem l_toItem_t (a : TItem) (r : TRes) (h : Hold (tawp l_toItem_G 0 l_toItem_c (TQ 0 l_toItem_rs fun r' => r' = r) (tstart [(.a [(.c TI a.1), (.c (.sl [TI]) a.2)])]))) : TCon Try.prog 177 [(.a [(.c TI a.1), (.c (.sl [TI]) a.2)])] r :=
  tcon_gen (sg := [(.a ctItem)]) mixed (TOk.cons l_toIntS_ok TOk.nil) l_toItem_st (by kernel_rfl) (by kernel_rfl) (by kernel_rfl) h
theorem l_toItem_h : l_toItem_C := by
  intro a hp
  refine tcon_bd rfl fun hb => l_toItem_t a _ (l_toItem_v0 _ a ?_)
  repeat' (first | exact rfl | refine And.intro ?_ ?_)
  all_goals (simp only [p_to, sz_prod, sz_int, sz_bool] at hp ⊢; omega)

theorem l_toItem_ok : TRowOk Try.prog l_toItem_row := rowOk fun x h => l_toItem_h x.1 h

def l_toItemS_R (t : (List TItem)) : TRes := ⟨(.c (.sl ctItem) t), [], [], true⟩
def l_toItemS_row : TRow := mkRow 122 [(.c (.sl ctItem))] fun x => (some (p_to (α := List TItem) x.1), l_toItemS_R (id (α := List TItem) x.1))
def l_toItemS_C : Prop := ∀ (x0 : List TItem), (p_to (α := List TItem) x0) → TCon Try.prog 122 [(.c (.sl ctItem) x0)] (l_toItemS_R (id (α := List TItem) x0))

/-! laws.toItemS -/
def l_toItemS_G : List TRow := [l_toItem_row]
def l_toItemS_b2 : TCode :=
  (.seq (.seq (.reg [.op (some 8) (.mov (.s 4)),
     .op (some 9) (.mov (.s 0)),
     .op (some 10) (.len (.s 9)),
     .op (some 11) (.bin .lss (.s 8) (.s 10))])
  (.cond (.s 11) .skip (.exit 0)))
 (.seq (.block 1 (.reg [.op (some 14) (.mov (.s 3)),
      .op (some 15) (.mov (.s 4)),
      .op (some 16) (.mov (.s 0)),
      .op (some 17) (.mov (.s 4)),
      .op (some 18) (.iad (.s 16) (.s 17) ctItem),
      .op (some 19) (.load (.s 18) 2 true),
      .op (some 20) (.call 177 [(.s 19)]),
      .op (some 21) (.iad (.s 14) (.s 15) ctItem),
      .op none (.store (.s 21) (.s 20) 2)]))
  (.reg [.op (some 12) (.mov (.s 4)),
     .op (some 13) (.bin .add (.s 12) (.k (.c TI (1 : Int)))),
     .op (some 4) (.mov (.s 13))])))
def l_toItemS_L2 : List (Nat × Md) := [(0, .one .d), (3, .one .f), (4, .one .d)]
def l_toItemS_y1 : TCode :=
  (.seq (.reg [.op (some 22) (.mov (.s 3)),
    .op (some 2) (.mov (.s 22))])
 .ret)
def l_toItemS_c : TCode :=
  (.seq (.reg [.op (some 2) (.mov (.k (.n ctItem)))])
 (.seq (.reg [.op (some 5) (.mov (.s 0)),
     .op (some 6) (.len (.s 5)),
     .op (some 7) (.mk 149 ctItem [(.c TI (0 : Int)), (.n [TI])] (.s 6)),
     .op (some 3) (.mov (.s 7))])
  (.seq (.seq (.reg [.op (some 4) (.mov (.k (.c TI (0 : Int))))])
    (.block 0 (.loop l_toItemS_L2 l_toItemS_b2)))
   l_toItemS_y1)))
def l_toItemS_rs : List (ARv × Md) := [(.t 2, .one .d)]
theorem l_toItemS_st : compF Try.prog 122 = some (l_toItemS_c.er, l_toItemS_rs.map Prod.fst, 23) := by kernel_rfl
def l_toItemS_Q (K : TRes → Prop) : TPost := TQ 0 l_toItemS_rs K
def l_toItemS_q1 (K : TRes → Prop) : TPost := Qseq (tawp l_toItemS_G 0 l_toItemS_y1 (l_toItemS_Q K)) (l_toItemS_Q K)
def l_toItemS_q2 (K : TRes → Prop) : TPost := Qblk 0 (l_toItemS_q1 K)
def l_toItemS_A2 (K : TRes → Prop) (a : List TItem) (i : Int) (out : List TItem) : Prop := Loop l_toItemS_G 0 l_toItemS_L2 l_toItemS_b2 (l_toItemS_q2 K) ⟨[(0, (.c (.sl ctItem) a)), (3, (.r ctItem 0 0 out.length)), (4, (.c TI i))], [(0, (.sl 149 ctItem true out))], 1⟩
theorem l_toItemS_v2 (K : TRes → Prop) (a : List TItem) (i : Int) (out : List TItem) (h :
  (((decide (i < (a.length : Int))) = true → ((((0 : Int) ≤ i ∧ Int.toNat i < a.length) ∧ ((p_to (α := TItem) (gtd ((0, []) : TItem) a (Int.toNat i))) ∧ (((0 : Int) ≤ i ∧ Int.toNat i < out.length) ∧ ((0 + (Int.toNat i)) < out.length)))) ∧ (l_toItemS_A2 K a (w64 (i + (1 : Int))) (List.take out.length ((out).set (0 + (Int.toNat i)) (id (α := TItem) (gtd ((0, []) : TItem) a (Int.toNat i)))))))) ∧ ((decide (i < (a.length : Int))) = false → K (l_toItemS_R (List.take out.length (List.drop 0 out)))))) : l_toItemS_A2 K a i out :=
  Loop.of (by kernel_rfl) h
theorem l_toItemS_v0 (K : TRes → Prop) (a : List TItem) (h :
  (((0 : Int) ≤ (a.length : Int) ∧ (a.length : Int) ≤ big) ∧ (l_toItemS_A2 K a (0 : Int) (List.take (Int.toNat (a.length : Int)) (List.replicate (Int.toNat (a.length : Int)) ((0 : Int), [])))))) : Hold (tawp l_toItemS_G 0 l_toItemS_c (TQ 0 l_toItemS_rs K) (tstart [(.c (.sl ctItem) a)])) :=
  Hold.of (by kernel_rfl) h
theorem l_toItemS_t (a : List TItem) (r : TRes) (h : Hold (tawp l_toItemS_G 0 l_toItemS_c (TQ 0 l_toItemS_rs fun r' => r' = r) (tstart [(.c (.sl ctItem) a)]))) : TCon Try.prog 122 [(.c (.sl ctItem) a)] r :=
  tcon_gen (sg := [(.c (.sl ctItem))]) mixed (TOk.cons l_toItem_ok TOk.nil) l_toItemS_st (by kernel_rfl) (by kernel_rfl) (by kernel_rfl) h
theorem l_toItemS_h : l_toItemS_C := by
  intro a hp
  refine tcon_bd rfl fun hb => l_toItemS_t a _ (l_toItemS_v0 _ a ?_)
  exact toLoop (Q := fun x => l_toItemS_R x = l_toItemS_R (id (α := List TItem) a)) ((0, []) : TItem) hp (fun i out h => l_toItemS_v2 _ a i out h) rfl

theorem l_toItemS_ok : TRowOk Try.prog l_toItemS_row := rowOk fun x h => l_toItemS_h x.1 h

def l_toQueue_R (t : TQueue) : TRes := ⟨(.a [(.c TI t.1), (.c (.sl ctItem) t.2)]), [], [], true⟩
def l_toQueue_row : TRow := mkRow 47 [(.a ctQueue)] fun x => (some (p_to (α := TQueue) x.1), l_toQueue_R (id (α := TQueue) x.1))
def l_toQueue_C : Prop := ∀ (x0 : TQueue), (p_to (α := TQueue) x0) → TCon Try.prog 47 [(.a [(.c TI x0.1), (.c (.sl ctItem) x0.2)])] (l_toQueue_R (id (α := TQueue) x0))

/-! laws.toQueue -/
def l_toQueue_G : List TRow := [l_toItemS_row]
def l_toQueue_c : TCode :=
  (.seq (.reg [.op (some 1) (.box 47 (.s 0) 2),
    .op (some 2) (.new 52 [(.c TI (0 : Int)), (.n ctItem)])])
 (.seq (.reg [.op (some 3) (.new 52 [(.c TI (0 : Int)), (.n ctItem)])])
  (.seq (.reg [.op (some 4) (.fad (.s 1) 0),
      .op (some 5) (.load (.s 4) 1 false),
      .op (some 6) (.fad (.s 3) 0),
      .op none (.store (.s 6) (.s 5) 1)])
   (.seq (.reg [.op (some 7) (.fad (.s 1) 1),
       .op (some 8) (.load (.s 7) 1 false),
       .op (some 9) (.call 122 [(.s 8)]),
       .op (some 10) (.fad (.s 3) 1),
       .op none (.store (.s 10) (.s 9) 1)])
    (.seq (.reg [.op (some 11) (.load (.s 3) 2 true),
        .op none (.store (.s 2) (.s 11) 2)])
     .ret)))))
def l_toQueue_rs : List (ARv × Md) := [(.l 2 2 true, .b [.d, .d])]
theorem l_toQueue_st : compF Try.prog 47 = some (l_toQueue_c.er, l_toQueue_rs.map Prod.fst, 12) := by kernel_rfl
def l_toQueue_Q (K : TRes → Prop) : TPost := TQ 0 l_toQueue_rs K
theorem l_toQueue_v0 (K : TRes → Prop) (a : TQueue) (h :
  ((p_to (α := List TItem) a.2) ∧ K (l_toQueue_R (a.1, (id (α := List TItem) a.2))))) : Hold (tawp l_toQueue_G 0 l_toQueue_c (TQ 0 l_toQueue_rs K) (tstart [(.a [(.c TI a.1), (.c (.sl ctItem) a.2)])])) :=
  Hold.of (by kernel_rfl) h
theorem l_toQueue_t (a : TQueue) (r : TRes) (h : Hold (tawp l_toQueue_G 0 l_toQueue_c (TQ 0 l_toQueue_rs fun r' => r' = r) (tstart [(.a [(.c TI a.1), (.c (.sl ctItem) a.2)])]))) : TCon Try.prog 47 [(.a [(.c TI a.1), (.c (.sl ctItem) a.2)])] r :=
  tcon_gen (sg := [(.a ctQueue)]) mixed (TOk.cons l_toItemS_ok TOk.nil) l_toQueue_st (by kernel_rfl) (by kernel_rfl) (by kernel_rfl) h
theorem l_toQueue_h : l_toQueue_C := by
  intro a hp
  refine tcon_bd rfl fun hb => l_toQueue_t a _ (l_toQueue_v0 _ a ?_)
  repeat' (first | exact rfl | refine And.intro ?_ ?_)
  all_goals (simp only [p_to, sz_prod, sz_int, sz_bool] at hp ⊢; omega)

theorem l_toQueue_ok : TRowOk Try.prog l_toQueue_row := rowOk fun x h => l_toQueue_h x.1 h

def l_toQueueS_R (t : (List TQueue)) : TRes := ⟨(.c (.sl ctQueue) t), [], [], true⟩
def l_toQueueS_row : TRow := mkRow 169 [(.c (.sl ctQueue))] fun x => (some (p_to (α := List TQueue) x.1), l_toQueueS_R (id (α := List TQueue) x.1))
def l_toQueueS_C : Prop := ∀ (x0 : List TQueue), (p_to (α := List TQueue) x0) → TCon Try.prog 169 [(.c (.sl ctQueue) x0)] (l_toQueueS_R (id (α := List TQueue) x0))

/-! laws.toQueueS -/
def l_toQueueS_G : List TRow := [l_toQueue_row]
def l_toQueueS_b2 : TCode :=
  (.seq (.seq (.reg [.op (some 8) (.mov (.s 4)),
     .op (some 9) (.mov (.s 0)),
     .op (some 10) (.len (.s 9)),
     .op (some 11) (.bin .lss (.s 8) (.s 10))])
  (.cond (.s 11) .skip (.exit 0)))
 (.seq (.block 1 (.reg [.op (some 14) (.mov (.s 3)),
      .op (some 15) (.mov (.s 4)),
      .op (some 16) (.mov (.s 0)),
      .op (some 17) (.mov (.s 4)),
      .op (some 18) (.iad (.s 16) (.s 17) ctQueue),
      .op (some 19) (.load (.s 18) 2 true),
      .op (some 20) (.call 47 [(.s 19)]),
      .op (some 21) (.iad (.s 14) (.s 15) ctQueue),
      .op none (.store (.s 21) (.s 20) 2)]))
  (.reg [.op (some 12) (.mov (.s 4)),
     .op (some 13) (.bin .add (.s 12) (.k (.c TI (1 : Int)))),
     .op (some 4) (.mov (.s 13))])))
def l_toQueueS_L2 : List (Nat × Md) := [(0, .one .d), (3, .one .f), (4, .one .d)]
def l_toQueueS_y1 : TCode :=
  (.seq (.reg [.op (some 22) (.mov (.s 3)),
    .op (some 2) (.mov (.s 22))])
 .ret)
def l_toQueueS_c : TCode :=
  (.seq (.reg [.op (some 2) (.mov (.k (.n ctQueue)))])
 (.seq (.reg [.op (some 5) (.mov (.s 0)),
     .op (some 6) (.len (.s 5)),
     .op (some 7) (.mk 52 ctQueue [(.c TI (0 : Int)), (.n ctItem)] (.s 6)),
     .op (some 3) (.mov (.s 7))])
  (.seq (.seq (.reg [.op (some 4) (.mov (.k (.c TI (0 : Int))))])
    (.block 0 (.loop l_toQueueS_L2 l_toQueueS_b2)))
   l_toQueueS_y1)))
def l_toQueueS_rs : List (ARv × Md) := [(.t 2, .one .d)]
theorem l_toQueueS_st : compF Try.prog 169 = some (l_toQueueS_c.er, l_toQueueS_rs.map Prod.fst, 23) := by kernel_rfl
def l_toQueueS_Q (K : TRes → Prop) : TPost := TQ 0 l_toQueueS_rs K
def l_toQueueS_q1 (K : TRes → Prop) : TPost := Qseq (tawp l_toQueueS_G 0 l_toQueueS_y1 (l_toQueueS_Q K)) (l_toQueueS_Q K)
def l_toQueueS_q2 (K : TRes → Prop) : TPost := Qblk 0 (l_toQueueS_q1 K)
def l_toQueueS_A2 (K : TRes → Prop) (a : List TQueue) (i : Int) (out : List TQueue) : Prop := Loop l_toQueueS_G 0 l_toQueueS_L2 l_toQueueS_b2 (l_toQueueS_q2 K) ⟨[(0, (.c (.sl ctQueue) a)), (3, (.r ctQueue 0 0 out.length)), (4, (.c TI i))], [(0, (.sl 52 ctQueue true out))], 1⟩
theorem l_toQueueS_v2 (K : TRes → Prop) (a : List TQueue) (i : Int) (out : List TQueue) (h :
  (((decide (i < (a.length : Int))) = true → ((((0 : Int) ≤ i ∧ Int.toNat i < a.length) ∧ ((p_to (α := TQueue) (gtd dQueue a (Int.toNat i))) ∧ (((0 : Int) ≤ i ∧ Int.toNat i < out.length) ∧ ((0 + (Int.toNat i)) < out.length)))) ∧ (l_toQueueS_A2 K a (w64 (i + (1 : Int))) (List.take out.length ((out).set (0 + (Int.toNat i)) (id (α := TQueue) (gtd dQueue a (Int.toNat i)))))))) ∧ ((decide (i < (a.length : Int))) = false → K (l_toQueueS_R (List.take out.length (List.drop 0 out)))))) : l_toQueueS_A2 K a i out :=
  Loop.of (by kernel_rfl) h
theorem l_toQueueS_v0 (K : TRes → Prop) (a : List TQueue) (h :
  (((0 : Int) ≤ (a.length : Int) ∧ (a.length : Int) ≤ big) ∧ (l_toQueueS_A2 K a (0 : Int) (List.take (Int.toNat (a.length : Int)) (List.replicate (Int.toNat (a.length : Int)) ((0 : Int), [])))))) : Hold (tawp l_toQueueS_G 0 l_toQueueS_c (TQ 0 l_toQueueS_rs K) (tstart [(.c (.sl ctQueue) a)])) :=
  Hold.of (by kernel_rfl) h
theorem l_toQueueS_t (a : List TQueue) (r : TRes) (h : Hold (tawp l_toQueueS_G 0 l_toQueueS_c (TQ 0 l_toQueueS_rs fun r' => r' = r) (tstart [(.c (.sl ctQueue) a)]))) : TCon Try.prog 169 [(.c (.sl ctQueue) a)] r :=
  tcon_gen (sg := [(.c (.sl ctQueue))]) mixed (TOk.cons l_toQueue_ok TOk.nil) l_toQueueS_st (by kernel_rfl) (by kernel_rfl) (by kernel_rfl) h
theorem l_toQueueS_h : l_toQueueS_C := by
  intro a hp
  refine tcon_bd rfl fun hb => l_toQueueS_t a _ (l_toQueueS_v0 _ a ?_)
  exact toLoop (Q := fun x => l_toQueueS_R x = l_toQueueS_R (id (α := List TQueue) a)) dQueue hp (fun i out h => l_toQueueS_v2 _ a i out h) rfl

theorem l_toQueueS_ok : TRowOk Try.prog l_toQueueS_row := rowOk fun x h => l_toQueueS_h x.1 h

def l_eqItem_R (t : Bool) : TRes := ⟨(.c .bool t), [], [], false⟩
def l_eqItem_row : TRow := mkRow 178 [(.a ctItem), (.a ctItem)] fun x => (none, l_eqItem_R (m_eq (α := TItem) x.1 x.2.1))
def l_eqItem_C : Prop := ∀ (x0 : TItem) (x1 : TItem), TCon Try.prog 178 [(.a [(.c TI x0.1), (.c (.sl [TI]) x0.2)]), (.a [(.c TI x1.1), (.c (.sl [TI]) x1.2)])] (l_eqItem_R (m_eq (α := TItem) x0 x1))

/-! laws.eqItem -/
def l_eqItem_G : List TRow := [l_eqIntS_row]
def l_eqItem_c : TCode :=
  (.seq (.reg [.op (some 2) (.box 149 (.s 0) 2),
    .op (some 3) (.box 149 (.s 1) 2),
    .op (some 4) (.mov (.k (.c .bool false)))])
 (.seq (.seq (.reg [.op (some 5) (.fad (.s 2) 0),
      .op (some 6) (.load (.s 5) 1 false),
      .op (some 7) (.fad (.s 3) 0),
      .op (some 8) (.load (.s 7) 1 false),
      .op (some 9) (.bin .neq (.s 6) (.s 8))])
   (.cond (.s 9) (.seq (.reg [.op (some 4) (.mov (.k (.c .bool false)))])
     .ret) .skip))
  (.seq (.seq (.reg [.op (some 10) (.fad (.s 2) 1),
       .op (some 11) (.load (.s 10) 1 false),
       .op (some 12) (.fad (.s 3) 1),
       .op (some 13) (.load (.s 12) 1 false),
       .op (some 14) (.call 60 [(.s 11), (.s 13)]),
       .op (some 15) (.not (.s 14))])
    (.cond (.s 15) (.seq (.reg [.op (some 4) (.mov (.k (.c .bool false)))])
      .ret) .skip))
   (.seq (.reg [.op (some 4) (.mov (.k (.c .bool true)))])
    .ret))))
def l_eqItem_rs : List (ARv × Md) := [(.t 4, .one .d)]
theorem l_eqItem_st : compF Try.prog 178 = some (l_eqItem_c.er, l_eqItem_rs.map Prod.fst, 16) := by kernel_rfl
def l_eqItem_Q (K : TRes → Prop) : TPost := TQ 0 l_eqItem_rs K
theorem l_eqItem_v0 (K : TRes → Prop) (a : TItem) (b : TItem) (h :
  (((a.1 != b.1) = true → K (l_eqItem_R false)) ∧ ((a.1 != b.1) = false → (((!(m_eq (α := List Int) a.2 b.2)) = true → K (l_eqItem_R false)) ∧ ((!(m_eq (α := List Int) a.2 b.2)) = false → K (l_eqItem_R true)))))) : Hold (tawp l_eqItem_G 0 l_eqItem_c (TQ 0 l_eqItem_rs K) (tstart [(.a [(.c TI a.1), (.c (.sl [TI]) a.2)]), (.a [(.c TI b.1), (.c (.sl [TI]) b.2)])])) :=
  Hold.of (by kernel_rfl) h
theorem l_eqItem_t (a : TItem) (b : TItem) (r : TRes) (h : Hold (tawp l_eqItem_G 0 l_eqItem_c (TQ 0 l_eqItem_rs fun r' => r' = r) (tstart [(.a [(.c TI a.1), (.c (.sl [TI]) a.2)]), (.a [(.c TI b.1), (.c (.sl [TI]) b.2)])]))) : TCon Try.prog 178 [(.a [(.c TI a.1), (.c (.sl [TI]) a.2)]), (.a [(.c TI b.1), (.c (.sl [TI]) b.2)])] r :=
  tcon_gen (sg := [(.a ctItem), (.a ctItem)]) mixed (TOk.cons l_eqIntS_ok TOk.nil) l_eqItem_st (by kernel_rfl) (by kernel_rfl) (by kernel_rfl) h
theorem l_eqItem_h : l_eqItem_C := by
  intro a b
  refine tcon_bd rfl fun hb => l_eqItem_t a b _ (l_eqItem_v0 _ a b ?_)
  refine ⟨fun h => R_eq (Eq.symm (decide_eq_false (by rintro rfl; simp [m_eq] at h))), fun h0 => ?_⟩
  refine ⟨fun h => R_eq (Eq.symm (decide_eq_false (by rintro rfl; simp [m_eq] at h))), fun h1 => ?_⟩
  refine R_eq (Eq.symm (decide_eq_true ?_))
  simp [m_eq] at h0 h1
  simp [Prod.ext_iff, *]

theorem l_eqItem_ok : TRowOk Try.prog l_eqItem_row := rowOk fun x _ => l_eqItem_h x.1 x.2.1

def l_eqItemS_R (t : Bool) : TRes := ⟨(.c .bool t), [], [], false⟩
def l_eqItemS_row : TRow := mkRow 124 [(.c (.sl ctItem)), (.c (.sl ctItem))] fun x => (none, l_eqItemS_R (m_eq (α := List TItem) x.1 x.2.1))
def l_eqItemS_C : Prop := ∀ (x0 : List TItem) (x1 : List TItem), TCon Try.prog 124 [(.c (.sl ctItem) x0), (.c (.sl ctItem) x1)] (l_eqItemS_R (m_eq (α := List TItem) x0 x1))

/-! laws.eqItemS -/
def l_eqItemS_G : List TRow := [l_eqItem_row]
def l_eqItemS_b2 : TCode :=
  (.seq (.seq (.reg [.op (some 11) (.mov (.s 5)),
     .op (some 12) (.mov (.s 0)),
     .op (some 13) (.len (.s 12)),
     .op (some 14) (.bin .lss (.s 11) (.s 13))])
  (.cond (.s 14) .skip (.exit 0)))
 (.seq (.block 1 (.seq (.draw [.op (some 17) (.mov (.s 0)),
       .op (some 18) (.mov (.s 5)),
       .op (some 19) (.iad (.s 17) (.s 18) ctItem),
       .op (some 20) (.load (.s 19) 2 true),
       .op (some 21) (.mov (.s 1)),
       .op (some 22) (.mov (.s 5)),
       .op (some 23) (.iad (.s 21) (.s 22) ctItem),
       .op (some 24) (.load (.s 23) 2 true),
       .op (some 25) (.call 178 [(.s 20), (.s 24)]),
       .op (some 26) (.not (.s 25))] [])
    (.cond (.s 26) (.seq (.reg [.op (some 4) (.mov (.k (.c .bool false)))])
      .ret) .skip)))
  (.reg [.op (some 15) (.mov (.s 5)),
     .op (some 16) (.bin .add (.s 15) (.k (.c TI (1 : Int)))),
     .op (some 5) (.mov (.s 16))])))
def l_eqItemS_L2 : List (Nat × Md) := [(0, .one .d), (1, .one .d), (5, .one .d)]
def l_eqItemS_y1 : TCode :=
  (.seq (.reg [.op (some 4) (.mov (.k (.c .bool true)))])
 .ret)
def l_eqItemS_c : TCode :=
  (.seq (.reg [.op (some 4) (.mov (.k (.c .bool false)))])
 (.seq (.seq (.reg [.op (some 6) (.mov (.s 0)),
      .op (some 7) (.len (.s 6)),
      .op (some 8) (.mov (.s 1)),
      .op (some 9) (.len (.s 8)),
      .op (some 10) (.bin .neq (.s 7) (.s 9))])
   (.cond (.s 10) (.seq (.reg [.op (some 4) (.mov (.k (.c .bool false)))])
     .ret) .skip))
  (.seq (.seq (.reg [.op (some 5) (.mov (.k (.c TI (0 : Int))))])
    (.block 0 (.loop l_eqItemS_L2 l_eqItemS_b2)))
   l_eqItemS_y1)))
def l_eqItemS_rs : List (ARv × Md) := [(.t 4, .one .d)]
theorem l_eqItemS_st : compF Try.prog 124 = some (l_eqItemS_c.er, l_eqItemS_rs.map Prod.fst, 27) := by kernel_rfl
def l_eqItemS_Q (K : TRes → Prop) : TPost := TQ 0 l_eqItemS_rs K
def l_eqItemS_q1 (K : TRes → Prop) : TPost := Qseq (tawp l_eqItemS_G 0 l_eqItemS_y1 (l_eqItemS_Q K)) (l_eqItemS_Q K)
def l_eqItemS_q2 (K : TRes → Prop) : TPost := Qblk 0 (l_eqItemS_q1 K)
def l_eqItemS_A2 (K : TRes → Prop) (a : List TItem) (b : List TItem) (i : Int) : Prop := Loop l_eqItemS_G 0 l_eqItemS_L2 l_eqItemS_b2 (l_eqItemS_q2 K) ⟨[(0, (.c (.sl ctItem) a)), (1, (.c (.sl ctItem) b)), (5, (.c TI i))], [], 0⟩
theorem l_eqItemS_v2 (K : TRes → Prop) (a : List TItem) (b : List TItem) (i : Int) (h :
  (((decide (i < (a.length : Int))) = true → ((((0 : Int) ≤ i ∧ Int.toNat i < a.length) ∧ ((0 : Int) ≤ i ∧ Int.toNat i < b.length)) ∧ (((!(m_eq (α := TItem) (gtd ((0, []) : TItem) a (Int.toNat i)) (gtd ((0, []) : TItem) b (Int.toNat i)))) = true → K (l_eqItemS_R false)) ∧ ((!(m_eq (α := TItem) (gtd ((0, []) : TItem) a (Int.toNat i)) (gtd ((0, []) : TItem) b (Int.toNat i)))) = false → (l_eqItemS_A2 K a b (w64 (i + (1 : Int)))))))) ∧ ((decide (i < (a.length : Int))) = false → K (l_eqItemS_R true)))) : l_eqItemS_A2 K a b i :=
  Loop.of (by kernel_rfl) h
theorem l_eqItemS_v0 (K : TRes → Prop) (a : List TItem) (b : List TItem) (h :
  ((((a.length : Int) != (b.length : Int)) = true → K (l_eqItemS_R false)) ∧ (((a.length : Int) != (b.length : Int)) = false → (l_eqItemS_A2 K a b (0 : Int))))) : Hold (tawp l_eqItemS_G 0 l_eqItemS_c (TQ 0 l_eqItemS_rs K) (tstart [(.c (.sl ctItem) a), (.c (.sl ctItem) b)])) :=
  Hold.of (by kernel_rfl) h
theorem l_eqItemS_t (a : List TItem) (b : List TItem) (r : TRes) (h : Hold (tawp l_eqItemS_G 0 l_eqItemS_c (TQ 0 l_eqItemS_rs fun r' => r' = r) (tstart [(.c (.sl ctItem) a), (.c (.sl ctItem) b)]))) : TCon Try.prog 124 [(.c (.sl ctItem) a), (.c (.sl ctItem) b)] r :=
  tcon_gen (sg := [(.c (.sl ctItem)), (.c (.sl ctItem))]) mixed (TOk.cons l_eqItem_ok TOk.nil) l_eqItemS_st (by kernel_rfl) (by kernel_rfl) (by kernel_rfl) h
theorem l_eqItemS_h : l_eqItemS_C := by
  intro a b
  refine tcon_bd rfl fun hb => l_eqItemS_t a b _ (l_eqItemS_v0 _ a b ?_)
  exact eqLoopG ((0, []) : TItem) (E := m_eq) (fun _ _ => rfl) hb.1.1 (fun i h => l_eqItemS_v2 _ a b i h) (Q := fun x => l_eqItemS_R x = l_eqItemS_R (m_eq (α := List TItem) a b)) rfl

theorem l_eqItemS_ok : TRowOk Try.prog l_eqItemS_row := rowOk fun x _ => l_eqItemS_h x.1 x.2.1

def l_eqQueue_R (t : Bool) : TRes := ⟨(.c .bool t), [], [], false⟩
def l_eqQueue_row : TRow := mkRow 49 [(.a ctQueue), (.a ctQueue)] fun x => (none, l_eqQueue_R (m_eq (α := TQueue) x.1 x.2.1))
def l_eqQueue_C : Prop := ∀ (x0 : TQueue) (x1 : TQueue), TCon Try.prog 49 [(.a [(.c TI x0.1), (.c (.sl ctItem) x0.2)]), (.a [(.c TI x1.1), (.c (.sl ctItem) x1.2)])] (l_eqQueue_R (m_eq (α := TQueue) x0 x1))

/-! laws.eqQueue -/
def l_eqQueue_G : List TRow := [l_eqItemS_row]
def l_eqQueue_c : TCode :=
  (.seq (.reg [.op (some 2) (.box 52 (.s 0) 2),
    .op (some 3) (.box 52 (.s 1) 2),
    .op (some 4) (.mov (.k (.c .bool false)))])
 (.seq (.seq (.reg [.op (some 5) (.fad (.s 2) 0),
      .op (some 6) (.load (.s 5) 1 false),
      .op (some 7) (.fad (.s 3) 0),
      .op (some 8) (.load (.s 7) 1 false),
      .op (some 9) (.bin .neq (.s 6) (.s 8))])
   (.cond (.s 9) (.seq (.reg [.op (some 4) (.mov (.k (.c .bool false)))])
     .ret) .skip))
  (.seq (.seq (.reg [.op (some 10) (.fad (.s 2) 1),
       .op (some 11) (.load (.s 10) 1 false),
       .op (some 12) (.fad (.s 3) 1),
       .op (some 13) (.load (.s 12) 1 false),
       .op (some 14) (.call 124 [(.s 11), (.s 13)]),
       .op (some 15) (.not (.s 14))])
    (.cond (.s 15) (.seq (.reg [.op (some 4) (.mov (.k (.c .bool false)))])
      .ret) .skip))
   (.seq (.reg [.op (some 4) (.mov (.k (.c .bool true)))])
    .ret))))
def l_eqQueue_rs : List (ARv × Md) := [(.t 4, .one .d)]
theorem l_eqQueue_st : compF Try.prog 49 = some (l_eqQueue_c.er, l_eqQueue_rs.map Prod.fst, 16) := by kernel_rfl
def l_eqQueue_Q (K : TRes → Prop) : TPost := TQ 0 l_eqQueue_rs K
theorem l_eqQueue_v0 (K : TRes → Prop) (a : TQueue) (b : TQueue) (h :
  (((a.1 != b.1) = true → K (l_eqQueue_R false)) ∧ ((a.1 != b.1) = false → (((!(m_eq (α := List TItem) a.2 b.2)) = true → K (l_eqQueue_R false)) ∧ ((!(m_eq (α := List TItem) a.2 b.2)) = false → K (l_eqQueue_R true)))))) : Hold (tawp l_eqQueue_G 0 l_eqQueue_c (TQ 0 l_eqQueue_rs K) (tstart [(.a [(.c TI a.1), (.c (.sl ctItem) a.2)]), (.a [(.c TI b.1), (.c (.sl ctItem) b.2)])])) :=
  Hold.of (by kernel_rfl) h
theorem l_eqQueue_t (a : TQueue) (b : TQueue) (r : TRes) (h : Hold (tawp l_eqQueue_G 0 l_eqQueue_c (TQ 0 l_eqQueue_rs fun r' => r' = r) (tstart [(.a [(.c TI a.1), (.c (.sl ctItem) a.2)]), (.a [(.c TI b.1), (.c (.sl ctItem) b.2)])]))) : TCon Try.prog 49 [(.a [(.c TI a.1), (.c (.sl ctItem) a.2)]), (.a [(.c TI b.1), (.c (.sl ctItem) b.2)])] r :=
  tcon_gen (sg := [(.a ctQueue), (.a ctQueue)]) mixed (TOk.cons l_eqItemS_ok TOk.nil) l_eqQueue_st (by kernel_rfl) (by kernel_rfl) (by kernel_rfl) h
theorem l_eqQueue_h : l_eqQueue_C := by
  intro a b
  refine tcon_bd rfl fun hb => l_eqQueue_t a b _ (l_eqQueue_v0 _ a b ?_)
  refine ⟨fun h => R_eq (Eq.symm (decide_eq_false (by rintro rfl; simp [m_eq] at h))), fun h0 => ?_⟩
  refine ⟨fun h => R_eq (Eq.symm (decide_eq_false (by rintro rfl; simp [m_eq] at h))), fun h1 => ?_⟩
  refine R_eq (Eq.symm (decide_eq_true ?_))
  simp [m_eq] at h0 h1
  simp [Prod.ext_iff, *]

theorem l_eqQueue_ok : TRowOk Try.prog l_eqQueue_row := rowOk fun x _ => l_eqQueue_h x.1 x.2.1

def l_eqQueueS_R (t : Bool) : TRes := ⟨(.c .bool t), [], [], false⟩
def l_eqQueueS_row : TRow := mkRow 171 [(.c (.sl ctQueue)), (.c (.sl ctQueue))] fun x => (none, l_eqQueueS_R (m_eq (α := List TQueue) x.1 x.2.1))
def l_eqQueueS_C : Prop := ∀ (x0 : List TQueue) (x1 : List TQueue), TCon Try.prog 171 [(.c (.sl ctQueue) x0), (.c (.sl ctQueue) x1)] (l_eqQueueS_R (m_eq (α := List TQueue) x0 x1))

/-! laws.eqQueueS -/
def l_eqQueueS_G : List TRow := [l_eqQueue_row]
def l_eqQueueS_b2 : TCode :=
  (.seq (.seq (.reg [.op (some 11) (.mov (.s 5)),
     .op (some 12) (.mov (.s 0)),
     .op (some 13) (.len (.s 12)),
     .op (some 14) (.bin .lss (.s 11) (.s 13))])
  (.cond (.s 14) .skip (.exit 0)))
 (.seq (.block 1 (.seq (.draw [.op (some 17) (.mov (.s 0)),
       .op (some 18) (.mov (.s 5)),
       .op (some 19) (.iad (.s 17) (.s 18) ctQueue),
       .op (some 20) (.load (.s 19) 2 true),
       .op (some 21) (.mov (.s 1)),
       .op (some 22) (.mov (.s 5)),
       .op (some 23) (.iad (.s 21) (.s 22) ctQueue),
       .op (some 24) (.load (.s 23) 2 true),
       .op (some 25) (.call 49 [(.s 20), (.s 24)]),
       .op (some 26) (.not (.s 25))] [])
    (.cond (.s 26) (.seq (.reg [.op (some 4) (.mov (.k (.c .bool false)))])
      .ret) .skip)))
  (.reg [.op (some 15) (.mov (.s 5)),
     .op (some 16) (.bin .add (.s 15) (.k (.c TI (1 : Int)))),
     .op (some 5) (.mov (.s 16))])))
def l_eqQueueS_L2 : List (Nat × Md) := [(0, .one .d), (1, .one .d), (5, .one .d)]
def l_eqQueueS_y1 : TCode :=
  (.seq (.reg [.op (some 4) (.mov (.k (.c .bool true)))])
 .ret)
def l_eqQueueS_c : TCode :=
  (.seq (.reg [.op (some 4) (.mov (.k (.c .bool false)))])
 (.seq (.seq (.reg [.op (some 6) (.mov (.s 0)),
      .op (some 7) (.len (.s 6)),
      .op (some 8) (.mov (.s 1)),
      .op (some 9) (.len (.s 8)),
      .op (some 10) (.bin .neq (.s 7) (.s 9))])
   (.cond (.s 10) (.seq (.reg [.op (some 4) (.mov (.k (.c .bool false)))])
     .ret) .skip))
  (.seq (.seq (.reg [.op (some 5) (.mov (.k (.c TI (0 : Int))))])
    (.block 0 (.loop l_eqQueueS_L2 l_eqQueueS_b2)))
   l_eqQueueS_y1)))
def l_eqQueueS_rs : List (ARv × Md) := [(.t 4, .one .d)]
theorem l_eqQueueS_st : compF Try.prog 171 = some (l_eqQueueS_c.er, l_eqQueueS_rs.map Prod.fst, 27) := by kernel_rfl
def l_eqQueueS_Q (K : TRes → Prop) : TPost := TQ 0 l_eqQueueS_rs K
def l_eqQueueS_q1 (K : TRes → Prop) : TPost := Qseq (tawp l_eqQueueS_G 0 l_eqQueueS_y1 (l_eqQueueS_Q K)) (l_eqQueueS_Q K)
def l_eqQueueS_q2 (K : TRes → Prop) : TPost := Qblk 0 (l_eqQueueS_q1 K)
def l_eqQueueS_A2 (K : TRes → Prop) (a : List TQueue) (b : List TQueue) (i : Int) : Prop := Loop l_eqQueueS_G 0 l_eqQueueS_L2 l_eqQueueS_b2 (l_eqQueueS_q2 K) ⟨[(0, (.c (.sl ctQueue) a)), (1, (.c (.sl ctQueue) b)), (5, (.c TI i))], [], 0⟩
theorem l_eqQueueS_v2 (K : TRes → Prop) (a : List TQueue) (b : List TQueue) (i : Int) (h :
  (((decide (i < (a.length : Int))) = true → ((((0 : Int) ≤ i ∧ Int.toNat i < a.length) ∧ ((0 : Int) ≤ i ∧ Int.toNat i < b.length)) ∧ (((!(m_eq (α := TQueue) (gtd dQueue a (Int.toNat i)) (gtd dQueue b (Int.toNat i)))) = true → K (l_eqQueueS_R false)) ∧ ((!(m_eq (α := TQueue) (gtd dQueue a (Int.toNat i)) (gtd dQueue b (Int.toNat i)))) = false → (l_eqQueueS_A2 K a b (w64 (i + (1 : Int)))))))) ∧ ((decide (i < (a.length : Int))) = false → K (l_eqQueueS_R true)))) : l_eqQueueS_A2 K a b i :=
  Loop.of (by kernel_rfl) h
theorem l_eqQueueS_v0 (K : TRes → Prop) (a : List TQueue) (b : List TQueue) (h :
  ((((a.length : Int) != (b.length : Int)) = true → K (l_eqQueueS_R false)) ∧ (((a.length : Int) != (b.length : Int)) = false → (l_eqQueueS_A2 K a b (0 : Int))))) : Hold (tawp l_eqQueueS_G 0 l_eqQueueS_c (TQ 0 l_eqQueueS_rs K) (tstart [(.c (.sl ctQueue) a), (.c (.sl ctQueue) b)])) :=
  Hold.of (by kernel_rfl) h
theorem l_eqQueueS_t (a : List TQueue) (b : List TQueue) (r : TRes) (h : Hold (tawp l_eqQueueS_G 0 l_eqQueueS_c (TQ 0 l_eqQueueS_rs fun r' => r' = r) (tstart [(.c (.sl ctQueue) a), (.c (.sl ctQueue) b)]))) : TCon Try.prog 171 [(.c (.sl ctQueue) a), (.c (.sl ctQueue) b)] r :=
  tcon_gen (sg := [(.c (.sl ctQueue)), (.c (.sl ctQueue))]) mixed (TOk.cons l_eqQueue_ok TOk.nil) l_eqQueueS_st (by kernel_rfl) (by kernel_rfl) (by kernel_rfl) h
theorem l_eqQueueS_h : l_eqQueueS_C := by
  intro a b
  refine tcon_bd rfl fun hb => l_eqQueueS_t a b _ (l_eqQueueS_v0 _ a b ?_)
  exact eqLoopG dQueue (E := m_eq) (fun _ _ => rfl) hb.1.1 (fun i h => l_eqQueueS_v2 _ a b i h) (Q := fun x => l_eqQueueS_R x = l_eqQueueS_R (m_eq (α := List TQueue) a b)) rfl

theorem l_eqQueueS_ok : TRowOk Try.prog l_eqQueueS_row := rowOk fun x _ => l_eqQueueS_h x.1 x.2.1

end
end Go.Proofs.Ytpnblnkggeopkaa.Am
