/-
  Written by program: the code of functions, what it asks, and that it comes to what the models say.
-/
import Derived.Test.YtephkbajoofeoaaH1
namespace Go.Proofs.Ytephkbajoofeoaa.Am
open Go Go.RowKit Go.Proofs.Ytephkbajoofeoaa
set_option linter.unusedVariables false
set_option linter.unusedSimpArgs false
noncomputable section

def l_szOp_R (t : Int) : TRes := ⟨(.c TI t), [], [], false, []⟩
def l_szOp_row : TRow := mkRow 151 [(.a ctOp), (.c TI)] fun x => (some (p_sz (α := TOp') x.1 x.2.1), l_szOp_R (m_sz (α := TOp') x.1 x.2.1))
def l_szOp_C : Prop := ∀ (x0 : TOp') (x1 : Int), (p_sz (α := TOp') x0 x1) → TCon Try.prog 151 [(.a (Tup.cells ctOp x0)), (.c TI x1)] (l_szOp_R (m_sz (α := TOp') x0 x1))

/-! laws.szOp -/
def l_szOp_G : List TRow := [l_szIntS_row]
def l_szOp_c : TCode :=
  (.seq (.reg [.op (some 2) (.box 186 (.s 0) 4),
    .op (some 4) (.mov (.k (.c TI (0 : Int))))])
 (.seq (.reg [.op (some 5) (.fad (.s 2) 3),
     .op (some 6) (.load (.s 5) 1 false),
     .op (some 7) (.mov (.s 1)),
     .op (some 8) (.call 124 [(.s 6), (.s 7)]),
     .op (some 1) (.mov (.s 8))])
  (.seq (.seq (.reg [.op (some 9) (.mov (.s 1)),
       .op (some 10) (.bin .lss (.s 9) (.k (.c TI (0 : Int))))])
    (.cond (.s 10) (.seq (.reg [.op (some 4) (.mov (.k (.c TI (-1 : Int))))])
      .ret) .skip))
   (.seq (.reg [.op (some 11) (.mov (.s 1)),
       .op (some 4) (.mov (.s 11))])
    .ret))))
def l_szOp_rs : List (ARv × Md) := [(.t 4, .one .d)]
theorem l_szOp_st : compF Try.prog 151 = some (l_szOp_c.er, l_szOp_rs.map Prod.fst, 12) := by kernel_rfl
def l_szOp_Q (K : TRes → Prop) : TPost := TQ 0 0 l_szOp_rs K
theorem l_szOp_v0 (K : TRes → Prop) (a : TOp') (left : Int) (h :
  ((p_sz (α := List Int) a.2.2.2 left) ∧ (((decide ((m_sz (α := List Int) a.2.2.2 left) < (0 : Int))) = true → K (l_szOp_R (-1 : Int))) ∧ ((decide ((m_sz (α := List Int) a.2.2.2 left) < (0 : Int))) = false → K (l_szOp_R (m_sz (α := List Int) a.2.2.2 left)))))) : Hold (tawp l_szOp_G (0 + 0) l_szOp_c (TQ 0 0 l_szOp_rs K) (tstart [(.a (Tup.cells ctOp a)), (.c TI left)])) :=
  Hold.of (by kernel_rfl) h
theorem l_szOp_t (a : TOp') (left : Int) (r : TRes) (h : Hold (tawp l_szOp_G (0 + 0) l_szOp_c (TQ 0 0 l_szOp_rs fun r' => r' = r) (tstart [(.a (Tup.cells ctOp a)), (.c TI left)]))) : TCon Try.prog 151 [(.a (Tup.cells ctOp a)), (.c TI left)] r :=
  tcon_gen (sg := [(.a ctOp), (.c TI)]) mixed (TOk.cons l_szIntS_ok TOk.nil) l_szOp_st (by kernel_rfl) (by kernel_rfl) (by kernel_rfl) (by kernel_rfl) h
theorem l_szOp_h : l_szOp_C := by
  intro a left hp
  refine tcon_bd rfl fun hb => l_szOp_t a left _ (l_szOp_v0 _ a left ?_)
  refine ⟨hp, fun h => R_eq (sz_neg (of_decide_eq_true h) (by first | omega | (simp only [sz_prod, sz_int, sz_bool]; omega)) hp.1), fun h => ?_⟩
  exact R_eq (congrArg (m_szN · _) (by first | rfl | omega | (simp only [sz_prod, sz_int, sz_bool]; omega)))

theorem l_szOp_ok : TRowOk Try.prog l_szOp_row := rowOk fun x h => l_szOp_h x.1 x.2.1 h

def l_szOpS_R (t : Int) : TRes := ⟨(.c TI t), [], [], false, []⟩
def l_szOpS_row : TRow := mkRow 82 [(.c (.sl ctOp)), (.c TI)] fun x => (some (p_sz (α := List TOp') x.1 x.2.1), l_szOpS_R (m_sz (α := List TOp') x.1 x.2.1))
def l_szOpS_C : Prop := ∀ (x0 : List TOp') (x1 : Int), (p_sz (α := List TOp') x0 x1) → TCon Try.prog 82 [(.c (.sl ctOp) x0), (.c TI x1)] (l_szOpS_R (m_sz (α := List TOp') x0 x1))

/-! laws.szOpS -/
def l_szOpS_G : List TRow := [l_szOp_row]
def l_szOpS_b2 : TCode :=
  (.seq (.seq (.reg [.op (some 12) (.mov (.s 5)),
     .op (some 13) (.mov (.s 0)),
     .op (some 14) (.len (.s 13)),
     .op (some 15) (.bin .lss (.s 12) (.s 14))])
  (.cond (.s 15) .skip (.exit 0)))
 (.seq (.block 1 (.seq (.reg [.op (some 18) (.mov (.s 0)),
       .op (some 19) (.mov (.s 5)),
       .op (some 20) (.iad (.s 18) (.s 19) ctOp),
       .op (some 21) (.load (.s 20) 4 true),
       .op (some 22) (.mov (.s 1)),
       .op (some 23) (.call 151 [(.s 21), (.s 22)]),
       .op (some 1) (.mov (.s 23))])
    (.seq (.reg [.op (some 24) (.mov (.s 1)),
        .op (some 25) (.bin .lss (.s 24) (.k (.c TI (0 : Int))))])
     (.cond (.s 25) (.seq (.reg [.op (some 4) (.mov (.k (.c TI (-1 : Int))))])
       .ret) .skip))))
  (.reg [.op (some 16) (.mov (.s 5)),
     .op (some 17) (.bin .add (.s 16) (.k (.c TI (1 : Int)))),
     .op (some 5) (.mov (.s 17))])))
def l_szOpS_L2 : List (Nat × Md) := [(0, .one .d), (1, .one .d), (5, .one .d)]
def l_szOpS_y1 : TCode :=
  (.seq (.reg [.op (some 26) (.mov (.s 1)),
    .op (some 4) (.mov (.s 26))])
 .ret)
def l_szOpS_c : TCode :=
  (.seq (.reg [.op (some 4) (.mov (.k (.c TI (0 : Int))))])
 (.seq (.reg [.op (some 6) (.mov (.s 1)),
     .op (some 7) (.mov (.s 0)),
     .op (some 8) (.len (.s 7)),
     .op (some 9) (.bin .sub (.s 6) (.s 8)),
     .op (some 1) (.mov (.s 9))])
  (.seq (.seq (.reg [.op (some 10) (.mov (.s 1)),
       .op (some 11) (.bin .lss (.s 10) (.k (.c TI (0 : Int))))])
    (.cond (.s 11) (.seq (.reg [.op (some 4) (.mov (.k (.c TI (-1 : Int))))])
      .ret) .skip))
   (.seq (.seq (.reg [.op (some 5) (.mov (.k (.c TI (0 : Int))))])
     (.block 0 (.loop l_szOpS_L2 l_szOpS_b2)))
    l_szOpS_y1))))
def l_szOpS_rs : List (ARv × Md) := [(.t 4, .one .d)]
theorem l_szOpS_st : compF Try.prog 82 = some (l_szOpS_c.er, l_szOpS_rs.map Prod.fst, 27) := by kernel_rfl
def l_szOpS_Q (K : TRes → Prop) : TPost := TQ 0 0 l_szOpS_rs K
def l_szOpS_q1 (K : TRes → Prop) : TPost := Qseq (tawp l_szOpS_G 0 l_szOpS_y1 (l_szOpS_Q K)) (l_szOpS_Q K)
def l_szOpS_q2 (K : TRes → Prop) : TPost := Qblk 0 (l_szOpS_q1 K)
def l_szOpS_A2 (K : TRes → Prop) (a : List TOp') (left1 : Int) (i : Int) : Prop := Loop l_szOpS_G 0 l_szOpS_L2 l_szOpS_b2 (l_szOpS_q2 K) ⟨[(0, (.c (.sl ctOp) a)), (1, (.c TI left1)), (5, (.c TI i))], [], 0⟩
theorem l_szOpS_v2 (K : TRes → Prop) (a : List TOp') (left1 : Int) (i : Int) (h :
  (((decide (i < (a.length : Int))) = true → ((((0 : Int) ≤ i ∧ Int.toNat i < a.length) ∧ (p_sz (α := TOp') (gtd dOp a (Int.toNat i)) left1)) ∧ (((decide ((m_sz (α := TOp') (gtd dOp a (Int.toNat i)) left1) < (0 : Int))) = true → K (l_szOpS_R (-1 : Int))) ∧ ((decide ((m_sz (α := TOp') (gtd dOp a (Int.toNat i)) left1) < (0 : Int))) = false → (l_szOpS_A2 K a (m_sz (α := TOp') (gtd dOp a (Int.toNat i)) left1) (w64 (i + (1 : Int)))))))) ∧ ((decide (i < (a.length : Int))) = false → K (l_szOpS_R left1)))) : l_szOpS_A2 K a left1 i :=
  Loop.of (by kernel_rfl) h
theorem l_szOpS_v0 (K : TRes → Prop) (a : List TOp') (left : Int) (h :
  (((decide ((w64 (left - (a.length : Int))) < (0 : Int))) = true → K (l_szOpS_R (-1 : Int))) ∧ ((decide ((w64 (left - (a.length : Int))) < (0 : Int))) = false → (l_szOpS_A2 K a (w64 (left - (a.length : Int))) (0 : Int))))) : Hold (tawp l_szOpS_G (0 + 0) l_szOpS_c (TQ 0 0 l_szOpS_rs K) (tstart [(.c (.sl ctOp) a), (.c TI left)])) :=
  Hold.of (by kernel_rfl) h
theorem l_szOpS_t (a : List TOp') (left : Int) (r : TRes) (h : Hold (tawp l_szOpS_G (0 + 0) l_szOpS_c (TQ 0 0 l_szOpS_rs fun r' => r' = r) (tstart [(.c (.sl ctOp) a), (.c TI left)]))) : TCon Try.prog 82 [(.c (.sl ctOp) a), (.c TI left)] r :=
  tcon_gen (sg := [(.c (.sl ctOp)), (.c TI)]) mixed (TOk.cons l_szOp_ok TOk.nil) l_szOpS_st (by kernel_rfl) (by kernel_rfl) (by kernel_rfl) (by kernel_rfl) h
theorem l_szOpS_h : l_szOpS_C := by
  intro a left hp
  refine tcon_bd rfl fun hb => l_szOpS_t a left _ (l_szOpS_v0 _ a left ?_)
  exact szLoop (Q := fun x => l_szOpS_R x = l_szOpS_R (m_sz (α := List TOp') a left)) dOp hp hb.1.1 (fun l i h => l_szOpS_v2 _ a l i h) rfl

theorem l_szOpS_ok : TRowOk Try.prog l_szOpS_row := rowOk fun x h => l_szOpS_h x.1 x.2.1 h

def l_szModel_R (t : Int) : TRes := ⟨(.c TI t), [], [], false, []⟩
def l_szModel_row : TRow := mkRow 63 [(.a [(.sl ctOp)]), (.c TI)] fun x => (some (p_sz (α := List TOp') x.1 x.2.1), l_szModel_R (m_sz (α := List TOp') x.1 x.2.1))
def l_szModel_C : Prop := ∀ (x0 : List TOp') (x1 : Int), (p_sz (α := List TOp') x0 x1) → TCon Try.prog 63 [(.a [(.c (.sl ctOp) x0)]), (.c TI x1)] (l_szModel_R (m_sz (α := List TOp') x0 x1))

/-! laws.szModel -/
def l_szModel_G : List TRow := [l_szOpS_row]
def l_szModel_c : TCode :=
  (.seq (.reg [.op (some 2) (.box 94 (.s 0) 1),
    .op (some 4) (.mov (.k (.c TI (0 : Int))))])
 (.seq (.reg [.op (some 5) (.fad (.s 2) 0),
     .op (some 6) (.load (.s 5) 1 false),
     .op (some 7) (.mov (.s 1)),
     .op (some 8) (.call 82 [(.s 6), (.s 7)]),
     .op (some 1) (.mov (.s 8))])
  (.seq (.seq (.reg [.op (some 9) (.mov (.s 1)),
       .op (some 10) (.bin .lss (.s 9) (.k (.c TI (0 : Int))))])
    (.cond (.s 10) (.seq (.reg [.op (some 4) (.mov (.k (.c TI (-1 : Int))))])
      .ret) .skip))
   (.seq (.reg [.op (some 11) (.mov (.s 1)),
       .op (some 4) (.mov (.s 11))])
    .ret))))
def l_szModel_rs : List (ARv × Md) := [(.t 4, .one .d)]
theorem l_szModel_st : compF Try.prog 63 = some (l_szModel_c.er, l_szModel_rs.map Prod.fst, 12) := by kernel_rfl
def l_szModel_Q (K : TRes → Prop) : TPost := TQ 0 0 l_szModel_rs K
theorem l_szModel_v0 (K : TRes → Prop) (a : List TOp') (left : Int) (h :
  ((p_sz (α := List TOp') a left) ∧ (((decide ((m_sz (α := List TOp') a left) < (0 : Int))) = true → K (l_szModel_R (-1 : Int))) ∧ ((decide ((m_sz (α := List TOp') a left) < (0 : Int))) = false → K (l_szModel_R (m_sz (α := List TOp') a left)))))) : Hold (tawp l_szModel_G (0 + 0) l_szModel_c (TQ 0 0 l_szModel_rs K) (tstart [(.a [(.c (.sl ctOp) a)]), (.c TI left)])) :=
  Hold.of (by kernel_rfl) h
theorem l_szModel_t (a : List TOp') (left : Int) (r : TRes) (h : Hold (tawp l_szModel_G (0 + 0) l_szModel_c (TQ 0 0 l_szModel_rs fun r' => r' = r) (tstart [(.a [(.c (.sl ctOp) a)]), (.c TI left)]))) : TCon Try.prog 63 [(.a [(.c (.sl ctOp) a)]), (.c TI left)] r :=
  tcon_gen (sg := [(.a [(.sl ctOp)]), (.c TI)]) mixed (TOk.cons l_szOpS_ok TOk.nil) l_szModel_st (by kernel_rfl) (by kernel_rfl) (by kernel_rfl) (by kernel_rfl) h
theorem l_szModel_h : l_szModel_C := by
  intro a left hp
  refine tcon_bd rfl fun hb => l_szModel_t a left _ (l_szModel_v0 _ a left ?_)
  refine ⟨hp, fun h => R_eq (sz_neg (of_decide_eq_true h) (by first | omega | (simp only [sz_prod, sz_int, sz_bool]; omega)) hp.1), fun h => ?_⟩
  exact R_eq (congrArg (m_szN · _) (by first | rfl | omega | (simp only [sz_prod, sz_int, sz_bool]; omega)))

theorem l_szModel_ok : TRowOk Try.prog l_szModel_row := rowOk fun x h => l_szModel_h x.1 x.2.1 h

def l_toOp_R (t : TOp') : TRes := ⟨(.a (Tup.cells ctOp t)), [], [], true, []⟩
def l_toOp_row : TRow := mkRow 154 [(.a ctOp)] fun x => (some (p_to (α := TOp') x.1), l_toOp_R (id (α := TOp') x.1))
def l_toOp_C : Prop := ∀ (x0 : TOp'), (p_to (α := TOp') x0) → TCon Try.prog 154 [(.a (Tup.cells ctOp x0))] (l_toOp_R (id (α := TOp') x0))

/-! laws.toOp -/
def l_toOp_G : List TRow := [l_toIntS_row]
def l_toOp_c : TCode :=
  (.seq (.reg [.op (some 1) (.box 186 (.s 0) 4),
    .op (some 2) (.new 76 [(.c TI (0 : Int)), (.c TI (0 : Int)), (.c TI (0 : Int)), (.n [TI])])])
 (.seq (.reg [.op (some 3) (.new 76 [(.c TI (0 : Int)), (.c TI (0 : Int)), (.c TI (0 : Int)), (.n [TI])])])
  (.seq (.reg [.op (some 4) (.fad (.s 1) 0),
      .op (some 5) (.load (.s 4) 1 false),
      .op (some 6) (.fad (.s 3) 0),
      .op none (.store (.s 6) (.s 5) 1)])
   (.seq (.reg [.op (some 7) (.fad (.s 1) 1),
       .op (some 8) (.load (.s 7) 1 false),
       .op (some 9) (.fad (.s 3) 1),
       .op none (.store (.s 9) (.s 8) 1)])
    (.seq (.reg [.op (some 10) (.fad (.s 1) 2),
        .op (some 11) (.load (.s 10) 1 false),
        .op (some 12) (.fad (.s 3) 2),
        .op none (.store (.s 12) (.s 11) 1)])
     (.seq (.reg [.op (some 13) (.fad (.s 1) 3),
         .op (some 14) (.load (.s 13) 1 false),
         .op (some 15) (.call 127 [(.s 14)]),
         .op (some 16) (.fad (.s 3) 3),
         .op none (.store (.s 16) (.s 15) 1)])
      (.seq (.reg [.op (some 17) (.load (.s 3) 4 true),
          .op none (.store (.s 2) (.s 17) 4)])
       .ret)))))))
def l_toOp_rs : List (ARv × Md) := [(.l 2 4 true, .b [.d, .d, .d, .d])]
theorem l_toOp_st : compF Try.prog 154 = some (l_toOp_c.er, l_toOp_rs.map Prod.fst, 18) := by kernel_rfl
def l_toOp_Q (K : TRes → Prop) : TPost := TQ 0 0 l_toOp_rs K
theorem l_toOp_v0 (K : TRes → Prop) (a : TOp') (h :
  ((p_to (α := List Int) a.2.2.2) ∧ K (l_toOp_R (a.1, a.2.1, a.2.2.1, (id (α := List Int) a.2.2.2))))) : Hold (tawp l_toOp_G (0 + 0) l_toOp_c (TQ 0 0 l_toOp_rs K) (tstart [(.a (Tup.cells ctOp a))])) :=
  Hold.of (by kernel_rfl) h
theorem l_toOp_t (a : TOp') (r : TRes) (h : Hold (tawp l_toOp_G (0 + 0) l_toOp_c (TQ 0 0 l_toOp_rs fun r' => r' = r) (tstart [(.a (Tup.cells ctOp a))]))) : TCon Try.prog 154 [(.a (Tup.cells ctOp a))] r :=
  tcon_gen (sg := [(.a ctOp)]) mixed (TOk.cons l_toIntS_ok TOk.nil) l_toOp_st (by kernel_rfl) (by kernel_rfl) (by kernel_rfl) (by kernel_rfl) h
theorem l_toOp_h : l_toOp_C := by
  intro a hp
  refine tcon_bd rfl fun hb => l_toOp_t a _ (l_toOp_v0 _ a ?_)
  repeat' (first | exact rfl | refine And.intro ?_ ?_)
  all_goals (simp only [p_to, sz_prod, sz_int, sz_bool] at hp ⊢; omega)

theorem l_toOp_ok : TRowOk Try.prog l_toOp_row := rowOk fun x h => l_toOp_h x.1 h

def l_toOpS_R (t : (List TOp')) : TRes := ⟨(.c (.sl ctOp) t), [], [], true, []⟩
def l_toOpS_row : TRow := mkRow 84 [(.c (.sl ctOp))] fun x => (some (p_to (α := List TOp') x.1), l_toOpS_R (id (α := List TOp') x.1))
def l_toOpS_C : Prop := ∀ (x0 : List TOp'), (p_to (α := List TOp') x0) → TCon Try.prog 84 [(.c (.sl ctOp) x0)] (l_toOpS_R (id (α := List TOp') x0))

/-! laws.toOpS -/
def l_toOpS_G : List TRow := [l_toOp_row]
def l_toOpS_b2 : TCode :=
  (.seq (.seq (.reg [.op (some 8) (.mov (.s 4)),
     .op (some 9) (.mov (.s 0)),
     .op (some 10) (.len (.s 9)),
     .op (some 11) (.bin .lss (.s 8) (.s 10))])
  (.cond (.s 11) .skip (.exit 0)))
 (.seq (.block 1 (.reg [.op (some 14) (.mov (.s 3)),
      .op (some 15) (.mov (.s 4)),
      .op (some 16) (.mov (.s 0)),
      .op (some 17) (.mov (.s 4)),
      .op (some 18) (.iad (.s 16) (.s 17) ctOp),
      .op (some 19) (.load (.s 18) 4 true),
      .op (some 20) (.call 154 [(.s 19)]),
      .op (some 21) (.iad (.s 14) (.s 15) ctOp),
      .op none (.store (.s 21) (.s 20) 4)]))
  (.reg [.op (some 12) (.mov (.s 4)),
     .op (some 13) (.bin .add (.s 12) (.k (.c TI (1 : Int)))),
     .op (some 4) (.mov (.s 13))])))
def l_toOpS_L2 : List (Nat × Md) := [(0, .one .d), (3, .one .f), (4, .one .d)]
def l_toOpS_y1 : TCode :=
  (.seq (.reg [.op (some 22) (.mov (.s 3)),
    .op (some 2) (.mov (.s 22))])
 .ret)
def l_toOpS_c : TCode :=
  (.seq (.reg [.op (some 2) (.mov (.k (.n ctOp)))])
 (.seq (.reg [.op (some 5) (.mov (.s 0)),
     .op (some 6) (.len (.s 5)),
     .op (some 7) (.mk 76 ctOp [(.c TI (0 : Int)), (.c TI (0 : Int)), (.c TI (0 : Int)), (.n [TI])] (.s 6)),
     .op (some 3) (.mov (.s 7))])
  (.seq (.seq (.reg [.op (some 4) (.mov (.k (.c TI (0 : Int))))])
    (.block 0 (.loop l_toOpS_L2 l_toOpS_b2)))
   l_toOpS_y1)))
def l_toOpS_rs : List (ARv × Md) := [(.t 2, .one .d)]
theorem l_toOpS_st : compF Try.prog 84 = some (l_toOpS_c.er, l_toOpS_rs.map Prod.fst, 23) := by kernel_rfl
def l_toOpS_Q (K : TRes → Prop) : TPost := TQ 0 0 l_toOpS_rs K
def l_toOpS_q1 (K : TRes → Prop) : TPost := Qseq (tawp l_toOpS_G 0 l_toOpS_y1 (l_toOpS_Q K)) (l_toOpS_Q K)
def l_toOpS_q2 (K : TRes → Prop) : TPost := Qblk 0 (l_toOpS_q1 K)
def l_toOpS_A2 (K : TRes → Prop) (a : List TOp') (i : Int) (out : List TOp') : Prop := Loop l_toOpS_G 0 l_toOpS_L2 l_toOpS_b2 (l_toOpS_q2 K) ⟨[(0, (.c (.sl ctOp) a)), (3, (.r ctOp 0 0 out.length)), (4, (.c TI i))], [(0, (.sl 76 ctOp true out))], 1⟩
theorem l_toOpS_v2 (K : TRes → Prop) (a : List TOp') (i : Int) (out : List TOp') (h :
  (((decide (i < (a.length : Int))) = true → ((((0 : Int) ≤ i ∧ Int.toNat i < a.length) ∧ ((p_to (α := TOp') (gtd dOp a (Int.toNat i))) ∧ (((0 : Int) ≤ i ∧ Int.toNat i < out.length) ∧ ((0 + (Int.toNat i)) < out.length)))) ∧ (l_toOpS_A2 K a (w64 (i + (1 : Int))) (List.take out.length ((out).set (0 + (Int.toNat i)) (id (α := TOp') (gtd dOp a (Int.toNat i)))))))) ∧ ((decide (i < (a.length : Int))) = false → K (l_toOpS_R (List.take out.length (List.drop 0 out)))))) : l_toOpS_A2 K a i out :=
  Loop.of (by kernel_rfl) h
theorem l_toOpS_v0 (K : TRes → Prop) (a : List TOp') (h :
  (((0 : Int) ≤ (a.length : Int) ∧ (a.length : Int) ≤ big) ∧ (l_toOpS_A2 K a (0 : Int) (List.take (Int.toNat (a.length : Int)) (List.replicate (Int.toNat (a.length : Int)) ((0 : Int), (0 : Int), (0 : Int), [])))))) : Hold (tawp l_toOpS_G (0 + 0) l_toOpS_c (TQ 0 0 l_toOpS_rs K) (tstart [(.c (.sl ctOp) a)])) :=
  Hold.of (by kernel_rfl) h
theorem l_toOpS_t (a : List TOp') (r : TRes) (h : Hold (tawp l_toOpS_G (0 + 0) l_toOpS_c (TQ 0 0 l_toOpS_rs fun r' => r' = r) (tstart [(.c (.sl ctOp) a)]))) : TCon Try.prog 84 [(.c (.sl ctOp) a)] r :=
  tcon_gen (sg := [(.c (.sl ctOp))]) mixed (TOk.cons l_toOp_ok TOk.nil) l_toOpS_st (by kernel_rfl) (by kernel_rfl) (by kernel_rfl) (by kernel_rfl) h
theorem l_toOpS_h : l_toOpS_C := by
  intro a hp
  refine tcon_bd rfl fun hb => l_toOpS_t a _ (l_toOpS_v0 _ a ?_)
  exact toLoop (Q := fun x => l_toOpS_R x = l_toOpS_R (id (α := List TOp') a)) dOp hp (fun i out h => l_toOpS_v2 _ a i out h) rfl

theorem l_toOpS_ok : TRowOk Try.prog l_toOpS_row := rowOk fun x h => l_toOpS_h x.1 h

def l_toModel_R (t : (List TOp')) : TRes := ⟨(.a [(.c (.sl ctOp) t)]), [], [], true, []⟩
def l_toModel_row : TRow := mkRow 65 [(.a [(.sl ctOp)])] fun x => (some (p_to (α := List TOp') x.1), l_toModel_R (id (α := List TOp') x.1))
def l_toModel_C : Prop := ∀ (x0 : List TOp'), (p_to (α := List TOp') x0) → TCon Try.prog 65 [(.a [(.c (.sl ctOp) x0)])] (l_toModel_R (id (α := List TOp') x0))

/-! laws.toModel -/
def l_toModel_G : List TRow := [l_toOpS_row]
def l_toModel_c : TCode :=
  (.seq (.reg [.op (some 1) (.box 94 (.s 0) 1),
    .op (some 2) (.new 66 [(.n ctOp)])])
 (.seq (.reg [.op (some 3) (.new 66 [(.n ctOp)])])
  (.seq (.reg [.op (some 4) (.fad (.s 1) 0),
      .op (some 5) (.load (.s 4) 1 false),
      .op (some 6) (.call 84 [(.s 5)]),
      .op (some 7) (.fad (.s 3) 0),
      .op none (.store (.s 7) (.s 6) 1)])
   (.seq (.reg [.op (some 8) (.load (.s 3) 1 true),
       .op none (.store (.s 2) (.s 8) 1)])
    .ret))))
def l_toModel_rs : List (ARv × Md) := [(.l 2 1 true, .b [.d])]
theorem l_toModel_st : compF Try.prog 65 = some (l_toModel_c.er, l_toModel_rs.map Prod.fst, 9) := by kernel_rfl
def l_toModel_Q (K : TRes → Prop) : TPost := TQ 0 0 l_toModel_rs K
theorem l_toModel_v0 (K : TRes → Prop) (a : List TOp') (h :
  ((p_to (α := List TOp') a) ∧ K (l_toModel_R (id (α := List TOp') a)))) : Hold (tawp l_toModel_G (0 + 0) l_toModel_c (TQ 0 0 l_toModel_rs K) (tstart [(.a [(.c (.sl ctOp) a)])])) :=
  Hold.of (by kernel_rfl) h
theorem l_toModel_t (a : List TOp') (r : TRes) (h : Hold (tawp l_toModel_G (0 + 0) l_toModel_c (TQ 0 0 l_toModel_rs fun r' => r' = r) (tstart [(.a [(.c (.sl ctOp) a)])]))) : TCon Try.prog 65 [(.a [(.c (.sl ctOp) a)])] r :=
  tcon_gen (sg := [(.a [(.sl ctOp)])]) mixed (TOk.cons l_toOpS_ok TOk.nil) l_toModel_st (by kernel_rfl) (by kernel_rfl) (by kernel_rfl) (by kernel_rfl) h
theorem l_toModel_h : l_toModel_C := by
  intro a hp
  refine tcon_bd rfl fun hb => l_toModel_t a _ (l_toModel_v0 _ a ?_)
  repeat' (first | exact rfl | refine And.intro ?_ ?_)
  all_goals (simp only [p_to, sz_prod, sz_int, sz_bool] at hp ⊢; omega)

theorem l_toModel_ok : TRowOk Try.prog l_toModel_row := rowOk fun x h => l_toModel_h x.1 h

def l_eqOp_R (t : Bool) : TRes := ⟨(.c .bool t), [], [], false, []⟩
def l_eqOp_row : TRow := mkRow 159 [(.a ctOp), (.a ctOp)] fun x => (none, l_eqOp_R (m_eq (α := TOp') x.1 x.2.1))
def l_eqOp_C : Prop := ∀ (x0 : TOp') (x1 : TOp'), TCon Try.prog 159 [(.a (Tup.cells ctOp x0)), (.a (Tup.cells ctOp x1))] (l_eqOp_R (m_eq (α := TOp') x0 x1))

/-! laws.eqOp -/
def l_eqOp_G : List TRow := [l_eqIntS_row]
def l_eqOp_c : TCode :=
  (.seq (.reg [.op (some 2) (.box 76 (.s 0) 4),
    .op (some 3) (.box 76 (.s 1) 4),
    .op (some 4) (.mov (.k (.c .bool false)))])
 (.seq (.seq (.reg [.op (some 5) (.fad (.s 2) 0),
      .op (some 6) (.load (.s 5) 1 false),
      .op (some 7) (.fad (.s 3) 0),
      .op (some 8) (.load (.s 7) 1 false),
      .op (some 9) (.bin .neq (.s 6) (.s 8))])
   (.cond (.s 9) (.seq (.reg [.op (some 4) (.mov (.k (.c .bool false)))])
     .ret) .skip))
  (.seq (.seq (.reg [.op (some 10) (.fad (.s 2) 1),
       .op (some 11) (.load (.s 10) 1 false),
       .op (some 12) (.fad (.s 3) 1),
       .op (some 13) (.load (.s 12) 1 false),
       .op (some 14) (.bin .neq (.s 11) (.s 13))])
    (.cond (.s 14) (.seq (.reg [.op (some 4) (.mov (.k (.c .bool false)))])
      .ret) .skip))
   (.seq (.seq (.reg [.op (some 15) (.fad (.s 2) 2),
        .op (some 16) (.load (.s 15) 1 false),
        .op (some 17) (.fad (.s 3) 2),
        .op (some 18) (.load (.s 17) 1 false),
        .op (some 19) (.bin .neq (.s 16) (.s 18))])
     (.cond (.s 19) (.seq (.reg [.op (some 4) (.mov (.k (.c .bool false)))])
       .ret) .skip))
    (.seq (.seq (.reg [.op (some 20) (.fad (.s 2) 3),
         .op (some 21) (.load (.s 20) 1 false),
         .op (some 22) (.fad (.s 3) 3),
         .op (some 23) (.load (.s 22) 1 false),
         .op (some 24) (.call 66 [(.s 21), (.s 23)]),
         .op (some 25) (.not (.s 24))])
      (.cond (.s 25) (.seq (.reg [.op (some 4) (.mov (.k (.c .bool false)))])
        .ret) .skip))
     (.seq (.reg [.op (some 4) (.mov (.k (.c .bool true)))])
      .ret))))))
def l_eqOp_rs : List (ARv × Md) := [(.t 4, .one .d)]
theorem l_eqOp_st : compF Try.prog 159 = some (l_eqOp_c.er, l_eqOp_rs.map Prod.fst, 26) := by kernel_rfl
def l_eqOp_Q (K : TRes → Prop) : TPost := TQ 0 0 l_eqOp_rs K
theorem l_eqOp_v0 (K : TRes → Prop) (a : TOp') (b : TOp') (h :
  (((a.1 != b.1) = true → K (l_eqOp_R false)) ∧ ((a.1 != b.1) = false → (((a.2.1 != b.2.1) = true → K (l_eqOp_R false)) ∧ ((a.2.1 != b.2.1) = false → (((a.2.2.1 != b.2.2.1) = true → K (l_eqOp_R false)) ∧ ((a.2.2.1 != b.2.2.1) = false → (((!(m_eq (α := List Int) a.2.2.2 b.2.2.2)) = true → K (l_eqOp_R false)) ∧ ((!(m_eq (α := List Int) a.2.2.2 b.2.2.2)) = false → K (l_eqOp_R true)))))))))) : Hold (tawp l_eqOp_G (0 + 0) l_eqOp_c (TQ 0 0 l_eqOp_rs K) (tstart [(.a (Tup.cells ctOp a)), (.a (Tup.cells ctOp b))])) :=
  Hold.of (by kernel_rfl) h
theorem l_eqOp_t (a : TOp') (b : TOp') (r : TRes) (h : Hold (tawp l_eqOp_G (0 + 0) l_eqOp_c (TQ 0 0 l_eqOp_rs fun r' => r' = r) (tstart [(.a (Tup.cells ctOp a)), (.a (Tup.cells ctOp b))]))) : TCon Try.prog 159 [(.a (Tup.cells ctOp a)), (.a (Tup.cells ctOp b))] r :=
  tcon_gen (sg := [(.a ctOp), (.a ctOp)]) mixed (TOk.cons l_eqIntS_ok TOk.nil) l_eqOp_st (by kernel_rfl) (by kernel_rfl) (by kernel_rfl) (by kernel_rfl) h
theorem l_eqOp_h : l_eqOp_C := by
  intro a b
  refine tcon_bd rfl fun hb => l_eqOp_t a b _ (l_eqOp_v0 _ a b ?_)
  refine ⟨fun h => R_eq (Eq.symm (decide_eq_false (by rintro rfl; simp [m_eq] at h))), fun h0 => ?_⟩
  refine ⟨fun h => R_eq (Eq.symm (decide_eq_false (by rintro rfl; simp [m_eq] at h))), fun h1 => ?_⟩
  refine ⟨fun h => R_eq (Eq.symm (decide_eq_false (by rintro rfl; simp [m_eq] at h))), fun h2 => ?_⟩
  refine ⟨fun h => R_eq (Eq.symm (decide_eq_false (by rintro rfl; simp [m_eq] at h))), fun h3 => ?_⟩
  refine R_eq (Eq.symm (decide_eq_true ?_))
  simp [m_eq] at h0 h1 h2 h3
  simp [Prod.ext_iff, *]

theorem l_eqOp_ok : TRowOk Try.prog l_eqOp_row := rowOk fun x _ => l_eqOp_h x.1 x.2.1

def l_eqOpS_R (t : Bool) : TRes := ⟨(.c .bool t), [], [], false, []⟩
def l_eqOpS_row : TRow := mkRow 87 [(.c (.sl ctOp)), (.c (.sl ctOp))] fun x => (none, l_eqOpS_R (m_eq (α := List TOp') x.1 x.2.1))
def l_eqOpS_C : Prop := ∀ (x0 : List TOp') (x1 : List TOp'), TCon Try.prog 87 [(.c (.sl ctOp) x0), (.c (.sl ctOp) x1)] (l_eqOpS_R (m_eq (α := List TOp') x0 x1))

/-! laws.eqOpS -/
def l_eqOpS_G : List TRow := [l_eqOp_row]
def l_eqOpS_b2 : TCode :=
  (.seq (.seq (.reg [.op (some 11) (.mov (.s 5)),
     .op (some 12) (.mov (.s 0)),
     .op (some 13) (.len (.s 12)),
     .op (some 14) (.bin .lss (.s 11) (.s 13))])
  (.cond (.s 14) .skip (.exit 0)))
 (.seq (.block 1 (.seq (.draw [.op (some 17) (.mov (.s 0)),
       .op (some 18) (.mov (.s 5)),
       .op (some 19) (.iad (.s 17) (.s 18) ctOp),
       .op (some 20) (.load (.s 19) 4 true),
       .op (some 21) (.mov (.s 1)),
       .op (some 22) (.mov (.s 5)),
       .op (some 23) (.iad (.s 21) (.s 22) ctOp),
       .op (some 24) (.load (.s 23) 4 true),
       .op (some 25) (.call 159 [(.s 20), (.s 24)]),
       .op (some 26) (.not (.s 25))] [])
    (.cond (.s 26) (.seq (.reg [.op (some 4) (.mov (.k (.c .bool false)))])
      .ret) .skip)))
  (.reg [.op (some 15) (.mov (.s 5)),
     .op (some 16) (.bin .add (.s 15) (.k (.c TI (1 : Int)))),
     .op (some 5) (.mov (.s 16))])))
def l_eqOpS_L2 : List (Nat × Md) := [(0, .one .d), (1, .one .d), (5, .one .d)]
def l_eqOpS_y1 : TCode :=
  (.seq (.reg [.op (some 4) (.mov (.k (.c .bool true)))])
 .ret)
def l_eqOpS_c : TCode :=
  (.seq (.reg [.op (some 4) (.mov (.k (.c .bool false)))])
 (.seq (.seq (.reg [.op (some 6) (.mov (.s 0)),
      .op (some 7) (.len (.s 6)),
      .op (some 8) (.mov (.s 1)),
      .op (some 9) (.len (.s 8)),
      .op (some 10) (.bin .neq (.s 7) (.s 9))])
   (.cond (.s 10) (.seq (.reg [.op (some 4) (.mov (.k (.c .bool false)))])
     .ret) .skip))
  (.seq (.seq (.reg [.op (some 5) (.mov (.k (.c TI (0 : Int))))])
    (.block 0 (.loop l_eqOpS_L2 l_eqOpS_b2)))
   l_eqOpS_y1)))
def l_eqOpS_rs : List (ARv × Md) := [(.t 4, .one .d)]
theorem l_eqOpS_st : compF Try.prog 87 = some (l_eqOpS_c.er, l_eqOpS_rs.map Prod.fst, 27) := by kernel_rfl
def l_eqOpS_Q (K : TRes → Prop) : TPost := TQ 0 0 l_eqOpS_rs K
def l_eqOpS_q1 (K : TRes → Prop) : TPost := Qseq (tawp l_eqOpS_G 0 l_eqOpS_y1 (l_eqOpS_Q K)) (l_eqOpS_Q K)
def l_eqOpS_q2 (K : TRes → Prop) : TPost := Qblk 0 (l_eqOpS_q1 K)
def l_eqOpS_A2 (K : TRes → Prop) (a : List TOp') (b : List TOp') (i : Int) : Prop := Loop l_eqOpS_G 0 l_eqOpS_L2 l_eqOpS_b2 (l_eqOpS_q2 K) ⟨[(0, (.c (.sl ctOp) a)), (1, (.c (.sl ctOp) b)), (5, (.c TI i))], [], 0⟩
theorem l_eqOpS_v2 (K : TRes → Prop) (a : List TOp') (b : List TOp') (i : Int) (h :
  (((decide (i < (a.length : Int))) = true → ((((0 : Int) ≤ i ∧ Int.toNat i < a.length) ∧ ((0 : Int) ≤ i ∧ Int.toNat i < b.length)) ∧ (((!(m_eq (α := TOp') (gtd dOp a (Int.toNat i)) (gtd dOp b (Int.toNat i)))) = true → K (l_eqOpS_R false)) ∧ ((!(m_eq (α := TOp') (gtd dOp a (Int.toNat i)) (gtd dOp b (Int.toNat i)))) = false → (l_eqOpS_A2 K a b (w64 (i + (1 : Int)))))))) ∧ ((decide (i < (a.length : Int))) = false → K (l_eqOpS_R true)))) : l_eqOpS_A2 K a b i :=
  Loop.of (by kernel_rfl) h
theorem l_eqOpS_v0 (K : TRes → Prop) (a : List TOp') (b : List TOp') (h :
  ((((a.length : Int) != (b.length : Int)) = true → K (l_eqOpS_R false)) ∧ (((a.length : Int) != (b.length : Int)) = false → (l_eqOpS_A2 K a b (0 : Int))))) : Hold (tawp l_eqOpS_G (0 + 0) l_eqOpS_c (TQ 0 0 l_eqOpS_rs K) (tstart [(.c (.sl ctOp) a), (.c (.sl ctOp) b)])) :=
  Hold.of (by kernel_rfl) h
theorem l_eqOpS_t (a : List TOp') (b : List TOp') (r : TRes) (h : Hold (tawp l_eqOpS_G (0 + 0) l_eqOpS_c (TQ 0 0 l_eqOpS_rs fun r' => r' = r) (tstart [(.c (.sl ctOp) a), (.c (.sl ctOp) b)]))) : TCon Try.prog 87 [(.c (.sl ctOp) a), (.c (.sl ctOp) b)] r :=
  tcon_gen (sg := [(.c (.sl ctOp)), (.c (.sl ctOp))]) mixed (TOk.cons l_eqOp_ok TOk.nil) l_eqOpS_st (by kernel_rfl) (by kernel_rfl) (by kernel_rfl) (by kernel_rfl) h
theorem l_eqOpS_h : l_eqOpS_C := by
  intro a b
  refine tcon_bd rfl fun hb => l_eqOpS_t a b _ (l_eqOpS_v0 _ a b ?_)
  exact eqLoopG dOp (E := m_eq) (fun _ _ => rfl) hb.1.1 (fun i h => l_eqOpS_v2 _ a b i h) (Q := fun x => l_eqOpS_R x = l_eqOpS_R (m_eq (α := List TOp') a b)) rfl

theorem l_eqOpS_ok : TRowOk Try.prog l_eqOpS_row := rowOk fun x _ => l_eqOpS_h x.1 x.2.1

def l_eqModel_R (t : Bool) : TRes := ⟨(.c .bool t), [], [], false, []⟩
def l_eqModel_row : TRow := mkRow 67 [(.a [(.sl ctOp)]), (.a [(.sl ctOp)])] fun x => (none, l_eqModel_R (m_eq (α := List TOp') x.1 x.2.1))
def l_eqModel_C : Prop := ∀ (x0 : List TOp') (x1 : List TOp'), TCon Try.prog 67 [(.a [(.c (.sl ctOp) x0)]), (.a [(.c (.sl ctOp) x1)])] (l_eqModel_R (m_eq (α := List TOp') x0 x1))

/-! laws.eqModel -/
def l_eqModel_G : List TRow := [l_eqOpS_row]
def l_eqModel_c : TCode :=
  (.seq (.reg [.op (some 2) (.box 66 (.s 0) 1),
    .op (some 3) (.box 66 (.s 1) 1),
    .op (some 4) (.mov (.k (.c .bool false)))])
 (.seq (.seq (.reg [.op (some 5) (.fad (.s 2) 0),
      .op (some 6) (.load (.s 5) 1 false),
      .op (some 7) (.fad (.s 3) 0),
      .op (some 8) (.load (.s 7) 1 false),
      .op (some 9) (.call 87 [(.s 6), (.s 8)]),
      .op (some 10) (.not (.s 9))])
   (.cond (.s 10) (.seq (.reg [.op (some 4) (.mov (.k (.c .bool false)))])
     .ret) .skip))
  (.seq (.reg [.op (some 4) (.mov (.k (.c .bool true)))])
   .ret)))
def l_eqModel_rs : List (ARv × Md) := [(.t 4, .one .d)]
theorem l_eqModel_st : compF Try.prog 67 = some (l_eqModel_c.er, l_eqModel_rs.map Prod.fst, 11) := by kernel_rfl
def l_eqModel_Q (K : TRes → Prop) : TPost := TQ 0 0 l_eqModel_rs K
theorem l_eqModel_v0 (K : TRes → Prop) (a : List TOp') (b : List TOp') (h :
  (((!(m_eq (α := List TOp') a b)) = true → K (l_eqModel_R false)) ∧ ((!(m_eq (α := List TOp') a b)) = false → K (l_eqModel_R true)))) : Hold (tawp l_eqModel_G (0 + 0) l_eqModel_c (TQ 0 0 l_eqModel_rs K) (tstart [(.a [(.c (.sl ctOp) a)]), (.a [(.c (.sl ctOp) b)])])) :=
  Hold.of (by kernel_rfl) h
theorem l_eqModel_t (a : List TOp') (b : List TOp') (r : TRes) (h : Hold (tawp l_eqModel_G (0 + 0) l_eqModel_c (TQ 0 0 l_eqModel_rs fun r' => r' = r) (tstart [(.a [(.c (.sl ctOp) a)]), (.a [(.c (.sl ctOp) b)])]))) : TCon Try.prog 67 [(.a [(.c (.sl ctOp) a)]), (.a [(.c (.sl ctOp) b)])] r :=
  tcon_gen (sg := [(.a [(.sl ctOp)]), (.a [(.sl ctOp)])]) mixed (TOk.cons l_eqOpS_ok TOk.nil) l_eqModel_st (by kernel_rfl) (by kernel_rfl) (by kernel_rfl) (by kernel_rfl) h
theorem l_eqModel_h : l_eqModel_C := by
  intro a b
  refine tcon_bd rfl fun hb => l_eqModel_t a b _ (l_eqModel_v0 _ a b ?_)
  refine ⟨fun h => R_eq (Eq.symm (decide_eq_false (by rintro rfl; simp [m_eq] at h))), fun h0 => ?_⟩
  refine R_eq (Eq.symm (decide_eq_true ?_))
  simp [m_eq] at h0
  simp [Prod.ext_iff, *]

theorem l_eqModel_ok : TRowOk Try.prog l_eqModel_row := rowOk fun x _ => l_eqModel_h x.1 x.2.1

end
end Go.Proofs.Ytephkbajoofeoaa.Am
