/-
  Written by program: the code of functions, what it asks, and that it comes to what the models say.
-/
import Derived.Test.YtephkbajoofeoaaM5
namespace Go.Proofs.Ytephkbajoofeoaa.Am
open Go Go.RowKit Go.Proofs.Ytephkbajoofeoaa
set_option linter.unusedVariables false
set_option linter.unusedSimpArgs false
noncomputable section

def l_szIntS_R (t : Int) : TRes := ⟨(.c TI t), [], [], false, []⟩
def l_szIntS_row : TRow := mkRow 124 [(.c (.sl [TI])), (.c TI)] fun x => (some (p_sz (α := List Int) x.1 x.2.1), l_szIntS_R (m_sz (α := List Int) x.1 x.2.1))
def l_szIntS_C : Prop := ∀ (x0 : List Int) (x1 : Int), (p_sz (α := List Int) x0 x1) → TCon Try.prog 124 [(.c (.sl [TI]) x0), (.c TI x1)] (l_szIntS_R (m_sz (α := List Int) x0 x1))

/-! laws.szIntS -/
def l_szIntS_G : List TRow := []
def l_szIntS_c : TCode :=
  (.seq (.reg [.op (some 4) (.mov (.k (.c TI (0 : Int))))])
 (.seq (.reg [.op (some 5) (.mov (.s 1)),
     .op (some 6) (.mov (.s 0)),
     .op (some 7) (.len (.s 6)),
     .op (some 8) (.bin .sub (.s 5) (.s 7)),
     .op (some 1) (.mov (.s 8))])
  (.seq (.seq (.reg [.op (some 9) (.mov (.s 1)),
       .op (some 10) (.bin .lss (.s 9) (.k (.c TI (0 : Int))))])
    (.cond (.s 10) (.seq (.reg [.op (some 4) (.mov (.k (.c TI (-1 : Int))))])
      .ret) .skip))
   (.seq (.reg [.op (some 11) (.mov (.s 1)),
       .op (some 4) (.mov (.s 11))])
    .ret))))
def l_szIntS_rs : List (ARv × Md) := [(.t 4, .one .d)]
theorem l_szIntS_st : compF Try.prog 124 = some (l_szIntS_c.er, l_szIntS_rs.map Prod.fst, 12) := by kernel_rfl
def l_szIntS_Q (K : TRes → Prop) : TPost := TQ 0 0 l_szIntS_rs K
theorem l_szIntS_v0 (K : TRes → Prop) (a : List Int) (left : Int) (h :
  (((decide ((w64 (left - (a.length : Int))) < (0 : Int))) = true → K (l_szIntS_R (-1 : Int))) ∧ ((decide ((w64 (left - (a.length : Int))) < (0 : Int))) = false → K (l_szIntS_R (w64 (left - (a.length : Int))))))) : Hold (tawp l_szIntS_G (0 + 0) l_szIntS_c (TQ 0 0 l_szIntS_rs K) (tstart [(.c (.sl [TI]) a), (.c TI left)])) :=
  Hold.of (by kernel_rfl) h
theorem l_szIntS_t (a : List Int) (left : Int) (r : TRes) (h : Hold (tawp l_szIntS_G (0 + 0) l_szIntS_c (TQ 0 0 l_szIntS_rs fun r' => r' = r) (tstart [(.c (.sl [TI]) a), (.c TI left)]))) : TCon Try.prog 124 [(.c (.sl [TI]) a), (.c TI left)] r :=
  tcon_gen (sg := [(.c (.sl [TI])), (.c TI)]) mixed TOk.nil l_szIntS_st (by kernel_rfl) (by kernel_rfl) (by kernel_rfl) (by kernel_rfl) h
theorem l_szIntS_h : l_szIntS_C := by
  intro a left hp
  refine tcon_bd rfl fun hb => l_szIntS_t a left _ (l_szIntS_v0 _ a left ?_)
  exact szFlat (Q := fun x => l_szIntS_R x = l_szIntS_R (m_sz (α := List Int) a left)) (fun _ => rfl) hp hb.1.1 rfl

theorem l_szIntS_ok : TRowOk Try.prog l_szIntS_row := rowOk fun x h => l_szIntS_h x.1 x.2.1 h

def l_szBoolS_R (t : Int) : TRes := ⟨(.c TI t), [], [], false, []⟩
def l_szBoolS_row : TRow := mkRow 147 [(.c (.sl [.bool])), (.c TI)] fun x => (some (p_sz (α := List Bool) x.1 x.2.1), l_szBoolS_R (m_sz (α := List Bool) x.1 x.2.1))
def l_szBoolS_C : Prop := ∀ (x0 : List Bool) (x1 : Int), (p_sz (α := List Bool) x0 x1) → TCon Try.prog 147 [(.c (.sl [.bool]) x0), (.c TI x1)] (l_szBoolS_R (m_sz (α := List Bool) x0 x1))

/-! laws.szBoolS -/
def l_szBoolS_G : List TRow := []
def l_szBoolS_c : TCode :=
  (.seq (.reg [.op (some 4) (.mov (.k (.c TI (0 : Int))))])
 (.seq (.reg [.op (some 5) (.mov (.s 1)),
     .op (some 6) (.mov (.s 0)),
     .op (some 7) (.len (.s 6)),
     .op (some 8) (.bin .sub (.s 5) (.s 7)),
     .op (some 1) (.mov (.s 8))])
  (.seq (.seq (.reg [.op (some 9) (.mov (.s 1)),
       .op (some 10) (.bin .lss (.s 9) (.k (.c TI (0 : Int))))])
    (.cond (.s 10) (.seq (.reg [.op (some 4) (.mov (.k (.c TI (-1 : Int))))])
      .ret) .skip))
   (.seq (.reg [.op (some 11) (.mov (.s 1)),
       .op (some 4) (.mov (.s 11))])
    .ret))))
def l_szBoolS_rs : List (ARv × Md) := [(.t 4, .one .d)]
theorem l_szBoolS_st : compF Try.prog 147 = some (l_szBoolS_c.er, l_szBoolS_rs.map Prod.fst, 12) := by kernel_rfl
def l_szBoolS_Q (K : TRes → Prop) : TPost := TQ 0 0 l_szBoolS_rs K
theorem l_szBoolS_v0 (K : TRes → Prop) (a : List Bool) (left : Int) (h :
  (((decide ((w64 (left - (a.length : Int))) < (0 : Int))) = true → K (l_szBoolS_R (-1 : Int))) ∧ ((decide ((w64 (left - (a.length : Int))) < (0 : Int))) = false → K (l_szBoolS_R (w64 (left - (a.length : Int))))))) : Hold (tawp l_szBoolS_G (0 + 0) l_szBoolS_c (TQ 0 0 l_szBoolS_rs K) (tstart [(.c (.sl [.bool]) a), (.c TI left)])) :=
  Hold.of (by kernel_rfl) h
theorem l_szBoolS_t (a : List Bool) (left : Int) (r : TRes) (h : Hold (tawp l_szBoolS_G (0 + 0) l_szBoolS_c (TQ 0 0 l_szBoolS_rs fun r' => r' = r) (tstart [(.c (.sl [.bool]) a), (.c TI left)]))) : TCon Try.prog 147 [(.c (.sl [.bool]) a), (.c TI left)] r :=
  tcon_gen (sg := [(.c (.sl [.bool])), (.c TI)]) mixed TOk.nil l_szBoolS_st (by kernel_rfl) (by kernel_rfl) (by kernel_rfl) (by kernel_rfl) h
theorem l_szBoolS_h : l_szBoolS_C := by
  intro a left hp
  refine tcon_bd rfl fun hb => l_szBoolS_t a left _ (l_szBoolS_v0 _ a left ?_)
  exact szFlat (Q := fun x => l_szBoolS_R x = l_szBoolS_R (m_sz (α := List Bool) a left)) (fun _ => rfl) hp hb.1.1 rfl

theorem l_szBoolS_ok : TRowOk Try.prog l_szBoolS_row := rowOk fun x h => l_szBoolS_h x.1 x.2.1 h

def l_szRow_R (t : Int) : TRes := ⟨(.c TI t), [], [], false, []⟩
def l_szRow_row : TRow := mkRow 217 [(.a [(.sl [TI])]), (.c TI)] fun x => (some (p_sz (α := List Int) x.1 x.2.1), l_szRow_R (m_sz (α := List Int) x.1 x.2.1))
def l_szRow_C : Prop := ∀ (x0 : List Int) (x1 : Int), (p_sz (α := List Int) x0 x1) → TCon Try.prog 217 [(.a [(.c (.sl [TI]) x0)]), (.c TI x1)] (l_szRow_R (m_sz (α := List Int) x0 x1))

/-! laws.szRow -/
def l_szRow_G : List TRow := [l_szIntS_row]
def l_szRow_c : TCode :=
  (.seq (.reg [.op (some 2) (.box 248 (.s 0) 1),
    .op (some 4) (.mov (.k (.c TI (0 : Int))))])
 (.seq (.reg [.op (some 5) (.fad (.s 2) 0),
     .op (some 6) (.load (.s 5) 1 false),
     .op (some 7) (.mov (.s 1)),
     .op (some 8) (.call 124 [(.s 6), (.s 7)]),
     .op (some 1) (.mov (.s 8))])
  (.seq (.seq (.reg [.op (some 9) (.mov (.s 1)),
       .op (some 10) (.bin .lss (.s 9) (.k (.c TI (0 : Int))))])
    (.cond (.s 10) (.seq (.reg [.op (some 4) (.mov (.k (.c TI (-1 : Int))))])
      .ret) .skip))
   (.seq (.reg [.op (some 11) (.mov (.s 1)),
       .op (some 4) (.mov (.s 11))])
    .ret))))
def l_szRow_rs : List (ARv × Md) := [(.t 4, .one .d)]
theorem l_szRow_st : compF Try.prog 217 = some (l_szRow_c.er, l_szRow_rs.map Prod.fst, 12) := by kernel_rfl
def l_szRow_Q (K : TRes → Prop) : TPost := TQ 0 0 l_szRow_rs K
theorem l_szRow_v0 (K : TRes → Prop) (a : List Int) (left : Int) (h :
  ((p_sz (α := List Int) a left) ∧ (((decide ((m_sz (α := List Int) a left) < (0 : Int))) = true → K (l_szRow_R (-1 : Int))) ∧ ((decide ((m_sz (α := List Int) a left) < (0 : Int))) = false → K (l_szRow_R (m_sz (α := List Int) a left)))))) : Hold (tawp l_szRow_G (0 + 0) l_szRow_c (TQ 0 0 l_szRow_rs K) (tstart [(.a [(.c (.sl [TI]) a)]), (.c TI left)])) :=
  Hold.of (by kernel_rfl) h
theorem l_szRow_t (a : List Int) (left : Int) (r : TRes) (h : Hold (tawp l_szRow_G (0 + 0) l_szRow_c (TQ 0 0 l_szRow_rs fun r' => r' = r) (tstart [(.a [(.c (.sl [TI]) a)]), (.c TI left)]))) : TCon Try.prog 217 [(.a [(.c (.sl [TI]) a)]), (.c TI left)] r :=
  tcon_gen (sg := [(.a [(.sl [TI])]), (.c TI)]) mixed (TOk.cons l_szIntS_ok TOk.nil) l_szRow_st (by kernel_rfl) (by kernel_rfl) (by kernel_rfl) (by kernel_rfl) h
theorem l_szRow_h : l_szRow_C := by
  intro a left hp
  refine tcon_bd rfl fun hb => l_szRow_t a left _ (l_szRow_v0 _ a left ?_)
  refine ⟨hp, fun h => R_eq (sz_neg (of_decide_eq_true h) (by first | omega | (simp only [sz_prod, sz_int, sz_bool]; omega)) hp.1), fun h => ?_⟩
  exact R_eq (congrArg (m_szN · _) (by first | rfl | omega | (simp only [sz_prod, sz_int, sz_bool]; omega)))

theorem l_szRow_ok : TRowOk Try.prog l_szRow_row := rowOk fun x h => l_szRow_h x.1 x.2.1 h

def l_szRowS_R (t : Int) : TRes := ⟨(.c TI t), [], [], false, []⟩
def l_szRowS_row : TRow := mkRow 209 [(.c (.sl [(.sl [TI])])), (.c TI)] fun x => (some (p_sz (α := List (List Int)) x.1 x.2.1), l_szRowS_R (m_sz (α := List (List Int)) x.1 x.2.1))
def l_szRowS_C : Prop := ∀ (x0 : List (List Int)) (x1 : Int), (p_sz (α := List (List Int)) x0 x1) → TCon Try.prog 209 [(.c (.sl [(.sl [TI])]) x0), (.c TI x1)] (l_szRowS_R (m_sz (α := List (List Int)) x0 x1))

/-! laws.szRowS -/
def l_szRowS_G : List TRow := [l_szRow_row]
def l_szRowS_b2 : TCode :=
  (.seq (.seq (.reg [.op (some 12) (.mov (.s 5)),
     .op (some 13) (.mov (.s 0)),
     .op (some 14) (.len (.s 13)),
     .op (some 15) (.bin .lss (.s 12) (.s 14))])
  (.cond (.s 15) .skip (.exit 0)))
 (.seq (.block 1 (.seq (.reg [.op (some 18) (.mov (.s 0)),
       .op (some 19) (.mov (.s 5)),
       .op (some 20) (.iad (.s 18) (.s 19) [(.sl [TI])]),
       .op (some 21) (.load (.s 20) 1 true),
       .op (some 22) (.mov (.s 1)),
       .op (some 23) (.call 217 [(.s 21), (.s 22)]),
       .op (some 1) (.mov (.s 23))])
    (.seq (.reg [.op (some 24) (.mov (.s 1)),
        .op (some 25) (.bin .lss (.s 24) (.k (.c TI (0 : Int))))])
     (.cond (.s 25) (.seq (.reg [.op (some 4) (.mov (.k (.c TI (-1 : Int))))])
       .ret) .skip))))
  (.reg [.op (some 16) (.mov (.s 5)),
     .op (some 17) (.bin .add (.s 16) (.k (.c TI (1 : Int)))),
     .op (some 5) (.mov (.s 17))])))
def l_szRowS_L2 : List (Nat × Md) := [(0, .one .d), (1, .one .d), (5, .one .d)]
def l_szRowS_y1 : TCode :=
  (.seq (.reg [.op (some 26) (.mov (.s 1)),
    .op (some 4) (.mov (.s 26))])
 .ret)
def l_szRowS_c : TCode :=
  (.seq (.reg [.op (some 4) (.mov (.k (.c TI (0 : Int))))])
 (.seq (.reg [.op (some 6) (.mov (.s 1)),
     .op (some 7) (.mov (.s 0)),
     .op (some 8) (.len (.s 7)),
     .op (some 9) (.bin .sub (.s 6) (.s 8)),
     .op (some 1) (.mov (.s 9))])
  (.seq (.seq (.reg [.op (some 10) (.mov (.s 1)),
       .op (some 11) (.bin .lss (.s 10) (.k (.c TI (0 : Int))))])
    (.cond (.s 11) (.seq (.reg [.op (some 4) (.mov (.k (.c TI (-1 : Int))))])
      .ret) .skip))
   (.seq (.seq (.reg [.op (some 5) (.mov (.k (.c TI (0 : Int))))])
     (.block 0 (.loop l_szRowS_L2 l_szRowS_b2)))
    l_szRowS_y1))))
def l_szRowS_rs : List (ARv × Md) := [(.t 4, .one .d)]
theorem l_szRowS_st : compF Try.prog 209 = some (l_szRowS_c.er, l_szRowS_rs.map Prod.fst, 27) := by kernel_rfl
def l_szRowS_Q (K : TRes → Prop) : TPost := TQ 0 0 l_szRowS_rs K
def l_szRowS_q1 (K : TRes → Prop) : TPost := Qseq (tawp l_szRowS_G 0 l_szRowS_y1 (l_szRowS_Q K)) (l_szRowS_Q K)
def l_szRowS_q2 (K : TRes → Prop) : TPost := Qblk 0 (l_szRowS_q1 K)
def l_szRowS_A2 (K : TRes → Prop) (a : List (List Int)) (left1 : Int) (i : Int) : Prop := Loop l_szRowS_G 0 l_szRowS_L2 l_szRowS_b2 (l_szRowS_q2 K) ⟨[(0, (.c (.sl [(.sl [TI])]) a)), (1, (.c TI left1)), (5, (.c TI i))], [], 0⟩
theorem l_szRowS_v2 (K : TRes → Prop) (a : List (List Int)) (left1 : Int) (i : Int) (h :
  (((decide (i < (a.length : Int))) = true → ((((0 : Int) ≤ i ∧ Int.toNat i < a.length) ∧ (p_sz (α := List Int) (gtd ([] : List Int) a (Int.toNat i)) left1)) ∧ (((decide ((m_sz (α := List Int) (gtd ([] : List Int) a (Int.toNat i)) left1) < (0 : Int))) = true → K (l_szRowS_R (-1 : Int))) ∧ ((decide ((m_sz (α := List Int) (gtd ([] : List Int) a (Int.toNat i)) left1) < (0 : Int))) = false → (l_szRowS_A2 K a (m_sz (α := List Int) (gtd ([] : List Int) a (Int.toNat i)) left1) (w64 (i + (1 : Int)))))))) ∧ ((decide (i < (a.length : Int))) = false → K (l_szRowS_R left1)))) : l_szRowS_A2 K a left1 i :=
  Loop.of (by kernel_rfl) h
theorem l_szRowS_v0 (K : TRes → Prop) (a : List (List Int)) (left : Int) (h :
  (((decide ((w64 (left - (a.length : Int))) < (0 : Int))) = true → K (l_szRowS_R (-1 : Int))) ∧ ((decide ((w64 (left - (a.length : Int))) < (0 : Int))) = false → (l_szRowS_A2 K a (w64 (left - (a.length : Int))) (0 : Int))))) : Hold (tawp l_szRowS_G (0 + 0) l_szRowS_c (TQ 0 0 l_szRowS_rs K) (tstart [(.c (.sl [(.sl [TI])]) a), (.c TI left)])) :=
  Hold.of (by kernel_rfl) h
theorem l_szRowS_t (a : List (List Int)) (left : Int) (r : TRes) (h : Hold (tawp l_szRowS_G (0 + 0) l_szRowS_c (TQ 0 0 l_szRowS_rs fun r' => r' = r) (tstart [(.c (.sl [(.sl [TI])]) a), (.c TI left)]))) : TCon Try.prog 209 [(.c (.sl [(.sl [TI])]) a), (.c TI left)] r :=
  tcon_gen (sg := [(.c (.sl [(.sl [TI])])), (.c TI)]) mixed (TOk.cons l_szRow_ok TOk.nil) l_szRowS_st (by kernel_rfl) (by kernel_rfl) (by kernel_rfl) (by kernel_rfl) h
theorem l_szRowS_h : l_szRowS_C := by
  intro a left hp
  refine tcon_bd rfl fun hb => l_szRowS_t a left _ (l_szRowS_v0 _ a left ?_)
  exact szLoop (Q := fun x => l_szRowS_R x = l_szRowS_R (m_sz (α := List (List Int)) a left)) ([] : List Int) hp hb.1.1 (fun l i h => l_szRowS_v2 _ a l i h) rfl

theorem l_szRowS_ok : TRowOk Try.prog l_szRowS_row := rowOk fun x h => l_szRowS_h x.1 x.2.1 h

def l_szGrads_R (t : Int) : TRes := ⟨(.c TI t), [], [], false, []⟩
def l_szGrads_row : TRow := mkRow 210 [(.a ctGrads), (.c TI)] fun x => (some (p_sz (α := TGrads) x.1 x.2.1), l_szGrads_R (m_sz (α := TGrads) x.1 x.2.1))
def l_szGrads_C : Prop := ∀ (x0 : TGrads) (x1 : Int), (p_sz (α := TGrads) x0 x1) → TCon Try.prog 210 [(.a (Tup.cells ctGrads x0)), (.c TI x1)] (l_szGrads_R (m_sz (α := TGrads) x0 x1))

/-! laws.szGrads -/
def l_szGrads_G : List TRow := [l_szRowS_row]
def l_szGrads_c : TCode :=
  (.seq (.reg [.op (some 2) (.box 227 (.s 0) 3),
    .op (some 4) (.mov (.k (.c TI (0 : Int))))])
 (.seq (.reg [.op (some 5) (.fad (.s 2) 0),
     .op (some 6) (.load (.s 5) 1 false),
     .op (some 7) (.mov (.s 1)),
     .op (some 8) (.call 209 [(.s 6), (.s 7)]),
     .op (some 1) (.mov (.s 8))])
  (.seq (.seq (.reg [.op (some 9) (.mov (.s 1)),
       .op (some 10) (.bin .lss (.s 9) (.k (.c TI (0 : Int))))])
    (.cond (.s 10) (.seq (.reg [.op (some 4) (.mov (.k (.c TI (-1 : Int))))])
      .ret) .skip))
   (.seq (.reg [.op (some 11) (.mov (.s 1)),
       .op (some 4) (.mov (.s 11))])
    .ret))))
def l_szGrads_rs : List (ARv × Md) := [(.t 4, .one .d)]
theorem l_szGrads_st : compF Try.prog 210 = some (l_szGrads_c.er, l_szGrads_rs.map Prod.fst, 12) := by kernel_rfl
def l_szGrads_Q (K : TRes → Prop) : TPost := TQ 0 0 l_szGrads_rs K
theorem l_szGrads_v0 (K : TRes → Prop) (a : TGrads) (left : Int) (h :
  ((p_sz (α := List (List Int)) a.1 left) ∧ (((decide ((m_sz (α := List (List Int)) a.1 left) < (0 : Int))) = true → K (l_szGrads_R (-1 : Int))) ∧ ((decide ((m_sz (α := List (List Int)) a.1 left) < (0 : Int))) = false → K (l_szGrads_R (m_sz (α := List (List Int)) a.1 left)))))) : Hold (tawp l_szGrads_G (0 + 0) l_szGrads_c (TQ 0 0 l_szGrads_rs K) (tstart [(.a (Tup.cells ctGrads a)), (.c TI left)])) :=
  Hold.of (by kernel_rfl) h
theorem l_szGrads_t (a : TGrads) (left : Int) (r : TRes) (h : Hold (tawp l_szGrads_G (0 + 0) l_szGrads_c (TQ 0 0 l_szGrads_rs fun r' => r' = r) (tstart [(.a (Tup.cells ctGrads a)), (.c TI left)]))) : TCon Try.prog 210 [(.a (Tup.cells ctGrads a)), (.c TI left)] r :=
  tcon_gen (sg := [(.a ctGrads), (.c TI)]) mixed (TOk.cons l_szRowS_ok TOk.nil) l_szGrads_st (by kernel_rfl) (by kernel_rfl) (by kernel_rfl) (by kernel_rfl) h
theorem l_szGrads_h : l_szGrads_C := by
  intro a left hp
  refine tcon_bd rfl fun hb => l_szGrads_t a left _ (l_szGrads_v0 _ a left ?_)
  refine ⟨hp, fun h => R_eq (sz_neg (of_decide_eq_true h) (by first | omega | (simp only [sz_prod, sz_int, sz_bool]; omega)) hp.1), fun h => ?_⟩
  exact R_eq (congrArg (m_szN · _) (by first | rfl | omega | (simp only [sz_prod, sz_int, sz_bool]; omega)))

theorem l_szGrads_ok : TRowOk Try.prog l_szGrads_row := rowOk fun x h => l_szGrads_h x.1 x.2.1 h

def l_szPair_R (t : Int) : TRes := ⟨(.c TI t), [], [], false, []⟩
def l_szPair_row : TRow := mkRow 197 [(.a ctPair), (.c TI)] fun x => (some (p_sz (α := TPair) x.1 x.2.1), l_szPair_R (m_sz (α := TPair) x.1 x.2.1))
def l_szPair_C : Prop := ∀ (x0 : TPair) (x1 : Int), (p_sz (α := TPair) x0 x1) → TCon Try.prog 197 [(.a [(.c (.sl [TI]) x0.1), (.c (.sl [TI]) x0.2)]), (.c TI x1)] (l_szPair_R (m_sz (α := TPair) x0 x1))

/-! laws.szPair -/
def l_szPair_G : List TRow := [l_szIntS_row]
def l_szPair_c : TCode :=
  (.seq (.reg [.op (some 2) (.box 222 (.s 0) 2),
    .op (some 4) (.mov (.k (.c TI (0 : Int))))])
 (.seq (.reg [.op (some 5) (.fad (.s 2) 0),
     .op (some 6) (.load (.s 5) 1 false),
     .op (some 7) (.mov (.s 1)),
     .op (some 8) (.call 124 [(.s 6), (.s 7)]),
     .op (some 1) (.mov (.s 8))])
  (.seq (.seq (.reg [.op (some 9) (.mov (.s 1)),
       .op (some 10) (.bin .lss (.s 9) (.k (.c TI (0 : Int))))])
    (.cond (.s 10) (.seq (.reg [.op (some 4) (.mov (.k (.c TI (-1 : Int))))])
      .ret) .skip))
   (.seq (.reg [.op (some 11) (.fad (.s 2) 1),
       .op (some 12) (.load (.s 11) 1 false),
       .op (some 13) (.mov (.s 1)),
       .op (some 14) (.call 124 [(.s 12), (.s 13)]),
       .op (some 1) (.mov (.s 14))])
    (.seq (.seq (.reg [.op (some 15) (.mov (.s 1)),
         .op (some 16) (.bin .lss (.s 15) (.k (.c TI (0 : Int))))])
      (.cond (.s 16) (.seq (.reg [.op (some 4) (.mov (.k (.c TI (-1 : Int))))])
        .ret) .skip))
     (.seq (.reg [.op (some 17) (.mov (.s 1)),
         .op (some 4) (.mov (.s 17))])
      .ret))))))
def l_szPair_rs : List (ARv × Md) := [(.t 4, .one .d)]
theorem l_szPair_st : compF Try.prog 197 = some (l_szPair_c.er, l_szPair_rs.map Prod.fst, 18) := by kernel_rfl
def l_szPair_Q (K : TRes → Prop) : TPost := TQ 0 0 l_szPair_rs K
theorem l_szPair_v0 (K : TRes → Prop) (a : TPair) (left : Int) (h :
  ((p_sz (α := List Int) a.1 left) ∧ (((decide ((m_sz (α := List Int) a.1 left) < (0 : Int))) = true → K (l_szPair_R (-1 : Int))) ∧ ((decide ((m_sz (α := List Int) a.1 left) < (0 : Int))) = false → ((p_sz (α := List Int) a.2 (m_sz (α := List Int) a.1 left)) ∧ (((decide ((m_sz (α := List Int) a.2 (m_sz (α := List Int) a.1 left)) < (0 : Int))) = true → K (l_szPair_R (-1 : Int))) ∧ ((decide ((m_sz (α := List Int) a.2 (m_sz (α := List Int) a.1 left)) < (0 : Int))) = false → K (l_szPair_R (m_sz (α := List Int) a.2 (m_sz (α := List Int) a.1 left)))))))))) : Hold (tawp l_szPair_G (0 + 0) l_szPair_c (TQ 0 0 l_szPair_rs K) (tstart [(.a [(.c (.sl [TI]) a.1), (.c (.sl [TI]) a.2)]), (.c TI left)])) :=
  Hold.of (by kernel_rfl) h
theorem l_szPair_t (a : TPair) (left : Int) (r : TRes) (h : Hold (tawp l_szPair_G (0 + 0) l_szPair_c (TQ 0 0 l_szPair_rs fun r' => r' = r) (tstart [(.a [(.c (.sl [TI]) a.1), (.c (.sl [TI]) a.2)]), (.c TI left)]))) : TCon Try.prog 197 [(.a [(.c (.sl [TI]) a.1), (.c (.sl [TI]) a.2)]), (.c TI left)] r :=
  tcon_gen (sg := [(.a ctPair), (.c TI)]) mixed (TOk.cons l_szIntS_ok TOk.nil) l_szPair_st (by kernel_rfl) (by kernel_rfl) (by kernel_rfl) (by kernel_rfl) h
theorem l_szPair_h : l_szPair_C := by
  intro a left hp
  refine tcon_bd rfl fun hb => l_szPair_t a left _ (l_szPair_v0 _ a left ?_)
  refine ⟨hp, fun h => R_eq (sz_neg (of_decide_eq_true h) (by first | omega | (simp only [sz_prod, sz_int, sz_bool]; omega)) hp.1), fun h => ?_⟩
  rw [sz_step (Int.not_lt.1 (of_decide_eq_false h))]
  refine ⟨pl_szN hp, fun h => R_eq (sz_neg (of_decide_eq_true h) (by first | omega | (simp only [sz_prod, sz_int, sz_bool]; omega)) hp.1), fun h => ?_⟩
  exact R_eq (congrArg (m_szN · _) (by first | rfl | omega | (simp only [sz_prod, sz_int, sz_bool]; omega)))

theorem l_szPair_ok : TRowOk Try.prog l_szPair_row := rowOk fun x h => l_szPair_h x.1 x.2.1 h

def l_szPairS_R (t : Int) : TRes := ⟨(.c TI t), [], [], false, []⟩
def l_szPairS_row : TRow := mkRow 165 [(.c (.sl ctPair)), (.c TI)] fun x => (some (p_sz (α := List TPair) x.1 x.2.1), l_szPairS_R (m_sz (α := List TPair) x.1 x.2.1))
def l_szPairS_C : Prop := ∀ (x0 : List TPair) (x1 : Int), (p_sz (α := List TPair) x0 x1) → TCon Try.prog 165 [(.c (.sl ctPair) x0), (.c TI x1)] (l_szPairS_R (m_sz (α := List TPair) x0 x1))

/-! laws.szPairS -/
def l_szPairS_G : List TRow := [l_szPair_row]
def l_szPairS_b2 : TCode :=
  (.seq (.seq (.reg [.op (some 12) (.mov (.s 5)),
     .op (some 13) (.mov (.s 0)),
     .op (some 14) (.len (.s 13)),
     .op (some 15) (.bin .lss (.s 12) (.s 14))])
  (.cond (.s 15) .skip (.exit 0)))
 (.seq (.block 1 (.seq (.reg [.op (some 18) (.mov (.s 0)),
       .op (some 19) (.mov (.s 5)),
       .op (some 20) (.iad (.s 18) (.s 19) ctPair),
       .op (some 21) (.load (.s 20) 2 true),
       .op (some 22) (.mov (.s 1)),
       .op (some 23) (.call 197 [(.s 21), (.s 22)]),
       .op (some 1) (.mov (.s 23))])
    (.seq (.reg [.op (some 24) (.mov (.s 1)),
        .op (some 25) (.bin .lss (.s 24) (.k (.c TI (0 : Int))))])
     (.cond (.s 25) (.seq (.reg [.op (some 4) (.mov (.k (.c TI (-1 : Int))))])
       .ret) .skip))))
  (.reg [.op (some 16) (.mov (.s 5)),
     .op (some 17) (.bin .add (.s 16) (.k (.c TI (1 : Int)))),
     .op (some 5) (.mov (.s 17))])))
def l_szPairS_L2 : List (Nat × Md) := [(0, .one .d), (1, .one .d), (5, .one .d)]
def l_szPairS_y1 : TCode :=
  (.seq (.reg [.op (some 26) (.mov (.s 1)),
    .op (some 4) (.mov (.s 26))])
 .ret)
def l_szPairS_c : TCode :=
  (.seq (.reg [.op (some 4) (.mov (.k (.c TI (0 : Int))))])
 (.seq (.reg [.op (some 6) (.mov (.s 1)),
     .op (some 7) (.mov (.s 0)),
     .op (some 8) (.len (.s 7)),
     .op (some 9) (.bin .sub (.s 6) (.s 8)),
     .op (some 1) (.mov (.s 9))])
  (.seq (.seq (.reg [.op (some 10) (.mov (.s 1)),
       .op (some 11) (.bin .lss (.s 10) (.k (.c TI (0 : Int))))])
    (.cond (.s 11) (.seq (.reg [.op (some 4) (.mov (.k (.c TI (-1 : Int))))])
      .ret) .skip))
   (.seq (.seq (.reg [.op (some 5) (.mov (.k (.c TI (0 : Int))))])
     (.block 0 (.loop l_szPairS_L2 l_szPairS_b2)))
    l_szPairS_y1))))
def l_szPairS_rs : List (ARv × Md) := [(.t 4, .one .d)]
theorem l_szPairS_st : compF Try.prog 165 = some (l_szPairS_c.er, l_szPairS_rs.map Prod.fst, 27) := by kernel_rfl
def l_szPairS_Q (K : TRes → Prop) : TPost := TQ 0 0 l_szPairS_rs K
def l_szPairS_q1 (K : TRes → Prop) : TPost := Qseq (tawp l_szPairS_G 0 l_szPairS_y1 (l_szPairS_Q K)) (l_szPairS_Q K)
def l_szPairS_q2 (K : TRes → Prop) : TPost := Qblk 0 (l_szPairS_q1 K)
def l_szPairS_A2 (K : TRes → Prop) (a : List TPair) (left1 : Int) (i : Int) : Prop := Loop l_szPairS_G 0 l_szPairS_L2 l_szPairS_b2 (l_szPairS_q2 K) ⟨[(0, (.c (.sl ctPair) a)), (1, (.c TI left1)), (5, (.c TI i))], [], 0⟩
theorem l_szPairS_v2 (K : TRes → Prop) (a : List TPair) (left1 : Int) (i : Int) (h :
  (((decide (i < (a.length : Int))) = true → ((((0 : Int) ≤ i ∧ Int.toNat i < a.length) ∧ (p_sz (α := TPair) (gtd dPair a (Int.toNat i)) left1)) ∧ (((decide ((m_sz (α := TPair) (gtd dPair a (Int.toNat i)) left1) < (0 : Int))) = true → K (l_szPairS_R (-1 : Int))) ∧ ((decide ((m_sz (α := TPair) (gtd dPair a (Int.toNat i)) left1) < (0 : Int))) = false → (l_szPairS_A2 K a (m_sz (α := TPair) (gtd dPair a (Int.toNat i)) left1) (w64 (i + (1 : Int)))))))) ∧ ((decide (i < (a.length : Int))) = false → K (l_szPairS_R left1)))) : l_szPairS_A2 K a left1 i :=
  Loop.of (by kernel_rfl) h
theorem l_szPairS_v0 (K : TRes → Prop) (a : List TPair) (left : Int) (h :
  (((decide ((w64 (left - (a.length : Int))) < (0 : Int))) = true → K (l_szPairS_R (-1 : Int))) ∧ ((decide ((w64 (left - (a.length : Int))) < (0 : Int))) = false → (l_szPairS_A2 K a (w64 (left - (a.length : Int))) (0 : Int))))) : Hold (tawp l_szPairS_G (0 + 0) l_szPairS_c (TQ 0 0 l_szPairS_rs K) (tstart [(.c (.sl ctPair) a), (.c TI left)])) :=
  Hold.of (by kernel_rfl) h
theorem l_szPairS_t (a : List TPair) (left : Int) (r : TRes) (h : Hold (tawp l_szPairS_G (0 + 0) l_szPairS_c (TQ 0 0 l_szPairS_rs fun r' => r' = r) (tstart [(.c (.sl ctPair) a), (.c TI left)]))) : TCon Try.prog 165 [(.c (.sl ctPair) a), (.c TI left)] r :=
  tcon_gen (sg := [(.c (.sl ctPair)), (.c TI)]) mixed (TOk.cons l_szPair_ok TOk.nil) l_szPairS_st (by kernel_rfl) (by kernel_rfl) (by kernel_rfl) (by kernel_rfl) h
theorem l_szPairS_h : l_szPairS_C := by
  intro a left hp
  refine tcon_bd rfl fun hb => l_szPairS_t a left _ (l_szPairS_v0 _ a left ?_)
  exact szLoop (Q := fun x => l_szPairS_R x = l_szPairS_R (m_sz (α := List TPair) a left)) dPair hp hb.1.1 (fun l i h => l_szPairS_v2 _ a l i h) rfl

theorem l_szPairS_ok : TRowOk Try.prog l_szPairS_row := rowOk fun x h => l_szPairS_h x.1 x.2.1 h

def l_toIntS_R (t : (List Int)) : TRes := ⟨(.c (.sl [TI]) t), [], [], true, []⟩
def l_toIntS_row : TRow := mkRow 127 [(.c (.sl [TI]))] fun x => (some (p_to (α := List Int) x.1), l_toIntS_R (id (α := List Int) x.1))
def l_toIntS_C : Prop := ∀ (x0 : List Int), (p_to (α := List Int) x0) → TCon Try.prog 127 [(.c (.sl [TI]) x0)] (l_toIntS_R (id (α := List Int) x0))

/-! laws.toIntS -/
def l_toIntS_G : List TRow := []
def l_toIntS_b2 : TCode :=
  (.seq (.seq (.reg [.op (some 8) (.mov (.s 4)),
     .op (some 9) (.mov (.s 0)),
     .op (some 10) (.len (.s 9)),
     .op (some 11) (.bin .lss (.s 8) (.s 10))])
  (.cond (.s 11) .skip (.exit 0)))
 (.seq (.block 1 (.reg [.op (some 14) (.mov (.s 3)),
      .op (some 15) (.mov (.s 4)),
      .op (some 16) (.mov (.s 0)),
      .op (some 17) (.mov (.s 4)),
      .op (some 18) (.iad (.s 16) (.s 17) [TI]),
      .op (some 19) (.load (.s 18) 1 false),
      .op (some 20) (.iad (.s 14) (.s 15) [TI]),
      .op none (.store (.s 20) (.s 19) 1)]))
  (.reg [.op (some 12) (.mov (.s 4)),
     .op (some 13) (.bin .add (.s 12) (.k (.c TI (1 : Int)))),
     .op (some 4) (.mov (.s 13))])))
def l_toIntS_L2 : List (Nat × Md) := [(0, .one .d), (3, .one .f), (4, .one .d)]
def l_toIntS_y1 : TCode :=
  (.seq (.reg [.op (some 21) (.mov (.s 3)),
    .op (some 2) (.mov (.s 21))])
 .ret)
def l_toIntS_c : TCode :=
  (.seq (.reg [.op (some 2) (.mov (.k (.n [TI])))])
 (.seq (.reg [.op (some 5) (.mov (.s 0)),
     .op (some 6) (.len (.s 5)),
     .op (some 7) (.mk 3 [TI] [(.c TI (0 : Int))] (.s 6)),
     .op (some 3) (.mov (.s 7))])
  (.seq (.seq (.reg [.op (some 4) (.mov (.k (.c TI (0 : Int))))])
    (.block 0 (.loop l_toIntS_L2 l_toIntS_b2)))
   l_toIntS_y1)))
def l_toIntS_rs : List (ARv × Md) := [(.t 2, .one .d)]
theorem l_toIntS_st : compF Try.prog 127 = some (l_toIntS_c.er, l_toIntS_rs.map Prod.fst, 22) := by kernel_rfl
def l_toIntS_Q (K : TRes → Prop) : TPost := TQ 0 0 l_toIntS_rs K
def l_toIntS_q1 (K : TRes → Prop) : TPost := Qseq (tawp l_toIntS_G 0 l_toIntS_y1 (l_toIntS_Q K)) (l_toIntS_Q K)
def l_toIntS_q2 (K : TRes → Prop) : TPost := Qblk 0 (l_toIntS_q1 K)
def l_toIntS_A2 (K : TRes → Prop) (a : List Int) (i : Int) (out : List Int) : Prop := Loop l_toIntS_G 0 l_toIntS_L2 l_toIntS_b2 (l_toIntS_q2 K) ⟨[(0, (.c (.sl [TI]) a)), (3, (.r [TI] 0 0 out.length)), (4, (.c TI i))], [(0, (.sl 3 [TI] true out))], 1⟩
theorem l_toIntS_v2 (K : TRes → Prop) (a : List Int) (i : Int) (out : List Int) (h :
  (((decide (i < (a.length : Int))) = true → ((((0 : Int) ≤ i ∧ Int.toNat i < a.length) ∧ (((0 : Int) ≤ i ∧ Int.toNat i < out.length) ∧ ((0 + (Int.toNat i)) < out.length))) ∧ (l_toIntS_A2 K a (w64 (i + (1 : Int))) (List.take out.length ((out).set (0 + (Int.toNat i)) (gtd (0 : Int) a (Int.toNat i))))))) ∧ ((decide (i < (a.length : Int))) = false → K (l_toIntS_R (List.take out.length (List.drop 0 out)))))) : l_toIntS_A2 K a i out :=
  Loop.of (by kernel_rfl) h
theorem l_toIntS_v0 (K : TRes → Prop) (a : List Int) (h :
  (((0 : Int) ≤ (a.length : Int) ∧ (a.length : Int) ≤ big) ∧ (l_toIntS_A2 K a (0 : Int) (List.take (Int.toNat (a.length : Int)) (List.replicate (Int.toNat (a.length : Int)) (0 : Int)))))) : Hold (tawp l_toIntS_G (0 + 0) l_toIntS_c (TQ 0 0 l_toIntS_rs K) (tstart [(.c (.sl [TI]) a)])) :=
  Hold.of (by kernel_rfl) h
theorem l_toIntS_t (a : List Int) (r : TRes) (h : Hold (tawp l_toIntS_G (0 + 0) l_toIntS_c (TQ 0 0 l_toIntS_rs fun r' => r' = r) (tstart [(.c (.sl [TI]) a)]))) : TCon Try.prog 127 [(.c (.sl [TI]) a)] r :=
  tcon_gen (sg := [(.c (.sl [TI]))]) mixed TOk.nil l_toIntS_st (by kernel_rfl) (by kernel_rfl) (by kernel_rfl) (by kernel_rfl) h
theorem l_toIntS_h : l_toIntS_C := by
  intro a hp
  refine tcon_bd rfl fun hb => l_toIntS_t a _ (l_toIntS_v0 _ a ?_)
  exact toFlat (Q := fun x => l_toIntS_R x = l_toIntS_R (id (α := List Int) a)) (0 : Int) hp (fun i out h => l_toIntS_v2 _ a i out h) rfl

theorem l_toIntS_ok : TRowOk Try.prog l_toIntS_row := rowOk fun x h => l_toIntS_h x.1 h

def l_toBoolS_R (t : (List Bool)) : TRes := ⟨(.c (.sl [.bool]) t), [], [], true, []⟩
def l_toBoolS_row : TRow := mkRow 149 [(.c (.sl [.bool]))] fun x => (some (p_to (α := List Bool) x.1), l_toBoolS_R (id (α := List Bool) x.1))
def l_toBoolS_C : Prop := ∀ (x0 : List Bool), (p_to (α := List Bool) x0) → TCon Try.prog 149 [(.c (.sl [.bool]) x0)] (l_toBoolS_R (id (α := List Bool) x0))

/-! laws.toBoolS -/
def l_toBoolS_G : List TRow := []
def l_toBoolS_b2 : TCode :=
  (.seq (.seq (.reg [.op (some 8) (.mov (.s 4)),
     .op (some 9) (.mov (.s 0)),
     .op (some 10) (.len (.s 9)),
     .op (some 11) (.bin .lss (.s 8) (.s 10))])
  (.cond (.s 11) .skip (.exit 0)))
 (.seq (.block 1 (.reg [.op (some 14) (.mov (.s 3)),
      .op (some 15) (.mov (.s 4)),
      .op (some 16) (.mov (.s 0)),
      .op (some 17) (.mov (.s 4)),
      .op (some 18) (.iad (.s 16) (.s 17) [.bool]),
      .op (some 19) (.load (.s 18) 1 false),
      .op (some 20) (.iad (.s 14) (.s 15) [.bool]),
      .op none (.store (.s 20) (.s 19) 1)]))
  (.reg [.op (some 12) (.mov (.s 4)),
     .op (some 13) (.bin .add (.s 12) (.k (.c TI (1 : Int)))),
     .op (some 4) (.mov (.s 13))])))
def l_toBoolS_L2 : List (Nat × Md) := [(0, .one .d), (3, .one .f), (4, .one .d)]
def l_toBoolS_y1 : TCode :=
  (.seq (.reg [.op (some 21) (.mov (.s 3)),
    .op (some 2) (.mov (.s 21))])
 .ret)
def l_toBoolS_c : TCode :=
  (.seq (.reg [.op (some 2) (.mov (.k (.n [.bool])))])
 (.seq (.reg [.op (some 5) (.mov (.s 0)),
     .op (some 6) (.len (.s 5)),
     .op (some 7) (.mk 4 [.bool] [(.c .bool false)] (.s 6)),
     .op (some 3) (.mov (.s 7))])
  (.seq (.seq (.reg [.op (some 4) (.mov (.k (.c TI (0 : Int))))])
    (.block 0 (.loop l_toBoolS_L2 l_toBoolS_b2)))
   l_toBoolS_y1)))
def l_toBoolS_rs : List (ARv × Md) := [(.t 2, .one .d)]
theorem l_toBoolS_st : compF Try.prog 149 = some (l_toBoolS_c.er, l_toBoolS_rs.map Prod.fst, 22) := by kernel_rfl
def l_toBoolS_Q (K : TRes → Prop) : TPost := TQ 0 0 l_toBoolS_rs K
def l_toBoolS_q1 (K : TRes → Prop) : TPost := Qseq (tawp l_toBoolS_G 0 l_toBoolS_y1 (l_toBoolS_Q K)) (l_toBoolS_Q K)
def l_toBoolS_q2 (K : TRes → Prop) : TPost := Qblk 0 (l_toBoolS_q1 K)
def l_toBoolS_A2 (K : TRes → Prop) (a : List Bool) (i : Int) (out : List Bool) : Prop := Loop l_toBoolS_G 0 l_toBoolS_L2 l_toBoolS_b2 (l_toBoolS_q2 K) ⟨[(0, (.c (.sl [.bool]) a)), (3, (.r [.bool] 0 0 out.length)), (4, (.c TI i))], [(0, (.sl 4 [.bool] true out))], 1⟩
theorem l_toBoolS_v2 (K : TRes → Prop) (a : List Bool) (i : Int) (out : List Bool) (h :
  (((decide (i < (a.length : Int))) = true → ((((0 : Int) ≤ i ∧ Int.toNat i < a.length) ∧ (((0 : Int) ≤ i ∧ Int.toNat i < out.length) ∧ ((0 + (Int.toNat i)) < out.length))) ∧ (l_toBoolS_A2 K a (w64 (i + (1 : Int))) (List.take out.length ((out).set (0 + (Int.toNat i)) (gtd (false : Bool) a (Int.toNat i))))))) ∧ ((decide (i < (a.length : Int))) = false → K (l_toBoolS_R (List.take out.length (List.drop 0 out)))))) : l_toBoolS_A2 K a i out :=
  Loop.of (by kernel_rfl) h
theorem l_toBoolS_v0 (K : TRes → Prop) (a : List Bool) (h :
  (((0 : Int) ≤ (a.length : Int) ∧ (a.length : Int) ≤ big) ∧ (l_toBoolS_A2 K a (0 : Int) (List.take (Int.toNat (a.length : Int)) (List.replicate (Int.toNat (a.length : Int)) false))))) : Hold (tawp l_toBoolS_G (0 + 0) l_toBoolS_c (TQ 0 0 l_toBoolS_rs K) (tstart [(.c (.sl [.bool]) a)])) :=
  Hold.of (by kernel_rfl) h
theorem l_toBoolS_t (a : List Bool) (r : TRes) (h : Hold (tawp l_toBoolS_G (0 + 0) l_toBoolS_c (TQ 0 0 l_toBoolS_rs fun r' => r' = r) (tstart [(.c (.sl [.bool]) a)]))) : TCon Try.prog 149 [(.c (.sl [.bool]) a)] r :=
  tcon_gen (sg := [(.c (.sl [.bool]))]) mixed TOk.nil l_toBoolS_st (by kernel_rfl) (by kernel_rfl) (by kernel_rfl) (by kernel_rfl) h
theorem l_toBoolS_h : l_toBoolS_C := by
  intro a hp
  refine tcon_bd rfl fun hb => l_toBoolS_t a _ (l_toBoolS_v0 _ a ?_)
  exact toFlat (Q := fun x => l_toBoolS_R x = l_toBoolS_R (id (α := List Bool) a)) (false : Bool) hp (fun i out h => l_toBoolS_v2 _ a i out h) rfl

theorem l_toBoolS_ok : TRowOk Try.prog l_toBoolS_row := rowOk fun x h => l_toBoolS_h x.1 h

def l_toRow_R (t : (List Int)) : TRes := ⟨(.a [(.c (.sl [TI]) t)]), [], [], true, []⟩
def l_toRow_row : TRow := mkRow 219 [(.a [(.sl [TI])])] fun x => (some (p_to (α := List Int) x.1), l_toRow_R (id (α := List Int) x.1))
def l_toRow_C : Prop := ∀ (x0 : List Int), (p_to (α := List Int) x0) → TCon Try.prog 219 [(.a [(.c (.sl [TI]) x0)])] (l_toRow_R (id (α := List Int) x0))

/-! laws.toRow -/
def l_toRow_G : List TRow := [l_toIntS_row]
def l_toRow_c : TCode :=
  (.seq (.reg [.op (some 1) (.box 248 (.s 0) 1),
    .op (some 2) (.new 91 [(.n [TI])])])
 (.seq (.reg [.op (some 3) (.new 91 [(.n [TI])])])
  (.seq (.reg [.op (some 4) (.fad (.s 1) 0),
      .op (some 5) (.load (.s 4) 1 false),
      .op (some 6) (.call 127 [(.s 5)]),
      .op (some 7) (.fad (.s 3) 0),
      .op none (.store (.s 7) (.s 6) 1)])
   (.seq (.reg [.op (some 8) (.load (.s 3) 1 true),
       .op none (.store (.s 2) (.s 8) 1)])
    .ret))))
def l_toRow_rs : List (ARv × Md) := [(.l 2 1 true, .b [.d])]
theorem l_toRow_st : compF Try.prog 219 = some (l_toRow_c.er, l_toRow_rs.map Prod.fst, 9) := by kernel_rfl
def l_toRow_Q (K : TRes → Prop) : TPost := TQ 0 0 l_toRow_rs K
theorem l_toRow_v0 (K : TRes → Prop) (a : List Int) (h :
  ((p_to (α := List Int) a) ∧ K (l_toRow_R (id (α := List Int) a)))) : Hold (tawp l_toRow_G (0 + 0) l_toRow_c (TQ 0 0 l_toRow_rs K) (tstart [(.a [(.c (.sl [TI]) a)])])) :=
  Hold.of (by kernel_rfl) h
theorem l_toRow_t (a : List Int) (r : TRes) (h : Hold (tawp l_toRow_G (0 + 0) l_toRow_c (TQ 0 0 l_toRow_rs fun r' => r' = r) (tstart [(.a [(.c (.sl [TI]) a)])]))) : TCon Try.prog 219 [(.a [(.c (.sl [TI]) a)])] r :=
  tcon_gen (sg := [(.a [(.sl [TI])])]) mixed (TOk.cons l_toIntS_ok TOk.nil) l_toRow_st (by kernel_rfl) (by kernel_rfl) (by kernel_rfl) (by kernel_rfl) h
theorem l_toRow_h : l_toRow_C := by
  intro a hp
  refine tcon_bd rfl fun hb => l_toRow_t a _ (l_toRow_v0 _ a ?_)
  repeat' (first | exact rfl | refine And.intro ?_ ?_)
  all_goals (simp only [p_to, sz_prod, sz_int, sz_bool] at hp ⊢; omega)

theorem l_toRow_ok : TRowOk Try.prog l_toRow_row := rowOk fun x h => l_toRow_h x.1 h

def l_toRowS_R (t : (List (List Int))) : TRes := ⟨(.c (.sl [(.sl [TI])]) t), [], [], true, []⟩
def l_toRowS_row : TRow := mkRow 212 [(.c (.sl [(.sl [TI])]))] fun x => (some (p_to (α := List (List Int)) x.1), l_toRowS_R (id (α := List (List Int)) x.1))
def l_toRowS_C : Prop := ∀ (x0 : List (List Int)), (p_to (α := List (List Int)) x0) → TCon Try.prog 212 [(.c (.sl [(.sl [TI])]) x0)] (l_toRowS_R (id (α := List (List Int)) x0))

/-! laws.toRowS -/
def l_toRowS_G : List TRow := [l_toRow_row]
def l_toRowS_b2 : TCode :=
  (.seq (.seq (.reg [.op (some 8) (.mov (.s 4)),
     .op (some 9) (.mov (.s 0)),
     .op (some 10) (.len (.s 9)),
     .op (some 11) (.bin .lss (.s 8) (.s 10))])
  (.cond (.s 11) .skip (.exit 0)))
 (.seq (.block 1 (.reg [.op (some 14) (.mov (.s 3)),
      .op (some 15) (.mov (.s 4)),
      .op (some 16) (.mov (.s 0)),
      .op (some 17) (.mov (.s 4)),
      .op (some 18) (.iad (.s 16) (.s 17) [(.sl [TI])]),
      .op (some 19) (.load (.s 18) 1 true),
      .op (some 20) (.call 219 [(.s 19)]),
      .op (some 21) (.iad (.s 14) (.s 15) [(.sl [TI])]),
      .op none (.store (.s 21) (.s 20) 1)]))
  (.reg [.op (some 12) (.mov (.s 4)),
     .op (some 13) (.bin .add (.s 12) (.k (.c TI (1 : Int)))),
     .op (some 4) (.mov (.s 13))])))
def l_toRowS_L2 : List (Nat × Md) := [(0, .one .d), (3, .one .f), (4, .one .d)]
def l_toRowS_y1 : TCode :=
  (.seq (.reg [.op (some 22) (.mov (.s 3)),
    .op (some 2) (.mov (.s 22))])
 .ret)
def l_toRowS_c : TCode :=
  (.seq (.reg [.op (some 2) (.mov (.k (.n [(.sl [TI])])))])
 (.seq (.reg [.op (some 5) (.mov (.s 0)),
     .op (some 6) (.len (.s 5)),
     .op (some 7) (.mk 91 [(.sl [TI])] [(.n [TI])] (.s 6)),
     .op (some 3) (.mov (.s 7))])
  (.seq (.seq (.reg [.op (some 4) (.mov (.k (.c TI (0 : Int))))])
    (.block 0 (.loop l_toRowS_L2 l_toRowS_b2)))
   l_toRowS_y1)))
def l_toRowS_rs : List (ARv × Md) := [(.t 2, .one .d)]
theorem l_toRowS_st : compF Try.prog 212 = some (l_toRowS_c.er, l_toRowS_rs.map Prod.fst, 23) := by kernel_rfl
def l_toRowS_Q (K : TRes → Prop) : TPost := TQ 0 0 l_toRowS_rs K
def l_toRowS_q1 (K : TRes → Prop) : TPost := Qseq (tawp l_toRowS_G 0 l_toRowS_y1 (l_toRowS_Q K)) (l_toRowS_Q K)
def l_toRowS_q2 (K : TRes → Prop) : TPost := Qblk 0 (l_toRowS_q1 K)
def l_toRowS_A2 (K : TRes → Prop) (a : List (List Int)) (i : Int) (out : List (List Int)) : Prop := Loop l_toRowS_G 0 l_toRowS_L2 l_toRowS_b2 (l_toRowS_q2 K) ⟨[(0, (.c (.sl [(.sl [TI])]) a)), (3, (.r [(.sl [TI])] 0 0 out.length)), (4, (.c TI i))], [(0, (.sl 91 [(.sl [TI])] true out))], 1⟩
theorem l_toRowS_v2 (K : TRes → Prop) (a : List (List Int)) (i : Int) (out : List (List Int)) (h :
  (((decide (i < (a.length : Int))) = true → ((((0 : Int) ≤ i ∧ Int.toNat i < a.length) ∧ ((p_to (α := List Int) (gtd ([] : List Int) a (Int.toNat i))) ∧ (((0 : Int) ≤ i ∧ Int.toNat i < out.length) ∧ ((0 + (Int.toNat i)) < out.length)))) ∧ (l_toRowS_A2 K a (w64 (i + (1 : Int))) (List.take out.length ((out).set (0 + (Int.toNat i)) (id (α := List Int) (gtd ([] : List Int) a (Int.toNat i)))))))) ∧ ((decide (i < (a.length : Int))) = false → K (l_toRowS_R (List.take out.length (List.drop 0 out)))))) : l_toRowS_A2 K a i out :=
  Loop.of (by kernel_rfl) h
theorem l_toRowS_v0 (K : TRes → Prop) (a : List (List Int)) (h :
  (((0 : Int) ≤ (a.length : Int) ∧ (a.length : Int) ≤ big) ∧ (l_toRowS_A2 K a (0 : Int) (List.take (Int.toNat (a.length : Int)) (List.replicate (Int.toNat (a.length : Int)) ([] : List Int)))))) : Hold (tawp l_toRowS_G (0 + 0) l_toRowS_c (TQ 0 0 l_toRowS_rs K) (tstart [(.c (.sl [(.sl [TI])]) a)])) :=
  Hold.of (by kernel_rfl) h
theorem l_toRowS_t (a : List (List Int)) (r : TRes) (h : Hold (tawp l_toRowS_G (0 + 0) l_toRowS_c (TQ 0 0 l_toRowS_rs fun r' => r' = r) (tstart [(.c (.sl [(.sl [TI])]) a)]))) : TCon Try.prog 212 [(.c (.sl [(.sl [TI])]) a)] r :=
  tcon_gen (sg := [(.c (.sl [(.sl [TI])]))]) mixed (TOk.cons l_toRow_ok TOk.nil) l_toRowS_st (by kernel_rfl) (by kernel_rfl) (by kernel_rfl) (by kernel_rfl) h
theorem l_toRowS_h : l_toRowS_C := by
  intro a hp
  refine tcon_bd rfl fun hb => l_toRowS_t a _ (l_toRowS_v0 _ a ?_)
  exact toLoop (Q := fun x => l_toRowS_R x = l_toRowS_R (id (α := List (List Int)) a)) ([] : List Int) hp (fun i out h => l_toRowS_v2 _ a i out h) rfl

theorem l_toRowS_ok : TRowOk Try.prog l_toRowS_row := rowOk fun x h => l_toRowS_h x.1 h

def l_toGrads_R (t : TGrads) : TRes := ⟨(.a (Tup.cells ctGrads t)), [], [], true, []⟩
def l_toGrads_row : TRow := mkRow 213 [(.a ctGrads)] fun x => (some (p_to (α := TGrads) x.1), l_toGrads_R (id (α := TGrads) x.1))
def l_toGrads_C : Prop := ∀ (x0 : TGrads), (p_to (α := TGrads) x0) → TCon Try.prog 213 [(.a (Tup.cells ctGrads x0))] (l_toGrads_R (id (α := TGrads) x0))

/-! laws.toGrads -/
def l_toGrads_G : List TRow := [l_toRowS_row]
def l_toGrads_c : TCode :=
  (.seq (.reg [.op (some 1) (.box 227 (.s 0) 3),
    .op (some 2) (.new 119 [(.n [(.sl [TI])]), (.c TI (0 : Int)), (.c .bool false)])])
 (.seq (.reg [.op (some 3) (.new 119 [(.n [(.sl [TI])]), (.c TI (0 : Int)), (.c .bool false)])])
  (.seq (.reg [.op (some 4) (.fad (.s 1) 0),
      .op (some 5) (.load (.s 4) 1 false),
      .op (some 6) (.call 212 [(.s 5)]),
      .op (some 7) (.fad (.s 3) 0),
      .op none (.store (.s 7) (.s 6) 1)])
   (.seq (.reg [.op (some 8) (.fad (.s 1) 1),
       .op (some 9) (.load (.s 8) 1 false),
       .op (some 10) (.fad (.s 3) 1),
       .op none (.store (.s 10) (.s 9) 1)])
    (.seq (.reg [.op (some 11) (.fad (.s 1) 2),
        .op (some 12) (.load (.s 11) 1 false),
        .op (some 13) (.fad (.s 3) 2),
        .op none (.store (.s 13) (.s 12) 1)])
     (.seq (.reg [.op (some 14) (.load (.s 3) 3 true),
         .op none (.store (.s 2) (.s 14) 3)])
      .ret))))))
def l_toGrads_rs : List (ARv × Md) := [(.l 2 3 true, .b [.d, .d, .d])]
theorem l_toGrads_st : compF Try.prog 213 = some (l_toGrads_c.er, l_toGrads_rs.map Prod.fst, 15) := by kernel_rfl
def l_toGrads_Q (K : TRes → Prop) : TPost := TQ 0 0 l_toGrads_rs K
theorem l_toGrads_v0 (K : TRes → Prop) (a : TGrads) (h :
  ((p_to (α := List (List Int)) a.1) ∧ K (l_toGrads_R ((id (α := List (List Int)) a.1), a.2.1, a.2.2)))) : Hold (tawp l_toGrads_G (0 + 0) l_toGrads_c (TQ 0 0 l_toGrads_rs K) (tstart [(.a (Tup.cells ctGrads a))])) :=
  Hold.of (by kernel_rfl) h
theorem l_toGrads_t (a : TGrads) (r : TRes) (h : Hold (tawp l_toGrads_G (0 + 0) l_toGrads_c (TQ 0 0 l_toGrads_rs fun r' => r' = r) (tstart [(.a (Tup.cells ctGrads a))]))) : TCon Try.prog 213 [(.a (Tup.cells ctGrads a))] r :=
  tcon_gen (sg := [(.a ctGrads)]) mixed (TOk.cons l_toRowS_ok TOk.nil) l_toGrads_st (by kernel_rfl) (by kernel_rfl) (by kernel_rfl) (by kernel_rfl) h
theorem l_toGrads_h : l_toGrads_C := by
  intro a hp
  refine tcon_bd rfl fun hb => l_toGrads_t a _ (l_toGrads_v0 _ a ?_)
  repeat' (first | exact rfl | refine And.intro ?_ ?_)
  all_goals (simp only [p_to, sz_prod, sz_int, sz_bool] at hp ⊢; omega)

theorem l_toGrads_ok : TRowOk Try.prog l_toGrads_row := rowOk fun x h => l_toGrads_h x.1 h

def l_toPair_R (t : TPair) : TRes := ⟨(.a [(.c (.sl [TI]) t.1), (.c (.sl [TI]) t.2)]), [], [], true, []⟩
def l_toPair_row : TRow := mkRow 199 [(.a ctPair)] fun x => (some (p_to (α := TPair) x.1), l_toPair_R (id (α := TPair) x.1))
def l_toPair_C : Prop := ∀ (x0 : TPair), (p_to (α := TPair) x0) → TCon Try.prog 199 [(.a [(.c (.sl [TI]) x0.1), (.c (.sl [TI]) x0.2)])] (l_toPair_R (id (α := TPair) x0))

/-! laws.toPair -/
def l_toPair_G : List TRow := [l_toIntS_row]
def l_toPair_c : TCode :=
  (.seq (.reg [.op (some 1) (.box 222 (.s 0) 2),
    .op (some 2) (.new 230 [(.n [TI]), (.n [TI])])])
 (.seq (.reg [.op (some 3) (.new 230 [(.n [TI]), (.n [TI])])])
  (.seq (.reg [.op (some 4) (.fad (.s 1) 0),
      .op (some 5) (.load (.s 4) 1 false),
      .op (some 6) (.call 127 [(.s 5)]),
      .op (some 7) (.fad (.s 3) 0),
      .op none (.store (.s 7) (.s 6) 1)])
   (.seq (.reg [.op (some 8) (.fad (.s 1) 1),
       .op (some 9) (.load (.s 8) 1 false),
       .op (some 10) (.call 127 [(.s 9)]),
       .op (some 11) (.fad (.s 3) 1),
       .op none (.store (.s 11) (.s 10) 1)])
    (.seq (.reg [.op (some 12) (.load (.s 3) 2 true),
        .op none (.store (.s 2) (.s 12) 2)])
     .ret)))))
def l_toPair_rs : List (ARv × Md) := [(.l 2 2 true, .b [.d, .d])]
theorem l_toPair_st : compF Try.prog 199 = some (l_toPair_c.er, l_toPair_rs.map Prod.fst, 13) := by kernel_rfl
def l_toPair_Q (K : TRes → Prop) : TPost := TQ 0 0 l_toPair_rs K
theorem l_toPair_v0 (K : TRes → Prop) (a : TPair) (h :
  ((p_to (α := List Int) a.1) ∧ ((p_to (α := List Int) a.2) ∧ K (l_toPair_R ((id (α := List Int) a.1), (id (α := List Int) a.2)))))) : Hold (tawp l_toPair_G (0 + 0) l_toPair_c (TQ 0 0 l_toPair_rs K) (tstart [(.a [(.c (.sl [TI]) a.1), (.c (.sl [TI]) a.2)])])) :=
  Hold.of (by kernel_rfl) h
theorem l_toPair_t (a : TPair) (r : TRes) (h : Hold (tawp l_toPair_G (0 + 0) l_toPair_c (TQ 0 0 l_toPair_rs fun r' => r' = r) (tstart [(.a [(.c (.sl [TI]) a.1), (.c (.sl [TI]) a.2)])]))) : TCon Try.prog 199 [(.a [(.c (.sl [TI]) a.1), (.c (.sl [TI]) a.2)])] r :=
  tcon_gen (sg := [(.a ctPair)]) mixed (TOk.cons l_toIntS_ok TOk.nil) l_toPair_st (by kernel_rfl) (by kernel_rfl) (by kernel_rfl) (by kernel_rfl) h
theorem l_toPair_h : l_toPair_C := by
  intro a hp
  refine tcon_bd rfl fun hb => l_toPair_t a _ (l_toPair_v0 _ a ?_)
  repeat' (first | exact rfl | refine And.intro ?_ ?_)
  all_goals (simp only [p_to, sz_prod, sz_int, sz_bool] at hp ⊢; omega)

theorem l_toPair_ok : TRowOk Try.prog l_toPair_row := rowOk fun x h => l_toPair_h x.1 h

def l_toPairS_R (t : (List TPair)) : TRes := ⟨(.c (.sl ctPair) t), [], [], true, []⟩
def l_toPairS_row : TRow := mkRow 168 [(.c (.sl ctPair))] fun x => (some (p_to (α := List TPair) x.1), l_toPairS_R (id (α := List TPair) x.1))
def l_toPairS_C : Prop := ∀ (x0 : List TPair), (p_to (α := List TPair) x0) → TCon Try.prog 168 [(.c (.sl ctPair) x0)] (l_toPairS_R (id (α := List TPair) x0))

/-! laws.toPairS -/
def l_toPairS_G : List TRow := [l_toPair_row]
def l_toPairS_b2 : TCode :=
  (.seq (.seq (.reg [.op (some 8) (.mov (.s 4)),
     .op (some 9) (.mov (.s 0)),
     .op (some 10) (.len (.s 9)),
     .op (some 11) (.bin .lss (.s 8) (.s 10))])
  (.cond (.s 11) .skip (.exit 0)))
 (.seq (.block 1 (.reg [.op (some 14) (.mov (.s 3)),
      .op (some 15) (.mov (.s 4)),
      .op (some 16) (.mov (.s 0)),
      .op (some 17) (.mov (.s 4)),
      .op (some 18) (.iad (.s 16) (.s 17) ctPair),
      .op (some 19) (.load (.s 18) 2 true),
      .op (some 20) (.call 199 [(.s 19)]),
      .op (some 21) (.iad (.s 14) (.s 15) ctPair),
      .op none (.store (.s 21) (.s 20) 2)]))
  (.reg [.op (some 12) (.mov (.s 4)),
     .op (some 13) (.bin .add (.s 12) (.k (.c TI (1 : Int)))),
     .op (some 4) (.mov (.s 13))])))
def l_toPairS_L2 : List (Nat × Md) := [(0, .one .d), (3, .one .f), (4, .one .d)]
def l_toPairS_y1 : TCode :=
  (.seq (.reg [.op (some 22) (.mov (.s 3)),
    .op (some 2) (.mov (.s 22))])
 .ret)
def l_toPairS_c : TCode :=
  (.seq (.reg [.op (some 2) (.mov (.k (.n ctPair)))])
 (.seq (.reg [.op (some 5) (.mov (.s 0)),
     .op (some 6) (.len (.s 5)),
     .op (some 7) (.mk 230 ctPair [(.n [TI]), (.n [TI])] (.s 6)),
     .op (some 3) (.mov (.s 7))])
  (.seq (.seq (.reg [.op (some 4) (.mov (.k (.c TI (0 : Int))))])
    (.block 0 (.loop l_toPairS_L2 l_toPairS_b2)))
   l_toPairS_y1)))
def l_toPairS_rs : List (ARv × Md) := [(.t 2, .one .d)]
theorem l_toPairS_st : compF Try.prog 168 = some (l_toPairS_c.er, l_toPairS_rs.map Prod.fst, 23) := by kernel_rfl
def l_toPairS_Q (K : TRes → Prop) : TPost := TQ 0 0 l_toPairS_rs K
def l_toPairS_q1 (K : TRes → Prop) : TPost := Qseq (tawp l_toPairS_G 0 l_toPairS_y1 (l_toPairS_Q K)) (l_toPairS_Q K)
def l_toPairS_q2 (K : TRes → Prop) : TPost := Qblk 0 (l_toPairS_q1 K)
def l_toPairS_A2 (K : TRes → Prop) (a : List TPair) (i : Int) (out : List TPair) : Prop := Loop l_toPairS_G 0 l_toPairS_L2 l_toPairS_b2 (l_toPairS_q2 K) ⟨[(0, (.c (.sl ctPair) a)), (3, (.r ctPair 0 0 out.length)), (4, (.c TI i))], [(0, (.sl 230 ctPair true out))], 1⟩
theorem l_toPairS_v2 (K : TRes → Prop) (a : List TPair) (i : Int) (out : List TPair) (h :
  (((decide (i < (a.length : Int))) = true → ((((0 : Int) ≤ i ∧ Int.toNat i < a.length) ∧ ((p_to (α := TPair) (gtd dPair a (Int.toNat i))) ∧ (((0 : Int) ≤ i ∧ Int.toNat i < out.length) ∧ ((0 + (Int.toNat i)) < out.length)))) ∧ (l_toPairS_A2 K a (w64 (i + (1 : Int))) (List.take out.length ((out).set (0 + (Int.toNat i)) (id (α := TPair) (gtd dPair a (Int.toNat i)))))))) ∧ ((decide (i < (a.length : Int))) = false → K (l_toPairS_R (List.take out.length (List.drop 0 out)))))) : l_toPairS_A2 K a i out :=
  Loop.of (by kernel_rfl) h
theorem l_toPairS_v0 (K : TRes → Prop) (a : List TPair) (h :
  (((0 : Int) ≤ (a.length : Int) ∧ (a.length : Int) ≤ big) ∧ (l_toPairS_A2 K a (0 : Int) (List.take (Int.toNat (a.length : Int)) (List.replicate (Int.toNat (a.length : Int)) ([], [])))))) : Hold (tawp l_toPairS_G (0 + 0) l_toPairS_c (TQ 0 0 l_toPairS_rs K) (tstart [(.c (.sl ctPair) a)])) :=
  Hold.of (by kernel_rfl) h
theorem l_toPairS_t (a : List TPair) (r : TRes) (h : Hold (tawp l_toPairS_G (0 + 0) l_toPairS_c (TQ 0 0 l_toPairS_rs fun r' => r' = r) (tstart [(.c (.sl ctPair) a)]))) : TCon Try.prog 168 [(.c (.sl ctPair) a)] r :=
  tcon_gen (sg := [(.c (.sl ctPair))]) mixed (TOk.cons l_toPair_ok TOk.nil) l_toPairS_st (by kernel_rfl) (by kernel_rfl) (by kernel_rfl) (by kernel_rfl) h
theorem l_toPairS_h : l_toPairS_C := by
  intro a hp
  refine tcon_bd rfl fun hb => l_toPairS_t a _ (l_toPairS_v0 _ a ?_)
  exact toLoop (Q := fun x => l_toPairS_R x = l_toPairS_R (id (α := List TPair) a)) dPair hp (fun i out h => l_toPairS_v2 _ a i out h) rfl

theorem l_toPairS_ok : TRowOk Try.prog l_toPairS_row := rowOk fun x h => l_toPairS_h x.1 h

def l_eqIntS_R (t : Bool) : TRes := ⟨(.c .bool t), [], [], false, []⟩
def l_eqIntS_row : TRow := mkRow 66 [(.c (.sl [TI])), (.c (.sl [TI]))] fun x => (none, l_eqIntS_R (m_eq (α := List Int) x.1 x.2.1))
def l_eqIntS_C : Prop := ∀ (x0 : List Int) (x1 : List Int), TCon Try.prog 66 [(.c (.sl [TI]) x0), (.c (.sl [TI]) x1)] (l_eqIntS_R (m_eq (α := List Int) x0 x1))

/-! laws.eqIntS -/
def l_eqIntS_G : List TRow := []
def l_eqIntS_b2 : TCode :=
  (.seq (.seq (.reg [.op (some 11) (.mov (.s 5)),
     .op (some 12) (.mov (.s 0)),
     .op (some 13) (.len (.s 12)),
     .op (some 14) (.bin .lss (.s 11) (.s 13))])
  (.cond (.s 14) .skip (.exit 0)))
 (.seq (.block 1 (.seq (.draw [.op (some 17) (.mov (.s 0)),
       .op (some 18) (.mov (.s 5)),
       .op (some 19) (.iad (.s 17) (.s 18) [TI]),
       .op (some 20) (.load (.s 19) 1 false),
       .op (some 21) (.mov (.s 1)),
       .op (some 22) (.mov (.s 5)),
       .op (some 23) (.iad (.s 21) (.s 22) [TI]),
       .op (some 24) (.load (.s 23) 1 false),
       .op (some 25) (.bin .neq (.s 20) (.s 24))] [])
    (.cond (.s 25) (.seq (.reg [.op (some 4) (.mov (.k (.c .bool false)))])
      .ret) .skip)))
  (.reg [.op (some 15) (.mov (.s 5)),
     .op (some 16) (.bin .add (.s 15) (.k (.c TI (1 : Int)))),
     .op (some 5) (.mov (.s 16))])))
def l_eqIntS_L2 : List (Nat × Md) := [(0, .one .d), (1, .one .d), (5, .one .d)]
def l_eqIntS_y1 : TCode :=
  (.seq (.reg [.op (some 4) (.mov (.k (.c .bool true)))])
 .ret)
def l_eqIntS_c : TCode :=
  (.seq (.reg [.op (some 4) (.mov (.k (.c .bool false)))])
 (.seq (.seq (.reg [.op (some 6) (.mov (.s 0)),
      .op (some 7) (.len (.s 6)),
      .op (some 8) (.mov (.s 1)),
      .op (some 9) (.len (.s 8)),
      .op (some 10) (.bin .neq (.s 7) (.s 9))])
   (.cond (.s 10) (.seq (.reg [.op (some 4) (.mov (.k (.c .bool false)))])
     .ret) .skip))
  (.seq (.seq (.reg [.op (some 5) (.mov (.k (.c TI (0 : Int))))])
    (.block 0 (.loop l_eqIntS_L2 l_eqIntS_b2)))
   l_eqIntS_y1)))
def l_eqIntS_rs : List (ARv × Md) := [(.t 4, .one .d)]
theorem l_eqIntS_st : compF Try.prog 66 = some (l_eqIntS_c.er, l_eqIntS_rs.map Prod.fst, 26) := by kernel_rfl
def l_eqIntS_Q (K : TRes → Prop) : TPost := TQ 0 0 l_eqIntS_rs K
def l_eqIntS_q1 (K : TRes → Prop) : TPost := Qseq (tawp l_eqIntS_G 0 l_eqIntS_y1 (l_eqIntS_Q K)) (l_eqIntS_Q K)
def l_eqIntS_q2 (K : TRes → Prop) : TPost := Qblk 0 (l_eqIntS_q1 K)
def l_eqIntS_A2 (K : TRes → Prop) (a : List Int) (b : List Int) (i : Int) : Prop := Loop l_eqIntS_G 0 l_eqIntS_L2 l_eqIntS_b2 (l_eqIntS_q2 K) ⟨[(0, (.c (.sl [TI]) a)), (1, (.c (.sl [TI]) b)), (5, (.c TI i))], [], 0⟩
theorem l_eqIntS_v2 (K : TRes → Prop) (a : List Int) (b : List Int) (i : Int) (h :
  (((decide (i < (a.length : Int))) = true → ((((0 : Int) ≤ i ∧ Int.toNat i < a.length) ∧ ((0 : Int) ≤ i ∧ Int.toNat i < b.length)) ∧ ((((gtd (0 : Int) a (Int.toNat i)) != (gtd (0 : Int) b (Int.toNat i))) = true → K (l_eqIntS_R false)) ∧ (((gtd (0 : Int) a (Int.toNat i)) != (gtd (0 : Int) b (Int.toNat i))) = false → (l_eqIntS_A2 K a b (w64 (i + (1 : Int)))))))) ∧ ((decide (i < (a.length : Int))) = false → K (l_eqIntS_R true)))) : l_eqIntS_A2 K a b i :=
  Loop.of (by kernel_rfl) h
theorem l_eqIntS_v0 (K : TRes → Prop) (a : List Int) (b : List Int) (h :
  ((((a.length : Int) != (b.length : Int)) = true → K (l_eqIntS_R false)) ∧ (((a.length : Int) != (b.length : Int)) = false → (l_eqIntS_A2 K a b (0 : Int))))) : Hold (tawp l_eqIntS_G (0 + 0) l_eqIntS_c (TQ 0 0 l_eqIntS_rs K) (tstart [(.c (.sl [TI]) a), (.c (.sl [TI]) b)])) :=
  Hold.of (by kernel_rfl) h
theorem l_eqIntS_t (a : List Int) (b : List Int) (r : TRes) (h : Hold (tawp l_eqIntS_G (0 + 0) l_eqIntS_c (TQ 0 0 l_eqIntS_rs fun r' => r' = r) (tstart [(.c (.sl [TI]) a), (.c (.sl [TI]) b)]))) : TCon Try.prog 66 [(.c (.sl [TI]) a), (.c (.sl [TI]) b)] r :=
  tcon_gen (sg := [(.c (.sl [TI])), (.c (.sl [TI]))]) mixed TOk.nil l_eqIntS_st (by kernel_rfl) (by kernel_rfl) (by kernel_rfl) (by kernel_rfl) h
theorem l_eqIntS_h : l_eqIntS_C := by
  intro a b
  refine tcon_bd rfl fun hb => l_eqIntS_t a b _ (l_eqIntS_v0 _ a b ?_)
  exact eqFlatInt hb.1.1 (fun i h => l_eqIntS_v2 _ a b i h) (Q := fun x => l_eqIntS_R x = l_eqIntS_R (m_eq (α := List Int) a b)) rfl

theorem l_eqIntS_ok : TRowOk Try.prog l_eqIntS_row := rowOk fun x _ => l_eqIntS_h x.1 x.2.1

def l_eqBoolS_R (t : Bool) : TRes := ⟨(.c .bool t), [], [], false, []⟩
def l_eqBoolS_row : TRow := mkRow 150 [(.c (.sl [.bool])), (.c (.sl [.bool]))] fun x => (none, l_eqBoolS_R (m_eq (α := List Bool) x.1 x.2.1))
def l_eqBoolS_C : Prop := ∀ (x0 : List Bool) (x1 : List Bool), TCon Try.prog 150 [(.c (.sl [.bool]) x0), (.c (.sl [.bool]) x1)] (l_eqBoolS_R (m_eq (α := List Bool) x0 x1))

/-! laws.eqBoolS -/
def l_eqBoolS_G : List TRow := []
def l_eqBoolS_b2 : TCode :=
  (.seq (.seq (.reg [.op (some 11) (.mov (.s 5)),
     .op (some 12) (.mov (.s 0)),
     .op (some 13) (.len (.s 12)),
     .op (some 14) (.bin .lss (.s 11) (.s 13))])
  (.cond (.s 14) .skip (.exit 0)))
 (.seq (.block 1 (.seq (.draw [.op (some 17) (.mov (.s 0)),
       .op (some 18) (.mov (.s 5)),
       .op (some 19) (.iad (.s 17) (.s 18) [.bool]),
       .op (some 20) (.load (.s 19) 1 false),
       .op (some 21) (.mov (.s 1)),
       .op (some 22) (.mov (.s 5)),
       .op (some 23) (.iad (.s 21) (.s 22) [.bool]),
       .op (some 24) (.load (.s 23) 1 false),
       .op (some 25) (.eqb true (.s 20) (.s 24))] [])
    (.cond (.s 25) (.seq (.reg [.op (some 4) (.mov (.k (.c .bool false)))])
      .ret) .skip)))
  (.reg [.op (some 15) (.mov (.s 5)),
     .op (some 16) (.bin .add (.s 15) (.k (.c TI (1 : Int)))),
     .op (some 5) (.mov (.s 16))])))
def l_eqBoolS_L2 : List (Nat × Md) := [(0, .one .d), (1, .one .d), (5, .one .d)]
def l_eqBoolS_y1 : TCode :=
  (.seq (.reg [.op (some 4) (.mov (.k (.c .bool true)))])
 .ret)
def l_eqBoolS_c : TCode :=
  (.seq (.reg [.op (some 4) (.mov (.k (.c .bool false)))])
 (.seq (.seq (.reg [.op (some 6) (.mov (.s 0)),
      .op (some 7) (.len (.s 6)),
      .op (some 8) (.mov (.s 1)),
      .op (some 9) (.len (.s 8)),
      .op (some 10) (.bin .neq (.s 7) (.s 9))])
   (.cond (.s 10) (.seq (.reg [.op (some 4) (.mov (.k (.c .bool false)))])
     .ret) .skip))
  (.seq (.seq (.reg [.op (some 5) (.mov (.k (.c TI (0 : Int))))])
    (.block 0 (.loop l_eqBoolS_L2 l_eqBoolS_b2)))
   l_eqBoolS_y1)))
def l_eqBoolS_rs : List (ARv × Md) := [(.t 4, .one .d)]
theorem l_eqBoolS_st : compF Try.prog 150 = some (l_eqBoolS_c.er, l_eqBoolS_rs.map Prod.fst, 26) := by kernel_rfl
def l_eqBoolS_Q (K : TRes → Prop) : TPost := TQ 0 0 l_eqBoolS_rs K
def l_eqBoolS_q1 (K : TRes → Prop) : TPost := Qseq (tawp l_eqBoolS_G 0 l_eqBoolS_y1 (l_eqBoolS_Q K)) (l_eqBoolS_Q K)
def l_eqBoolS_q2 (K : TRes → Prop) : TPost := Qblk 0 (l_eqBoolS_q1 K)
def l_eqBoolS_A2 (K : TRes → Prop) (a : List Bool) (b : List Bool) (i : Int) : Prop := Loop l_eqBoolS_G 0 l_eqBoolS_L2 l_eqBoolS_b2 (l_eqBoolS_q2 K) ⟨[(0, (.c (.sl [.bool]) a)), (1, (.c (.sl [.bool]) b)), (5, (.c TI i))], [], 0⟩
theorem l_eqBoolS_v2 (K : TRes → Prop) (a : List Bool) (b : List Bool) (i : Int) (h :
  (((decide (i < (a.length : Int))) = true → ((((0 : Int) ≤ i ∧ Int.toNat i < a.length) ∧ ((0 : Int) ≤ i ∧ Int.toNat i < b.length)) ∧ (((!((gtd (false : Bool) a (Int.toNat i)) == (gtd (false : Bool) b (Int.toNat i)))) = true → K (l_eqBoolS_R false)) ∧ ((!((gtd (false : Bool) a (Int.toNat i)) == (gtd (false : Bool) b (Int.toNat i)))) = false → (l_eqBoolS_A2 K a b (w64 (i + (1 : Int)))))))) ∧ ((decide (i < (a.length : Int))) = false → K (l_eqBoolS_R true)))) : l_eqBoolS_A2 K a b i :=
  Loop.of (by kernel_rfl) h
theorem l_eqBoolS_v0 (K : TRes → Prop) (a : List Bool) (b : List Bool) (h :
  ((((a.length : Int) != (b.length : Int)) = true → K (l_eqBoolS_R false)) ∧ (((a.length : Int) != (b.length : Int)) = false → (l_eqBoolS_A2 K a b (0 : Int))))) : Hold (tawp l_eqBoolS_G (0 + 0) l_eqBoolS_c (TQ 0 0 l_eqBoolS_rs K) (tstart [(.c (.sl [.bool]) a), (.c (.sl [.bool]) b)])) :=
  Hold.of (by kernel_rfl) h
theorem l_eqBoolS_t (a : List Bool) (b : List Bool) (r : TRes) (h : Hold (tawp l_eqBoolS_G (0 + 0) l_eqBoolS_c (TQ 0 0 l_eqBoolS_rs fun r' => r' = r) (tstart [(.c (.sl [.bool]) a), (.c (.sl [.bool]) b)]))) : TCon Try.prog 150 [(.c (.sl [.bool]) a), (.c (.sl [.bool]) b)] r :=
  tcon_gen (sg := [(.c (.sl [.bool])), (.c (.sl [.bool]))]) mixed TOk.nil l_eqBoolS_st (by kernel_rfl) (by kernel_rfl) (by kernel_rfl) (by kernel_rfl) h
theorem l_eqBoolS_h : l_eqBoolS_C := by
  intro a b
  refine tcon_bd rfl fun hb => l_eqBoolS_t a b _ (l_eqBoolS_v0 _ a b ?_)
  exact eqFlatBool hb.1.1 (fun i h => l_eqBoolS_v2 _ a b i h) (Q := fun x => l_eqBoolS_R x = l_eqBoolS_R (m_eq (α := List Bool) a b)) rfl

theorem l_eqBoolS_ok : TRowOk Try.prog l_eqBoolS_row := rowOk fun x _ => l_eqBoolS_h x.1 x.2.1

def l_eqRow_R (t : Bool) : TRes := ⟨(.c .bool t), [], [], false, []⟩
def l_eqRow_row : TRow := mkRow 196 [(.a [(.sl [TI])]), (.a [(.sl [TI])])] fun x => (none, l_eqRow_R (m_eq (α := List Int) x.1 x.2.1))
def l_eqRow_C : Prop := ∀ (x0 : List Int) (x1 : List Int), TCon Try.prog 196 [(.a [(.c (.sl [TI]) x0)]), (.a [(.c (.sl [TI]) x1)])] (l_eqRow_R (m_eq (α := List Int) x0 x1))

/-! laws.eqRow -/
def l_eqRow_G : List TRow := [l_eqIntS_row]
def l_eqRow_c : TCode :=
  (.seq (.reg [.op (some 2) (.box 91 (.s 0) 1),
    .op (some 3) (.box 91 (.s 1) 1),
    .op (some 4) (.mov (.k (.c .bool false)))])
 (.seq (.seq (.reg [.op (some 5) (.fad (.s 2) 0),
      .op (some 6) (.load (.s 5) 1 false),
      .op (some 7) (.fad (.s 3) 0),
      .op (some 8) (.load (.s 7) 1 false),
      .op (some 9) (.call 66 [(.s 6), (.s 8)]),
      .op (some 10) (.not (.s 9))])
   (.cond (.s 10) (.seq (.reg [.op (some 4) (.mov (.k (.c .bool false)))])
     .ret) .skip))
  (.seq (.reg [.op (some 4) (.mov (.k (.c .bool true)))])
   .ret)))
def l_eqRow_rs : List (ARv × Md) := [(.t 4, .one .d)]
theorem l_eqRow_st : compF Try.prog 196 = some (l_eqRow_c.er, l_eqRow_rs.map Prod.fst, 11) := by kernel_rfl
def l_eqRow_Q (K : TRes → Prop) : TPost := TQ 0 0 l_eqRow_rs K
theorem l_eqRow_v0 (K : TRes → Prop) (a : List Int) (b : List Int) (h :
  (((!(m_eq (α := List Int) a b)) = true → K (l_eqRow_R false)) ∧ ((!(m_eq (α := List Int) a b)) = false → K (l_eqRow_R true)))) : Hold (tawp l_eqRow_G (0 + 0) l_eqRow_c (TQ 0 0 l_eqRow_rs K) (tstart [(.a [(.c (.sl [TI]) a)]), (.a [(.c (.sl [TI]) b)])])) :=
  Hold.of (by kernel_rfl) h
theorem l_eqRow_t (a : List Int) (b : List Int) (r : TRes) (h : Hold (tawp l_eqRow_G (0 + 0) l_eqRow_c (TQ 0 0 l_eqRow_rs fun r' => r' = r) (tstart [(.a [(.c (.sl [TI]) a)]), (.a [(.c (.sl [TI]) b)])]))) : TCon Try.prog 196 [(.a [(.c (.sl [TI]) a)]), (.a [(.c (.sl [TI]) b)])] r :=
  tcon_gen (sg := [(.a [(.sl [TI])]), (.a [(.sl [TI])])]) mixed (TOk.cons l_eqIntS_ok TOk.nil) l_eqRow_st (by kernel_rfl) (by kernel_rfl) (by kernel_rfl) (by kernel_rfl) h
theorem l_eqRow_h : l_eqRow_C := by
  intro a b
  refine tcon_bd rfl fun hb => l_eqRow_t a b _ (l_eqRow_v0 _ a b ?_)
  refine ⟨fun h => R_eq (Eq.symm (decide_eq_false (by rintro rfl; simp [m_eq] at h))), fun h0 => ?_⟩
  refine R_eq (Eq.symm (decide_eq_true ?_))
  simp [m_eq] at h0
  simp [Prod.ext_iff, *]

theorem l_eqRow_ok : TRowOk Try.prog l_eqRow_row := rowOk fun x _ => l_eqRow_h x.1 x.2.1

def l_eqRowS_R (t : Bool) : TRes := ⟨(.c .bool t), [], [], false, []⟩
def l_eqRowS_row : TRow := mkRow 158 [(.c (.sl [(.sl [TI])])), (.c (.sl [(.sl [TI])]))] fun x => (none, l_eqRowS_R (m_eq (α := List (List Int)) x.1 x.2.1))
def l_eqRowS_C : Prop := ∀ (x0 : List (List Int)) (x1 : List (List Int)), TCon Try.prog 158 [(.c (.sl [(.sl [TI])]) x0), (.c (.sl [(.sl [TI])]) x1)] (l_eqRowS_R (m_eq (α := List (List Int)) x0 x1))

/-! laws.eqRowS -/
def l_eqRowS_G : List TRow := [l_eqRow_row]
def l_eqRowS_b2 : TCode :=
  (.seq (.seq (.reg [.op (some 11) (.mov (.s 5)),
     .op (some 12) (.mov (.s 0)),
     .op (some 13) (.len (.s 12)),
     .op (some 14) (.bin .lss (.s 11) (.s 13))])
  (.cond (.s 14) .skip (.exit 0)))
 (.seq (.block 1 (.seq (.draw [.op (some 17) (.mov (.s 0)),
       .op (some 18) (.mov (.s 5)),
       .op (some 19) (.iad (.s 17) (.s 18) [(.sl [TI])]),
       .op (some 20) (.load (.s 19) 1 true),
       .op (some 21) (.mov (.s 1)),
       .op (some 22) (.mov (.s 5)),
       .op (some 23) (.iad (.s 21) (.s 22) [(.sl [TI])]),
       .op (some 24) (.load (.s 23) 1 true),
       .op (some 25) (.call 196 [(.s 20), (.s 24)]),
       .op (some 26) (.not (.s 25))] [])
    (.cond (.s 26) (.seq (.reg [.op (some 4) (.mov (.k (.c .bool false)))])
      .ret) .skip)))
  (.reg [.op (some 15) (.mov (.s 5)),
     .op (some 16) (.bin .add (.s 15) (.k (.c TI (1 : Int)))),
     .op (some 5) (.mov (.s 16))])))
def l_eqRowS_L2 : List (Nat × Md) := [(0, .one .d), (1, .one .d), (5, .one .d)]
def l_eqRowS_y1 : TCode :=
  (.seq (.reg [.op (some 4) (.mov (.k (.c .bool true)))])
 .ret)
def l_eqRowS_c : TCode :=
  (.seq (.reg [.op (some 4) (.mov (.k (.c .bool false)))])
 (.seq (.seq (.reg [.op (some 6) (.mov (.s 0)),
      .op (some 7) (.len (.s 6)),
      .op (some 8) (.mov (.s 1)),
      .op (some 9) (.len (.s 8)),
      .op (some 10) (.bin .neq (.s 7) (.s 9))])
   (.cond (.s 10) (.seq (.reg [.op (some 4) (.mov (.k (.c .bool false)))])
     .ret) .skip))
  (.seq (.seq (.reg [.op (some 5) (.mov (.k (.c TI (0 : Int))))])
    (.block 0 (.loop l_eqRowS_L2 l_eqRowS_b2)))
   l_eqRowS_y1)))
def l_eqRowS_rs : List (ARv × Md) := [(.t 4, .one .d)]
theorem l_eqRowS_st : compF Try.prog 158 = some (l_eqRowS_c.er, l_eqRowS_rs.map Prod.fst, 27) := by kernel_rfl
def l_eqRowS_Q (K : TRes → Prop) : TPost := TQ 0 0 l_eqRowS_rs K
def l_eqRowS_q1 (K : TRes → Prop) : TPost := Qseq (tawp l_eqRowS_G 0 l_eqRowS_y1 (l_eqRowS_Q K)) (l_eqRowS_Q K)
def l_eqRowS_q2 (K : TRes → Prop) : TPost := Qblk 0 (l_eqRowS_q1 K)
def l_eqRowS_A2 (K : TRes → Prop) (a : List (List Int)) (b : List (List Int)) (i : Int) : Prop := Loop l_eqRowS_G 0 l_eqRowS_L2 l_eqRowS_b2 (l_eqRowS_q2 K) ⟨[(0, (.c (.sl [(.sl [TI])]) a)), (1, (.c (.sl [(.sl [TI])]) b)), (5, (.c TI i))], [], 0⟩
theorem l_eqRowS_v2 (K : TRes → Prop) (a : List (List Int)) (b : List (List Int)) (i : Int) (h :
  (((decide (i < (a.length : Int))) = true → ((((0 : Int) ≤ i ∧ Int.toNat i < a.length) ∧ ((0 : Int) ≤ i ∧ Int.toNat i < b.length)) ∧ (((!(m_eq (α := List Int) (gtd ([] : List Int) a (Int.toNat i)) (gtd ([] : List Int) b (Int.toNat i)))) = true → K (l_eqRowS_R false)) ∧ ((!(m_eq (α := List Int) (gtd ([] : List Int) a (Int.toNat i)) (gtd ([] : List Int) b (Int.toNat i)))) = false → (l_eqRowS_A2 K a b (w64 (i + (1 : Int)))))))) ∧ ((decide (i < (a.length : Int))) = false → K (l_eqRowS_R true)))) : l_eqRowS_A2 K a b i :=
  Loop.of (by kernel_rfl) h
theorem l_eqRowS_v0 (K : TRes → Prop) (a : List (List Int)) (b : List (List Int)) (h :
  ((((a.length : Int) != (b.length : Int)) = true → K (l_eqRowS_R false)) ∧ (((a.length : Int) != (b.length : Int)) = false → (l_eqRowS_A2 K a b (0 : Int))))) : Hold (tawp l_eqRowS_G (0 + 0) l_eqRowS_c (TQ 0 0 l_eqRowS_rs K) (tstart [(.c (.sl [(.sl [TI])]) a), (.c (.sl [(.sl [TI])]) b)])) :=
  Hold.of (by kernel_rfl) h
theorem l_eqRowS_t (a : List (List Int)) (b : List (List Int)) (r : TRes) (h : Hold (tawp l_eqRowS_G (0 + 0) l_eqRowS_c (TQ 0 0 l_eqRowS_rs fun r' => r' = r) (tstart [(.c (.sl [(.sl [TI])]) a), (.c (.sl [(.sl [TI])]) b)]))) : TCon Try.prog 158 [(.c (.sl [(.sl [TI])]) a), (.c (.sl [(.sl [TI])]) b)] r :=
  tcon_gen (sg := [(.c (.sl [(.sl [TI])])), (.c (.sl [(.sl [TI])]))]) mixed (TOk.cons l_eqRow_ok TOk.nil) l_eqRowS_st (by kernel_rfl) (by kernel_rfl) (by kernel_rfl) (by kernel_rfl) h
theorem l_eqRowS_h : l_eqRowS_C := by
  intro a b
  refine tcon_bd rfl fun hb => l_eqRowS_t a b _ (l_eqRowS_v0 _ a b ?_)
  exact eqLoopG ([] : List Int) (E := m_eq) (fun _ _ => rfl) hb.1.1 (fun i h => l_eqRowS_v2 _ a b i h) (Q := fun x => l_eqRowS_R x = l_eqRowS_R (m_eq (α := List (List Int)) a b)) rfl

theorem l_eqRowS_ok : TRowOk Try.prog l_eqRowS_row := rowOk fun x _ => l_eqRowS_h x.1 x.2.1

def l_eqGrads_R (t : Bool) : TRes := ⟨(.c .bool t), [], [], false, []⟩
def l_eqGrads_row : TRow := mkRow 99 [(.a ctGrads), (.a ctGrads)] fun x => (none, l_eqGrads_R (m_eq (α := TGrads) x.1 x.2.1))
def l_eqGrads_C : Prop := ∀ (x0 : TGrads) (x1 : TGrads), TCon Try.prog 99 [(.a (Tup.cells ctGrads x0)), (.a (Tup.cells ctGrads x1))] (l_eqGrads_R (m_eq (α := TGrads) x0 x1))

/-! laws.eqGrads -/
def l_eqGrads_G : List TRow := [l_eqRowS_row]
def l_eqGrads_c : TCode :=
  (.seq (.reg [.op (some 2) (.box 119 (.s 0) 3),
    .op (some 3) (.box 119 (.s 1) 3),
    .op (some 4) (.mov (.k (.c .bool false)))])
 (.seq (.seq (.reg [.op (some 5) (.fad (.s 2) 0),
      .op (some 6) (.load (.s 5) 1 false),
      .op (some 7) (.fad (.s 3) 0),
      .op (some 8) (.load (.s 7) 1 false),
      .op (some 9) (.call 158 [(.s 6), (.s 8)]),
      .op (some 10) (.not (.s 9))])
   (.cond (.s 10) (.seq (.reg [.op (some 4) (.mov (.k (.c .bool false)))])
     .ret) .skip))
  (.seq (.seq (.reg [.op (some 11) (.fad (.s 2) 1),
       .op (some 12) (.load (.s 11) 1 false),
       .op (some 13) (.fad (.s 3) 1),
       .op (some 14) (.load (.s 13) 1 false),
       .op (some 15) (.bin .neq (.s 12) (.s 14))])
    (.cond (.s 15) (.seq (.reg [.op (some 4) (.mov (.k (.c .bool false)))])
      .ret) .skip))
   (.seq (.seq (.reg [.op (some 16) (.fad (.s 2) 2),
        .op (some 17) (.load (.s 16) 1 false),
        .op (some 18) (.fad (.s 3) 2),
        .op (some 19) (.load (.s 18) 1 false),
        .op (some 20) (.eqb true (.s 17) (.s 19))])
     (.cond (.s 20) (.seq (.reg [.op (some 4) (.mov (.k (.c .bool false)))])
       .ret) .skip))
    (.seq (.reg [.op (some 4) (.mov (.k (.c .bool true)))])
     .ret)))))
def l_eqGrads_rs : List (ARv × Md) := [(.t 4, .one .d)]
theorem l_eqGrads_st : compF Try.prog 99 = some (l_eqGrads_c.er, l_eqGrads_rs.map Prod.fst, 21) := by kernel_rfl
def l_eqGrads_Q (K : TRes → Prop) : TPost := TQ 0 0 l_eqGrads_rs K
theorem l_eqGrads_v0 (K : TRes → Prop) (a : TGrads) (b : TGrads) (h :
  (((!(m_eq (α := List (List Int)) a.1 b.1)) = true → K (l_eqGrads_R false)) ∧ ((!(m_eq (α := List (List Int)) a.1 b.1)) = false → (((a.2.1 != b.2.1) = true → K (l_eqGrads_R false)) ∧ ((a.2.1 != b.2.1) = false → (((!(a.2.2 == b.2.2)) = true → K (l_eqGrads_R false)) ∧ ((!(a.2.2 == b.2.2)) = false → K (l_eqGrads_R true)))))))) : Hold (tawp l_eqGrads_G (0 + 0) l_eqGrads_c (TQ 0 0 l_eqGrads_rs K) (tstart [(.a (Tup.cells ctGrads a)), (.a (Tup.cells ctGrads b))])) :=
  Hold.of (by kernel_rfl) h
theorem l_eqGrads_t (a : TGrads) (b : TGrads) (r : TRes) (h : Hold (tawp l_eqGrads_G (0 + 0) l_eqGrads_c (TQ 0 0 l_eqGrads_rs fun r' => r' = r) (tstart [(.a (Tup.cells ctGrads a)), (.a (Tup.cells ctGrads b))]))) : TCon Try.prog 99 [(.a (Tup.cells ctGrads a)), (.a (Tup.cells ctGrads b))] r :=
  tcon_gen (sg := [(.a ctGrads), (.a ctGrads)]) mixed (TOk.cons l_eqRowS_ok TOk.nil) l_eqGrads_st (by kernel_rfl) (by kernel_rfl) (by kernel_rfl) (by kernel_rfl) h
theorem l_eqGrads_h : l_eqGrads_C := by
  intro a b
  refine tcon_bd rfl fun hb => l_eqGrads_t a b _ (l_eqGrads_v0 _ a b ?_)
  refine ⟨fun h => R_eq (Eq.symm (decide_eq_false (by rintro rfl; simp [m_eq] at h))), fun h0 => ?_⟩
  refine ⟨fun h => R_eq (Eq.symm (decide_eq_false (by rintro rfl; simp [m_eq] at h))), fun h1 => ?_⟩
  refine ⟨fun h => R_eq (Eq.symm (decide_eq_false (by rintro rfl; simp [m_eq] at h))), fun h2 => ?_⟩
  refine R_eq (Eq.symm (decide_eq_true ?_))
  simp [m_eq] at h0 h1 h2
  simp [Prod.ext_iff, *]

theorem l_eqGrads_ok : TRowOk Try.prog l_eqGrads_row := rowOk fun x _ => l_eqGrads_h x.1 x.2.1

def l_eqPair_R (t : Bool) : TRes := ⟨(.c .bool t), [], [], false, []⟩
def l_eqPair_row : TRow := mkRow 201 [(.a ctPair), (.a ctPair)] fun x => (none, l_eqPair_R (m_eq (α := TPair) x.1 x.2.1))
def l_eqPair_C : Prop := ∀ (x0 : TPair) (x1 : TPair), TCon Try.prog 201 [(.a [(.c (.sl [TI]) x0.1), (.c (.sl [TI]) x0.2)]), (.a [(.c (.sl [TI]) x1.1), (.c (.sl [TI]) x1.2)])] (l_eqPair_R (m_eq (α := TPair) x0 x1))

/-! laws.eqPair -/
def l_eqPair_G : List TRow := [l_eqIntS_row]
def l_eqPair_c : TCode :=
  (.seq (.reg [.op (some 2) (.box 230 (.s 0) 2),
    .op (some 3) (.box 230 (.s 1) 2),
    .op (some 4) (.mov (.k (.c .bool false)))])
 (.seq (.seq (.reg [.op (some 5) (.fad (.s 2) 0),
      .op (some 6) (.load (.s 5) 1 false),
      .op (some 7) (.fad (.s 3) 0),
      .op (some 8) (.load (.s 7) 1 false),
      .op (some 9) (.call 66 [(.s 6), (.s 8)]),
      .op (some 10) (.not (.s 9))])
   (.cond (.s 10) (.seq (.reg [.op (some 4) (.mov (.k (.c .bool false)))])
     .ret) .skip))
  (.seq (.seq (.reg [.op (some 11) (.fad (.s 2) 1),
       .op (some 12) (.load (.s 11) 1 false),
       .op (some 13) (.fad (.s 3) 1),
       .op (some 14) (.load (.s 13) 1 false),
       .op (some 15) (.call 66 [(.s 12), (.s 14)]),
       .op (some 16) (.not (.s 15))])
    (.cond (.s 16) (.seq (.reg [.op (some 4) (.mov (.k (.c .bool false)))])
      .ret) .skip))
   (.seq (.reg [.op (some 4) (.mov (.k (.c .bool true)))])
    .ret))))
def l_eqPair_rs : List (ARv × Md) := [(.t 4, .one .d)]
theorem l_eqPair_st : compF Try.prog 201 = some (l_eqPair_c.er, l_eqPair_rs.map Prod.fst, 17) := by kernel_rfl
def l_eqPair_Q (K : TRes → Prop) : TPost := TQ 0 0 l_eqPair_rs K
theorem l_eqPair_v0 (K : TRes → Prop) (a : TPair) (b : TPair) (h :
  (((!(m_eq (α := List Int) a.1 b.1)) = true → K (l_eqPair_R false)) ∧ ((!(m_eq (α := List Int) a.1 b.1)) = false → (((!(m_eq (α := List Int) a.2 b.2)) = true → K (l_eqPair_R false)) ∧ ((!(m_eq (α := List Int) a.2 b.2)) = false → K (l_eqPair_R true)))))) : Hold (tawp l_eqPair_G (0 + 0) l_eqPair_c (TQ 0 0 l_eqPair_rs K) (tstart [(.a [(.c (.sl [TI]) a.1), (.c (.sl [TI]) a.2)]), (.a [(.c (.sl [TI]) b.1), (.c (.sl [TI]) b.2)])])) :=
  Hold.of (by kernel_rfl) h
theorem l_eqPair_t (a : TPair) (b : TPair) (r : TRes) (h : Hold (tawp l_eqPair_G (0 + 0) l_eqPair_c (TQ 0 0 l_eqPair_rs fun r' => r' = r) (tstart [(.a [(.c (.sl [TI]) a.1), (.c (.sl [TI]) a.2)]), (.a [(.c (.sl [TI]) b.1), (.c (.sl [TI]) b.2)])]))) : TCon Try.prog 201 [(.a [(.c (.sl [TI]) a.1), (.c (.sl [TI]) a.2)]), (.a [(.c (.sl [TI]) b.1), (.c (.sl [TI]) b.2)])] r :=
  tcon_gen (sg := [(.a ctPair), (.a ctPair)]) mixed (TOk.cons l_eqIntS_ok TOk.nil) l_eqPair_st (by kernel_rfl) (by kernel_rfl) (by kernel_rfl) (by kernel_rfl) h
theorem l_eqPair_h : l_eqPair_C := by
  intro a b
  refine tcon_bd rfl fun hb => l_eqPair_t a b _ (l_eqPair_v0 _ a b ?_)
  refine ⟨fun h => R_eq (Eq.symm (decide_eq_false (by rintro rfl; simp [m_eq] at h))), fun h0 => ?_⟩
  refine ⟨fun h => R_eq (Eq.symm (decide_eq_false (by rintro rfl; simp [m_eq] at h))), fun h1 => ?_⟩
  refine R_eq (Eq.symm (decide_eq_true ?_))
  simp [m_eq] at h0 h1
  simp [Prod.ext_iff, *]

theorem l_eqPair_ok : TRowOk Try.prog l_eqPair_row := rowOk fun x _ => l_eqPair_h x.1 x.2.1

def l_eqPairS_R (t : Bool) : TRes := ⟨(.c .bool t), [], [], false, []⟩
def l_eqPairS_row : TRow := mkRow 171 [(.c (.sl ctPair)), (.c (.sl ctPair))] fun x => (none, l_eqPairS_R (m_eq (α := List TPair) x.1 x.2.1))
def l_eqPairS_C : Prop := ∀ (x0 : List TPair) (x1 : List TPair), TCon Try.prog 171 [(.c (.sl ctPair) x0), (.c (.sl ctPair) x1)] (l_eqPairS_R (m_eq (α := List TPair) x0 x1))

/-! laws.eqPairS -/
def l_eqPairS_G : List TRow := [l_eqPair_row]
def l_eqPairS_b2 : TCode :=
  (.seq (.seq (.reg [.op (some 11) (.mov (.s 5)),
     .op (some 12) (.mov (.s 0)),
     .op (some 13) (.len (.s 12)),
     .op (some 14) (.bin .lss (.s 11) (.s 13))])
  (.cond (.s 14) .skip (.exit 0)))
 (.seq (.block 1 (.seq (.draw [.op (some 17) (.mov (.s 0)),
       .op (some 18) (.mov (.s 5)),
       .op (some 19) (.iad (.s 17) (.s 18) ctPair),
       .op (some 20) (.load (.s 19) 2 true),
       .op (some 21) (.mov (.s 1)),
       .op (some 22) (.mov (.s 5)),
       .op (some 23) (.iad (.s 21) (.s 22) ctPair),
       .op (some 24) (.load (.s 23) 2 true),
       .op (some 25) (.call 201 [(.s 20), (.s 24)]),
       .op (some 26) (.not (.s 25))] [])
    (.cond (.s 26) (.seq (.reg [.op (some 4) (.mov (.k (.c .bool false)))])
      .ret) .skip)))
  (.reg [.op (some 15) (.mov (.s 5)),
     .op (some 16) (.bin .add (.s 15) (.k (.c TI (1 : Int)))),
     .op (some 5) (.mov (.s 16))])))
def l_eqPairS_L2 : List (Nat × Md) := [(0, .one .d), (1, .one .d), (5, .one .d)]
def l_eqPairS_y1 : TCode :=
  (.seq (.reg [.op (some 4) (.mov (.k (.c .bool true)))])
 .ret)
def l_eqPairS_c : TCode :=
  (.seq (.reg [.op (some 4) (.mov (.k (.c .bool false)))])
 (.seq (.seq (.reg [.op (some 6) (.mov (.s 0)),
      .op (some 7) (.len (.s 6)),
      .op (some 8) (.mov (.s 1)),
      .op (some 9) (.len (.s 8)),
      .op (some 10) (.bin .neq (.s 7) (.s 9))])
   (.cond (.s 10) (.seq (.reg [.op (some 4) (.mov (.k (.c .bool false)))])
     .ret) .skip))
  (.seq (.seq (.reg [.op (some 5) (.mov (.k (.c TI (0 : Int))))])
    (.block 0 (.loop l_eqPairS_L2 l_eqPairS_b2)))
   l_eqPairS_y1)))
def l_eqPairS_rs : List (ARv × Md) := [(.t 4, .one .d)]
theorem l_eqPairS_st : compF Try.prog 171 = some (l_eqPairS_c.er, l_eqPairS_rs.map Prod.fst, 27) := by kernel_rfl
def l_eqPairS_Q (K : TRes → Prop) : TPost := TQ 0 0 l_eqPairS_rs K
def l_eqPairS_q1 (K : TRes → Prop) : TPost := Qseq (tawp l_eqPairS_G 0 l_eqPairS_y1 (l_eqPairS_Q K)) (l_eqPairS_Q K)
def l_eqPairS_q2 (K : TRes → Prop) : TPost := Qblk 0 (l_eqPairS_q1 K)
def l_eqPairS_A2 (K : TRes → Prop) (a : List TPair) (b : List TPair) (i : Int) : Prop := Loop l_eqPairS_G 0 l_eqPairS_L2 l_eqPairS_b2 (l_eqPairS_q2 K) ⟨[(0, (.c (.sl ctPair) a)), (1, (.c (.sl ctPair) b)), (5, (.c TI i))], [], 0⟩
theorem l_eqPairS_v2 (K : TRes → Prop) (a : List TPair) (b : List TPair) (i : Int) (h :
  (((decide (i < (a.length : Int))) = true → ((((0 : Int) ≤ i ∧ Int.toNat i < a.length) ∧ ((0 : Int) ≤ i ∧ Int.toNat i < b.length)) ∧ (((!(m_eq (α := TPair) (gtd dPair a (Int.toNat i)) (gtd dPair b (Int.toNat i)))) = true → K (l_eqPairS_R false)) ∧ ((!(m_eq (α := TPair) (gtd dPair a (Int.toNat i)) (gtd dPair b (Int.toNat i)))) = false → (l_eqPairS_A2 K a b (w64 (i + (1 : Int)))))))) ∧ ((decide (i < (a.length : Int))) = false → K (l_eqPairS_R true)))) : l_eqPairS_A2 K a b i :=
  Loop.of (by kernel_rfl) h
theorem l_eqPairS_v0 (K : TRes → Prop) (a : List TPair) (b : List TPair) (h :
  ((((a.length : Int) != (b.length : Int)) = true → K (l_eqPairS_R false)) ∧ (((a.length : Int) != (b.length : Int)) = false → (l_eqPairS_A2 K a b (0 : Int))))) : Hold (tawp l_eqPairS_G (0 + 0) l_eqPairS_c (TQ 0 0 l_eqPairS_rs K) (tstart [(.c (.sl ctPair) a), (.c (.sl ctPair) b)])) :=
  Hold.of (by kernel_rfl) h
theorem l_eqPairS_t (a : List TPair) (b : List TPair) (r : TRes) (h : Hold (tawp l_eqPairS_G (0 + 0) l_eqPairS_c (TQ 0 0 l_eqPairS_rs fun r' => r' = r) (tstart [(.c (.sl ctPair) a), (.c (.sl ctPair) b)]))) : TCon Try.prog 171 [(.c (.sl ctPair) a), (.c (.sl ctPair) b)] r :=
  tcon_gen (sg := [(.c (.sl ctPair)), (.c (.sl ctPair))]) mixed (TOk.cons l_eqPair_ok TOk.nil) l_eqPairS_st (by kernel_rfl) (by kernel_rfl) (by kernel_rfl) (by kernel_rfl) h
theorem l_eqPairS_h : l_eqPairS_C := by
  intro a b
  refine tcon_bd rfl fun hb => l_eqPairS_t a b _ (l_eqPairS_v0 _ a b ?_)
  exact eqLoopG dPair (E := m_eq) (fun _ _ => rfl) hb.1.1 (fun i h => l_eqPairS_v2 _ a b i h) (Q := fun x => l_eqPairS_R x = l_eqPairS_R (m_eq (α := List TPair) a b)) rfl

theorem l_eqPairS_ok : TRowOk Try.prog l_eqPairS_row := rowOk fun x _ => l_eqPairS_h x.1 x.2.1

end
end Go.Proofs.Ytephkbajoofeoaa.Am
