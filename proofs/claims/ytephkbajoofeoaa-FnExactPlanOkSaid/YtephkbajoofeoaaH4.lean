/-
  Written by program: the code of functions, what it asks, and that it comes to what the models say.
-/
import Derived.Test.YtephkbajoofeoaaH1
namespace Go.Proofs.Ytephkbajoofeoaa.Am
open Go Go.RowKit Go.Proofs.Ytephkbajoofeoaa
set_option linter.unusedVariables false
set_option linter.unusedSimpArgs false
noncomputable section

def l_szInsS_R (t : Int) : TRes := ⟨(.c TI t), [], [], false, []⟩
def l_szInsS_row : TRow := mkRow 22 [(.c (.sl ctIns)), (.c TI)] fun x => (some (p_sz (α := List TIns) x.1 x.2.1), l_szInsS_R (m_sz (α := List TIns) x.1 x.2.1))
def l_szInsS_C : Prop := ∀ (x0 : List TIns) (x1 : Int), (p_sz (α := List TIns) x0 x1) → TCon Try.prog 22 [(.c (.sl ctIns) x0), (.c TI x1)] (l_szInsS_R (m_sz (α := List TIns) x0 x1))

/-! laws.szInsS -/
def l_szInsS_G : List TRow := []
def l_szInsS_c : TCode :=
  (.seq (.reg [.op (some 4) (.mov (.k (.c TI (0 : Int))))])
 (.seq (.reg [.op (some 5) (.mov (.s 1)),
     .op (some 6) (.mov (.s 0)),
     .op (some 7) (.len (.s 6)),
     .op (some 8) (.bin .sub (.s 5) (.s 7)),
     .op (some 1) (.mov (.s 8))])
  (.seq (.seq (.reg [.op (some 9) (.mov (.s 1)),
       .op (some 10) (.bin .lss (.s 9) (.k (.c TI (0 : Int))))])
    (.cond (.s 10) (.seq (.reg [.op (some 4) (.mov (.k (.c TI (-1 : Int))))])
      .ret) .skip))
   (.seq (.reg [.op (some 11) (.mov (.s 1)),
       .op (some 4) (.mov (.s 11))])
    .ret))))
def l_szInsS_rs : List (ARv × Md) := [(.t 4, .one .d)]
theorem l_szInsS_st : compF Try.prog 22 = some (l_szInsS_c.er, l_szInsS_rs.map Prod.fst, 12) := by kernel_rfl
def l_szInsS_Q (K : TRes → Prop) : TPost := TQ 0 0 l_szInsS_rs K
theorem l_szInsS_v0 (K : TRes → Prop) (a : List TIns) (left : Int) (h :
  (((decide ((w64 (left - (a.length : Int))) < (0 : Int))) = true → K (l_szInsS_R (-1 : Int))) ∧ ((decide ((w64 (left - (a.length : Int))) < (0 : Int))) = false → K (l_szInsS_R (w64 (left - (a.length : Int))))))) : Hold (tawp l_szInsS_G (0 + 0) l_szInsS_c (TQ 0 0 l_szInsS_rs K) (tstart [(.c (.sl ctIns) a), (.c TI left)])) :=
  Hold.of (by kernel_rfl) h
theorem l_szInsS_t (a : List TIns) (left : Int) (r : TRes) (h : Hold (tawp l_szInsS_G (0 + 0) l_szInsS_c (TQ 0 0 l_szInsS_rs fun r' => r' = r) (tstart [(.c (.sl ctIns) a), (.c TI left)]))) : TCon Try.prog 22 [(.c (.sl ctIns) a), (.c TI left)] r :=
  tcon_gen (sg := [(.c (.sl ctIns)), (.c TI)]) mixed TOk.nil l_szInsS_st (by kernel_rfl) (by kernel_rfl) (by kernel_rfl) (by kernel_rfl) h
theorem l_szInsS_h : l_szInsS_C := by
  intro a left hp
  refine tcon_bd rfl fun hb => l_szInsS_t a left _ (l_szInsS_v0 _ a left ?_)
  exact szFlat (Q := fun x => l_szInsS_R x = l_szInsS_R (m_sz (α := List TIns) a left)) (fun _ => rfl) hp hb.1.1 rfl

theorem l_szInsS_ok : TRowOk Try.prog l_szInsS_row := rowOk fun x h => l_szInsS_h x.1 x.2.1 h

def l_szSaved_R (t : Int) : TRes := ⟨(.c TI t), [], [], false, []⟩
def l_szSaved_row : TRow := mkRow 216 [(.a ctSaved), (.c TI)] fun x => (some (p_sz (α := TSaved) x.1 x.2.1), l_szSaved_R (m_sz (α := TSaved) x.1 x.2.1))
def l_szSaved_C : Prop := ∀ (x0 : TSaved) (x1 : Int), (p_sz (α := TSaved) x0 x1) → TCon Try.prog 216 [(.a [(.c TI x0.1), (.c (.sl [(.sl [TI])]) x0.2)]), (.c TI x1)] (l_szSaved_R (m_sz (α := TSaved) x0 x1))

/-! laws.szSaved -/
def l_szSaved_G : List TRow := [l_szRowS_row]
def l_szSaved_c : TCode :=
  (.seq (.reg [.op (some 2) (.box 246 (.s 0) 2),
    .op (some 4) (.mov (.k (.c TI (0 : Int))))])
 (.seq (.reg [.op (some 5) (.fad (.s 2) 1),
     .op (some 6) (.load (.s 5) 1 false),
     .op (some 7) (.mov (.s 1)),
     .op (some 8) (.call 209 [(.s 6), (.s 7)]),
     .op (some 1) (.mov (.s 8))])
  (.seq (.seq (.reg [.op (some 9) (.mov (.s 1)),
       .op (some 10) (.bin .lss (.s 9) (.k (.c TI (0 : Int))))])
    (.cond (.s 10) (.seq (.reg [.op (some 4) (.mov (.k (.c TI (-1 : Int))))])
      .ret) .skip))
   (.seq (.reg [.op (some 11) (.mov (.s 1)),
       .op (some 4) (.mov (.s 11))])
    .ret))))
def l_szSaved_rs : List (ARv × Md) := [(.t 4, .one .d)]
theorem l_szSaved_st : compF Try.prog 216 = some (l_szSaved_c.er, l_szSaved_rs.map Prod.fst, 12) := by kernel_rfl
def l_szSaved_Q (K : TRes → Prop) : TPost := TQ 0 0 l_szSaved_rs K
theorem l_szSaved_v0 (K : TRes → Prop) (a : TSaved) (left : Int) (h :
  ((p_sz (α := List (List Int)) a.2 left) ∧ (((decide ((m_sz (α := List (List Int)) a.2 left) < (0 : Int))) = true → K (l_szSaved_R (-1 : Int))) ∧ ((decide ((m_sz (α := List (List Int)) a.2 left) < (0 : Int))) = false → K (l_szSaved_R (m_sz (α := List (List Int)) a.2 left)))))) : Hold (tawp l_szSaved_G (0 + 0) l_szSaved_c (TQ 0 0 l_szSaved_rs K) (tstart [(.a [(.c TI a.1), (.c (.sl [(.sl [TI])]) a.2)]), (.c TI left)])) :=
  Hold.of (by kernel_rfl) h
theorem l_szSaved_t (a : TSaved) (left : Int) (r : TRes) (h : Hold (tawp l_szSaved_G (0 + 0) l_szSaved_c (TQ 0 0 l_szSaved_rs fun r' => r' = r) (tstart [(.a [(.c TI a.1), (.c (.sl [(.sl [TI])]) a.2)]), (.c TI left)]))) : TCon Try.prog 216 [(.a [(.c TI a.1), (.c (.sl [(.sl [TI])]) a.2)]), (.c TI left)] r :=
  tcon_gen (sg := [(.a ctSaved), (.c TI)]) mixed (TOk.cons l_szRowS_ok TOk.nil) l_szSaved_st (by kernel_rfl) (by kernel_rfl) (by kernel_rfl) (by kernel_rfl) h
theorem l_szSaved_h : l_szSaved_C := by
  intro a left hp
  refine tcon_bd rfl fun hb => l_szSaved_t a left _ (l_szSaved_v0 _ a left ?_)
  refine ⟨hp, fun h => R_eq (sz_neg (of_decide_eq_true h) (by first | omega | (simp only [sz_prod, sz_int, sz_bool]; omega)) hp.1), fun h => ?_⟩
  exact R_eq (congrArg (m_szN · _) (by first | rfl | omega | (simp only [sz_prod, sz_int, sz_bool]; omega)))

theorem l_szSaved_ok : TRowOk Try.prog l_szSaved_row := rowOk fun x h => l_szSaved_h x.1 x.2.1 h

def l_szSavedS_R (t : Int) : TRes := ⟨(.c TI t), [], [], false, []⟩
def l_szSavedS_row : TRow := mkRow 208 [(.c (.sl ctSaved)), (.c TI)] fun x => (some (p_sz (α := List TSaved) x.1 x.2.1), l_szSavedS_R (m_sz (α := List TSaved) x.1 x.2.1))
def l_szSavedS_C : Prop := ∀ (x0 : List TSaved) (x1 : Int), (p_sz (α := List TSaved) x0 x1) → TCon Try.prog 208 [(.c (.sl ctSaved) x0), (.c TI x1)] (l_szSavedS_R (m_sz (α := List TSaved) x0 x1))

/-! laws.szSavedS -/
def l_szSavedS_G : List TRow := [l_szSaved_row]
def l_szSavedS_b2 : TCode :=
  (.seq (.seq (.reg [.op (some 12) (.mov (.s 5)),
     .op (some 13) (.mov (.s 0)),
     .op (some 14) (.len (.s 13)),
     .op (some 15) (.bin .lss (.s 12) (.s 14))])
  (.cond (.s 15) .skip (.exit 0)))
 (.seq (.block 1 (.seq (.reg [.op (some 18) (.mov (.s 0)),
       .op (some 19) (.mov (.s 5)),
       .op (some 20) (.iad (.s 18) (.s 19) ctSaved),
       .op (some 21) (.load (.s 20) 2 true),
       .op (some 22) (.mov (.s 1)),
       .op (some 23) (.call 216 [(.s 21), (.s 22)]),
       .op (some 1) (.mov (.s 23))])
    (.seq (.reg [.op (some 24) (.mov (.s 1)),
        .op (some 25) (.bin .lss (.s 24) (.k (.c TI (0 : Int))))])
     (.cond (.s 25) (.seq (.reg [.op (some 4) (.mov (.k (.c TI (-1 : Int))))])
       .ret) .skip))))
  (.reg [.op (some 16) (.mov (.s 5)),
     .op (some 17) (.bin .add (.s 16) (.k (.c TI (1 : Int)))),
     .op (some 5) (.mov (.s 17))])))
def l_szSavedS_L2 : List (Nat × Md) := [(0, .one .d), (1, .one .d), (5, .one .d)]
def l_szSavedS_y1 : TCode :=
  (.seq (.reg [.op (some 26) (.mov (.s 1)),
    .op (some 4) (.mov (.s 26))])
 .ret)
def l_szSavedS_c : TCode :=
  (.seq (.reg [.op (some 4) (.mov (.k (.c TI (0 : Int))))])
 (.seq (.reg [.op (some 6) (.mov (.s 1)),
     .op (some 7) (.mov (.s 0)),
     .op (some 8) (.len (.s 7)),
     .op (some 9) (.bin .sub (.s 6) (.s 8)),
     .op (some 1) (.mov (.s 9))])
  (.seq (.seq (.reg [.op (some 10) (.mov (.s 1)),
       .op (some 11) (.bin .lss (.s 10) (.k (.c TI (0 : Int))))])
    (.cond (.s 11) (.seq (.reg [.op (some 4) (.mov (.k (.c TI (-1 : Int))))])
      .ret) .skip))
   (.seq (.seq (.reg [.op (some 5) (.mov (.k (.c TI (0 : Int))))])
     (.block 0 (.loop l_szSavedS_L2 l_szSavedS_b2)))
    l_szSavedS_y1))))
def l_szSavedS_rs : List (ARv × Md) := [(.t 4, .one .d)]
theorem l_szSavedS_st : compF Try.prog 208 = some (l_szSavedS_c.er, l_szSavedS_rs.map Prod.fst, 27) := by kernel_rfl
def l_szSavedS_Q (K : TRes → Prop) : TPost := TQ 0 0 l_szSavedS_rs K
def l_szSavedS_q1 (K : TRes → Prop) : TPost := Qseq (tawp l_szSavedS_G 0 l_szSavedS_y1 (l_szSavedS_Q K)) (l_szSavedS_Q K)
def l_szSavedS_q2 (K : TRes → Prop) : TPost := Qblk 0 (l_szSavedS_q1 K)
def l_szSavedS_A2 (K : TRes → Prop) (a : List TSaved) (left1 : Int) (i : Int) : Prop := Loop l_szSavedS_G 0 l_szSavedS_L2 l_szSavedS_b2 (l_szSavedS_q2 K) ⟨[(0, (.c (.sl ctSaved) a)), (1, (.c TI left1)), (5, (.c TI i))], [], 0⟩
theorem l_szSavedS_v2 (K : TRes → Prop) (a : List TSaved) (left1 : Int) (i : Int) (h :
  (((decide (i < (a.length : Int))) = true → ((((0 : Int) ≤ i ∧ Int.toNat i < a.length) ∧ (p_sz (α := TSaved) (gtd dSaved a (Int.toNat i)) left1)) ∧ (((decide ((m_sz (α := TSaved) (gtd dSaved a (Int.toNat i)) left1) < (0 : Int))) = true → K (l_szSavedS_R (-1 : Int))) ∧ ((decide ((m_sz (α := TSaved) (gtd dSaved a (Int.toNat i)) left1) < (0 : Int))) = false → (l_szSavedS_A2 K a (m_sz (α := TSaved) (gtd dSaved a (Int.toNat i)) left1) (w64 (i + (1 : Int)))))))) ∧ ((decide (i < (a.length : Int))) = false → K (l_szSavedS_R left1)))) : l_szSavedS_A2 K a left1 i :=
  Loop.of (by kernel_rfl) h
theorem l_szSavedS_v0 (K : TRes → Prop) (a : List TSaved) (left : Int) (h :
  (((decide ((w64 (left - (a.length : Int))) < (0 : Int))) = true → K (l_szSavedS_R (-1 : Int))) ∧ ((decide ((w64 (left - (a.length : Int))) < (0 : Int))) = false → (l_szSavedS_A2 K a (w64 (left - (a.length : Int))) (0 : Int))))) : Hold (tawp l_szSavedS_G (0 + 0) l_szSavedS_c (TQ 0 0 l_szSavedS_rs K) (tstart [(.c (.sl ctSaved) a), (.c TI left)])) :=
  Hold.of (by kernel_rfl) h
theorem l_szSavedS_t (a : List TSaved) (left : Int) (r : TRes) (h : Hold (tawp l_szSavedS_G (0 + 0) l_szSavedS_c (TQ 0 0 l_szSavedS_rs fun r' => r' = r) (tstart [(.c (.sl ctSaved) a), (.c TI left)]))) : TCon Try.prog 208 [(.c (.sl ctSaved) a), (.c TI left)] r :=
  tcon_gen (sg := [(.c (.sl ctSaved)), (.c TI)]) mixed (TOk.cons l_szSaved_ok TOk.nil) l_szSavedS_st (by kernel_rfl) (by kernel_rfl) (by kernel_rfl) (by kernel_rfl) h
theorem l_szSavedS_h : l_szSavedS_C := by
  intro a left hp
  refine tcon_bd rfl fun hb => l_szSavedS_t a left _ (l_szSavedS_v0 _ a left ?_)
  exact szLoop (Q := fun x => l_szSavedS_R x = l_szSavedS_R (m_sz (α := List TSaved) a left)) dSaved hp hb.1.1 (fun l i h => l_szSavedS_v2 _ a l i h) rfl

theorem l_szSavedS_ok : TRowOk Try.prog l_szSavedS_row := rowOk fun x h => l_szSavedS_h x.1 x.2.1 h

def l_toIns_R (t : TIns) : TRes := ⟨(.a [(.c TI t.1), (.c TI t.2)]), [], [], false, []⟩
def l_toIns_row : TRow := mkRow 112 [(.a ctIns)] fun x => (some (p_to (α := TIns) x.1), l_toIns_R (id (α := TIns) x.1))
def l_toIns_C : Prop := ∀ (x0 : TIns), (p_to (α := TIns) x0) → TCon Try.prog 112 [(.a [(.c TI x0.1), (.c TI x0.2)])] (l_toIns_R (id (α := TIns) x0))

/-! laws.toIns -/
def l_toIns_G : List TRow := []
def l_toIns_c : TCode :=
  (.seq (.reg [.op (some 1) (.box 158 (.s 0) 2),
    .op (some 2) (.new 151 [(.c TI (0 : Int)), (.c TI (0 : Int))])])
 (.seq (.reg [.op (some 3) (.new 151 [(.c TI (0 : Int)), (.c TI (0 : Int))])])
  (.seq (.reg [.op (some 4) (.fad (.s 1) 0),
      .op (some 5) (.load (.s 4) 1 false),
      .op (some 6) (.fad (.s 3) 0),
      .op none (.store (.s 6) (.s 5) 1)])
   (.seq (.reg [.op (some 7) (.fad (.s 1) 1),
       .op (some 8) (.load (.s 7) 1 false),
       .op (some 9) (.fad (.s 3) 1),
       .op none (.store (.s 9) (.s 8) 1)])
    (.seq (.reg [.op (some 10) (.load (.s 3) 2 true),
        .op none (.store (.s 2) (.s 10) 2)])
     .ret)))))
def l_toIns_rs : List (ARv × Md) := [(.l 2 2 true, .b [.d, .d])]
theorem l_toIns_st : compF Try.prog 112 = some (l_toIns_c.er, l_toIns_rs.map Prod.fst, 11) := by kernel_rfl
def l_toIns_Q (K : TRes → Prop) : TPost := TQ 0 0 l_toIns_rs K
theorem l_toIns_v0 (K : TRes → Prop) (a : TIns) (h :
  K (l_toIns_R a)) : Hold (tawp l_toIns_G (0 + 0) l_toIns_c (TQ 0 0 l_toIns_rs K) (tstart [(.a [(.c TI a.1), (.c TI a.2)])])) :=
  Hold.of (by kernel_rfl) h
theorem l_toIns_t (a : TIns) (r : TRes) (h : Hold (tawp l_toIns_G (0 + 0) l_toIns_c (TQ 0 0 l_toIns_rs fun r' => r' = r) (tstart [(.a [(.c TI a.1), (.c TI a.2)])]))) : TCon Try.prog 112 [(.a [(.c TI a.1), (.c TI a.2)])] r :=
  tcon_gen (sg := [(.a ctIns)]) mixed TOk.nil l_toIns_st (by kernel_rfl) (by kernel_rfl) (by kernel_rfl) (by kernel_rfl) h
theorem l_toIns_h : l_toIns_C := by
  intro a hp
  refine tcon_bd rfl fun hb => l_toIns_t a _ (l_toIns_v0 _ a ?_)
  exact R_eq rfl

theorem l_toIns_ok : TRowOk Try.prog l_toIns_row := rowOk fun x h => l_toIns_h x.1 h

def l_toInsS_R (t : (List TIns)) : TRes := ⟨(.c (.sl ctIns) t), [], [], true, []⟩
def l_toInsS_row : TRow := mkRow 24 [(.c (.sl ctIns))] fun x => (some (p_to (α := List TIns) x.1), l_toInsS_R (id (α := List TIns) x.1))
def l_toInsS_C : Prop := ∀ (x0 : List TIns), (p_to (α := List TIns) x0) → TCon Try.prog 24 [(.c (.sl ctIns) x0)] (l_toInsS_R (id (α := List TIns) x0))

/-! laws.toInsS -/
def l_toInsS_G : List TRow := [l_toIns_row]
def l_toInsS_b2 : TCode :=
  (.seq (.seq (.reg [.op (some 8) (.mov (.s 4)),
     .op (some 9) (.mov (.s 0)),
     .op (some 10) (.len (.s 9)),
     .op (some 11) (.bin .lss (.s 8) (.s 10))])
  (.cond (.s 11) .skip (.exit 0)))
 (.seq (.block 1 (.reg [.op (some 14) (.mov (.s 3)),
      .op (some 15) (.mov (.s 4)),
      .op (some 16) (.mov (.s 0)),
      .op (some 17) (.mov (.s 4)),
      .op (some 18) (.iad (.s 16) (.s 17) ctIns),
      .op (some 19) (.load (.s 18) 2 true),
      .op (some 20) (.call 112 [(.s 19)]),
      .op (some 21) (.iad (.s 14) (.s 15) ctIns),
      .op none (.store (.s 21) (.s 20) 2)]))
  (.reg [.op (some 12) (.mov (.s 4)),
     .op (some 13) (.bin .add (.s 12) (.k (.c TI (1 : Int)))),
     .op (some 4) (.mov (.s 13))])))
def l_toInsS_L2 : List (Nat × Md) := [(0, .one .d), (3, .one .f), (4, .one .d)]
def l_toInsS_y1 : TCode :=
  (.seq (.reg [.op (some 22) (.mov (.s 3)),
    .op (some 2) (.mov (.s 22))])
 .ret)
def l_toInsS_c : TCode :=
  (.seq (.reg [.op (some 2) (.mov (.k (.n ctIns)))])
 (.seq (.reg [.op (some 5) (.mov (.s 0)),
     .op (some 6) (.len (.s 5)),
     .op (some 7) (.mk 151 ctIns [(.c TI (0 : Int)), (.c TI (0 : Int))] (.s 6)),
     .op (some 3) (.mov (.s 7))])
  (.seq (.seq (.reg [.op (some 4) (.mov (.k (.c TI (0 : Int))))])
    (.block 0 (.loop l_toInsS_L2 l_toInsS_b2)))
   l_toInsS_y1)))
def l_toInsS_rs : List (ARv × Md) := [(.t 2, .one .d)]
theorem l_toInsS_st : compF Try.prog 24 = some (l_toInsS_c.er, l_toInsS_rs.map Prod.fst, 23) := by kernel_rfl
def l_toInsS_Q (K : TRes → Prop) : TPost := TQ 0 0 l_toInsS_rs K
def l_toInsS_q1 (K : TRes → Prop) : TPost := Qseq (tawp l_toInsS_G 0 l_toInsS_y1 (l_toInsS_Q K)) (l_toInsS_Q K)
def l_toInsS_q2 (K : TRes → Prop) : TPost := Qblk 0 (l_toInsS_q1 K)
def l_toInsS_A2 (K : TRes → Prop) (a : List TIns) (i : Int) (out : List TIns) : Prop := Loop l_toInsS_G 0 l_toInsS_L2 l_toInsS_b2 (l_toInsS_q2 K) ⟨[(0, (.c (.sl ctIns) a)), (3, (.r ctIns 0 0 out.length)), (4, (.c TI i))], [(0, (.sl 151 ctIns true out))], 1⟩
theorem l_toInsS_v2 (K : TRes → Prop) (a : List TIns) (i : Int) (out : List TIns) (h :
  (((decide (i < (a.length : Int))) = true → ((((0 : Int) ≤ i ∧ Int.toNat i < a.length) ∧ ((p_to (α := TIns) (gtd dIns a (Int.toNat i))) ∧ (((0 : Int) ≤ i ∧ Int.toNat i < out.length) ∧ ((0 + (Int.toNat i)) < out.length)))) ∧ (l_toInsS_A2 K a (w64 (i + (1 : Int))) (List.take out.length ((out).set (0 + (Int.toNat i)) (id (α := TIns) (gtd dIns a (Int.toNat i)))))))) ∧ ((decide (i < (a.length : Int))) = false → K (l_toInsS_R (List.take out.length (List.drop 0 out)))))) : l_toInsS_A2 K a i out :=
  Loop.of (by kernel_rfl) h
theorem l_toInsS_v0 (K : TRes → Prop) (a : List TIns) (h :
  (((0 : Int) ≤ (a.length : Int) ∧ (a.length : Int) ≤ big) ∧ (l_toInsS_A2 K a (0 : Int) (List.take (Int.toNat (a.length : Int)) (List.replicate (Int.toNat (a.length : Int)) ((0 : Int), (0 : Int))))))) : Hold (tawp l_toInsS_G (0 + 0) l_toInsS_c (TQ 0 0 l_toInsS_rs K) (tstart [(.c (.sl ctIns) a)])) :=
  Hold.of (by kernel_rfl) h
theorem l_toInsS_t (a : List TIns) (r : TRes) (h : Hold (tawp l_toInsS_G (0 + 0) l_toInsS_c (TQ 0 0 l_toInsS_rs fun r' => r' = r) (tstart [(.c (.sl ctIns) a)]))) : TCon Try.prog 24 [(.c (.sl ctIns) a)] r :=
  tcon_gen (sg := [(.c (.sl ctIns))]) mixed (TOk.cons l_toIns_ok TOk.nil) l_toInsS_st (by kernel_rfl) (by kernel_rfl) (by kernel_rfl) (by kernel_rfl) h
theorem l_toInsS_h : l_toInsS_C := by
  intro a hp
  refine tcon_bd rfl fun hb => l_toInsS_t a _ (l_toInsS_v0 _ a ?_)
  exact toLoop (Q := fun x => l_toInsS_R x = l_toInsS_R (id (α := List TIns) a)) dIns hp (fun i out h => l_toInsS_v2 _ a i out h) rfl

theorem l_toInsS_ok : TRowOk Try.prog l_toInsS_row := rowOk fun x h => l_toInsS_h x.1 h

def l_toSaved_R (t : TSaved) : TRes := ⟨(.a [(.c TI t.1), (.c (.sl [(.sl [TI])]) t.2)]), [], [], true, []⟩
def l_toSaved_row : TRow := mkRow 218 [(.a ctSaved)] fun x => (some (p_to (α := TSaved) x.1), l_toSaved_R (id (α := TSaved) x.1))
def l_toSaved_C : Prop := ∀ (x0 : TSaved), (p_to (α := TSaved) x0) → TCon Try.prog 218 [(.a [(.c TI x0.1), (.c (.sl [(.sl [TI])]) x0.2)])] (l_toSaved_R (id (α := TSaved) x0))

/-! laws.toSaved -/
def l_toSaved_G : List TRow := [l_toRowS_row]
def l_toSaved_c : TCode :=
  (.seq (.reg [.op (some 1) (.box 246 (.s 0) 2),
    .op (some 2) (.new 218 [(.c TI (0 : Int)), (.n [(.sl [TI])])])])
 (.seq (.reg [.op (some 3) (.new 218 [(.c TI (0 : Int)), (.n [(.sl [TI])])])])
  (.seq (.reg [.op (some 4) (.fad (.s 1) 0),
      .op (some 5) (.load (.s 4) 1 false),
      .op (some 6) (.fad (.s 3) 0),
      .op none (.store (.s 6) (.s 5) 1)])
   (.seq (.reg [.op (some 7) (.fad (.s 1) 1),
       .op (some 8) (.load (.s 7) 1 false),
       .op (some 9) (.call 212 [(.s 8)]),
       .op (some 10) (.fad (.s 3) 1),
       .op none (.store (.s 10) (.s 9) 1)])
    (.seq (.reg [.op (some 11) (.load (.s 3) 2 true),
        .op none (.store (.s 2) (.s 11) 2)])
     .ret)))))
def l_toSaved_rs : List (ARv × Md) := [(.l 2 2 true, .b [.d, .d])]
theorem l_toSaved_st : compF Try.prog 218 = some (l_toSaved_c.er, l_toSaved_rs.map Prod.fst, 12) := by kernel_rfl
def l_toSaved_Q (K : TRes → Prop) : TPost := TQ 0 0 l_toSaved_rs K
theorem l_toSaved_v0 (K : TRes → Prop) (a : TSaved) (h :
  ((p_to (α := List (List Int)) a.2) ∧ K (l_toSaved_R (a.1, (id (α := List (List Int)) a.2))))) : Hold (tawp l_toSaved_G (0 + 0) l_toSaved_c (TQ 0 0 l_toSaved_rs K) (tstart [(.a [(.c TI a.1), (.c (.sl [(.sl [TI])]) a.2)])])) :=
  Hold.of (by kernel_rfl) h
theorem l_toSaved_t (a : TSaved) (r : TRes) (h : Hold (tawp l_toSaved_G (0 + 0) l_toSaved_c (TQ 0 0 l_toSaved_rs fun r' => r' = r) (tstart [(.a [(.c TI a.1), (.c (.sl [(.sl [TI])]) a.2)])]))) : TCon Try.prog 218 [(.a [(.c TI a.1), (.c (.sl [(.sl [TI])]) a.2)])] r :=
  tcon_gen (sg := [(.a ctSaved)]) mixed (TOk.cons l_toRowS_ok TOk.nil) l_toSaved_st (by kernel_rfl) (by kernel_rfl) (by kernel_rfl) (by kernel_rfl) h
theorem l_toSaved_h : l_toSaved_C := by
  intro a hp
  refine tcon_bd rfl fun hb => l_toSaved_t a _ (l_toSaved_v0 _ a ?_)
  repeat' (first | exact rfl | refine And.intro ?_ ?_)
  all_goals (simp only [p_to, sz_prod, sz_int, sz_bool] at hp ⊢; omega)

theorem l_toSaved_ok : TRowOk Try.prog l_toSaved_row := rowOk fun x h => l_toSaved_h x.1 h

def l_toSavedS_R (t : (List TSaved)) : TRes := ⟨(.c (.sl ctSaved) t), [], [], true, []⟩
def l_toSavedS_row : TRow := mkRow 211 [(.c (.sl ctSaved))] fun x => (some (p_to (α := List TSaved) x.1), l_toSavedS_R (id (α := List TSaved) x.1))
def l_toSavedS_C : Prop := ∀ (x0 : List TSaved), (p_to (α := List TSaved) x0) → TCon Try.prog 211 [(.c (.sl ctSaved) x0)] (l_toSavedS_R (id (α := List TSaved) x0))

/-! laws.toSavedS -/
def l_toSavedS_G : List TRow := [l_toSaved_row]
def l_toSavedS_b2 : TCode :=
  (.seq (.seq (.reg [.op (some 8) (.mov (.s 4)),
     .op (some 9) (.mov (.s 0)),
     .op (some 10) (.len (.s 9)),
     .op (some 11) (.bin .lss (.s 8) (.s 10))])
  (.cond (.s 11) .skip (.exit 0)))
 (.seq (.block 1 (.reg [.op (some 14) (.mov (.s 3)),
      .op (some 15) (.mov (.s 4)),
      .op (some 16) (.mov (.s 0)),
      .op (some 17) (.mov (.s 4)),
      .op (some 18) (.iad (.s 16) (.s 17) ctSaved),
      .op (some 19) (.load (.s 18) 2 true),
      .op (some 20) (.call 218 [(.s 19)]),
      .op (some 21) (.iad (.s 14) (.s 15) ctSaved),
      .op none (.store (.s 21) (.s 20) 2)]))
  (.reg [.op (some 12) (.mov (.s 4)),
     .op (some 13) (.bin .add (.s 12) (.k (.c TI (1 : Int)))),
     .op (some 4) (.mov (.s 13))])))
def l_toSavedS_L2 : List (Nat × Md) := [(0, .one .d), (3, .one .f), (4, .one .d)]
def l_toSavedS_y1 : TCode :=
  (.seq (.reg [.op (some 22) (.mov (.s 3)),
    .op (some 2) (.mov (.s 22))])
 .ret)
def l_toSavedS_c : TCode :=
  (.seq (.reg [.op (some 2) (.mov (.k (.n ctSaved)))])
 (.seq (.reg [.op (some 5) (.mov (.s 0)),
     .op (some 6) (.len (.s 5)),
     .op (some 7) (.mk 218 ctSaved [(.c TI (0 : Int)), (.n [(.sl [TI])])] (.s 6)),
     .op (some 3) (.mov (.s 7))])
  (.seq (.seq (.reg [.op (some 4) (.mov (.k (.c TI (0 : Int))))])
    (.block 0 (.loop l_toSavedS_L2 l_toSavedS_b2)))
   l_toSavedS_y1)))
def l_toSavedS_rs : List (ARv × Md) := [(.t 2, .one .d)]
theorem l_toSavedS_st : compF Try.prog 211 = some (l_toSavedS_c.er, l_toSavedS_rs.map Prod.fst, 23) := by kernel_rfl
def l_toSavedS_Q (K : TRes → Prop) : TPost := TQ 0 0 l_toSavedS_rs K
def l_toSavedS_q1 (K : TRes → Prop) : TPost := Qseq (tawp l_toSavedS_G 0 l_toSavedS_y1 (l_toSavedS_Q K)) (l_toSavedS_Q K)
def l_toSavedS_q2 (K : TRes → Prop) : TPost := Qblk 0 (l_toSavedS_q1 K)
def l_toSavedS_A2 (K : TRes → Prop) (a : List TSaved) (i : Int) (out : List TSaved) : Prop := Loop l_toSavedS_G 0 l_toSavedS_L2 l_toSavedS_b2 (l_toSavedS_q2 K) ⟨[(0, (.c (.sl ctSaved) a)), (3, (.r ctSaved 0 0 out.length)), (4, (.c TI i))], [(0, (.sl 218 ctSaved true out))], 1⟩
theorem l_toSavedS_v2 (K : TRes → Prop) (a : List TSaved) (i : Int) (out : List TSaved) (h :
  (((decide (i < (a.length : Int))) = true → ((((0 : Int) ≤ i ∧ Int.toNat i < a.length) ∧ ((p_to (α := TSaved) (gtd dSaved a (Int.toNat i))) ∧ (((0 : Int) ≤ i ∧ Int.toNat i < out.length) ∧ ((0 + (Int.toNat i)) < out.length)))) ∧ (l_toSavedS_A2 K a (w64 (i + (1 : Int))) (List.take out.length ((out).set (0 + (Int.toNat i)) (id (α := TSaved) (gtd dSaved a (Int.toNat i)))))))) ∧ ((decide (i < (a.length : Int))) = false → K (l_toSavedS_R (List.take out.length (List.drop 0 out)))))) : l_toSavedS_A2 K a i out :=
  Loop.of (by kernel_rfl) h
theorem l_toSavedS_v0 (K : TRes → Prop) (a : List TSaved) (h :
  (((0 : Int) ≤ (a.length : Int) ∧ (a.length : Int) ≤ big) ∧ (l_toSavedS_A2 K a (0 : Int) (List.take (Int.toNat (a.length : Int)) (List.replicate (Int.toNat (a.length : Int)) ((0 : Int), [])))))) : Hold (tawp l_toSavedS_G (0 + 0) l_toSavedS_c (TQ 0 0 l_toSavedS_rs K) (tstart [(.c (.sl ctSaved) a)])) :=
  Hold.of (by kernel_rfl) h
theorem l_toSavedS_t (a : List TSaved) (r : TRes) (h : Hold (tawp l_toSavedS_G (0 + 0) l_toSavedS_c (TQ 0 0 l_toSavedS_rs fun r' => r' = r) (tstart [(.c (.sl ctSaved) a)]))) : TCon Try.prog 211 [(.c (.sl ctSaved) a)] r :=
  tcon_gen (sg := [(.c (.sl ctSaved))]) mixed (TOk.cons l_toSaved_ok TOk.nil) l_toSavedS_st (by kernel_rfl) (by kernel_rfl) (by kernel_rfl) (by kernel_rfl) h
theorem l_toSavedS_h : l_toSavedS_C := by
  intro a hp
  refine tcon_bd rfl fun hb => l_toSavedS_t a _ (l_toSavedS_v0 _ a ?_)
  exact toLoop (Q := fun x => l_toSavedS_R x = l_toSavedS_R (id (α := List TSaved) a)) dSaved hp (fun i out h => l_toSavedS_v2 _ a i out h) rfl

theorem l_toSavedS_ok : TRowOk Try.prog l_toSavedS_row := rowOk fun x h => l_toSavedS_h x.1 h

def l_eqIns_R (t : Bool) : TRes := ⟨(.c .bool t), [], [], false, []⟩
def l_eqIns_row : TRow := mkRow 109 [(.a ctIns), (.a ctIns)] fun x => (none, l_eqIns_R (m_eq (α := TIns) x.1 x.2.1))
def l_eqIns_C : Prop := ∀ (x0 : TIns) (x1 : TIns), TCon Try.prog 109 [(.a [(.c TI x0.1), (.c TI x0.2)]), (.a [(.c TI x1.1), (.c TI x1.2)])] (l_eqIns_R (m_eq (α := TIns) x0 x1))

/-! laws.eqIns -/
def l_eqIns_G : List TRow := []
def l_eqIns_c : TCode :=
  (.seq (.reg [.op (some 2) (.box 151 (.s 0) 2),
    .op (some 3) (.box 151 (.s 1) 2),
    .op (some 4) (.mov (.k (.c .bool false)))])
 (.seq (.seq (.reg [.op (some 5) (.fad (.s 2) 0),
      .op (some 6) (.load (.s 5) 1 false),
      .op (some 7) (.fad (.s 3) 0),
      .op (some 8) (.load (.s 7) 1 false),
      .op (some 9) (.bin .neq (.s 6) (.s 8))])
   (.cond (.s 9) (.seq (.reg [.op (some 4) (.mov (.k (.c .bool false)))])
     .ret) .skip))
  (.seq (.seq (.reg [.op (some 10) (.fad (.s 2) 1),
       .op (some 11) (.load (.s 10) 1 false),
       .op (some 12) (.fad (.s 3) 1),
       .op (some 13) (.load (.s 12) 1 false),
       .op (some 14) (.bin .neq (.s 11) (.s 13))])
    (.cond (.s 14) (.seq (.reg [.op (some 4) (.mov (.k (.c .bool false)))])
      .ret) .skip))
   (.seq (.reg [.op (some 4) (.mov (.k (.c .bool true)))])
    .ret))))
def l_eqIns_rs : List (ARv × Md) := [(.t 4, .one .d)]
theorem l_eqIns_st : compF Try.prog 109 = some (l_eqIns_c.er, l_eqIns_rs.map Prod.fst, 15) := by kernel_rfl
def l_eqIns_Q (K : TRes → Prop) : TPost := TQ 0 0 l_eqIns_rs K
theorem l_eqIns_v0 (K : TRes → Prop) (a : TIns) (b : TIns) (h :
  (((a.1 != b.1) = true → K (l_eqIns_R false)) ∧ ((a.1 != b.1) = false → (((a.2 != b.2) = true → K (l_eqIns_R false)) ∧ ((a.2 != b.2) = false → K (l_eqIns_R true)))))) : Hold (tawp l_eqIns_G (0 + 0) l_eqIns_c (TQ 0 0 l_eqIns_rs K) (tstart [(.a [(.c TI a.1), (.c TI a.2)]), (.a [(.c TI b.1), (.c TI b.2)])])) :=
  Hold.of (by kernel_rfl) h
theorem l_eqIns_t (a : TIns) (b : TIns) (r : TRes) (h : Hold (tawp l_eqIns_G (0 + 0) l_eqIns_c (TQ 0 0 l_eqIns_rs fun r' => r' = r) (tstart [(.a [(.c TI a.1), (.c TI a.2)]), (.a [(.c TI b.1), (.c TI b.2)])]))) : TCon Try.prog 109 [(.a [(.c TI a.1), (.c TI a.2)]), (.a [(.c TI b.1), (.c TI b.2)])] r :=
  tcon_gen (sg := [(.a ctIns), (.a ctIns)]) mixed TOk.nil l_eqIns_st (by kernel_rfl) (by kernel_rfl) (by kernel_rfl) (by kernel_rfl) h
theorem l_eqIns_h : l_eqIns_C := by
  intro a b
  refine tcon_bd rfl fun hb => l_eqIns_t a b _ (l_eqIns_v0 _ a b ?_)
  refine ⟨fun h => R_eq (Eq.symm (decide_eq_false (by rintro rfl; simp [m_eq] at h))), fun h0 => ?_⟩
  refine ⟨fun h => R_eq (Eq.symm (decide_eq_false (by rintro rfl; simp [m_eq] at h))), fun h1 => ?_⟩
  refine R_eq (Eq.symm (decide_eq_true ?_))
  simp [m_eq] at h0 h1
  simp [Prod.ext_iff, *]

theorem l_eqIns_ok : TRowOk Try.prog l_eqIns_row := rowOk fun x _ => l_eqIns_h x.1 x.2.1

def l_eqInsS_R (t : Bool) : TRes := ⟨(.c .bool t), [], [], false, []⟩
def l_eqInsS_row : TRow := mkRow 19 [(.c (.sl ctIns)), (.c (.sl ctIns))] fun x => (none, l_eqInsS_R (m_eq (α := List TIns) x.1 x.2.1))
def l_eqInsS_C : Prop := ∀ (x0 : List TIns) (x1 : List TIns), TCon Try.prog 19 [(.c (.sl ctIns) x0), (.c (.sl ctIns) x1)] (l_eqInsS_R (m_eq (α := List TIns) x0 x1))

/-! laws.eqInsS -/
def l_eqInsS_G : List TRow := [l_eqIns_row]
def l_eqInsS_b2 : TCode :=
  (.seq (.seq (.reg [.op (some 11) (.mov (.s 5)),
     .op (some 12) (.mov (.s 0)),
     .op (some 13) (.len (.s 12)),
     .op (some 14) (.bin .lss (.s 11) (.s 13))])
  (.cond (.s 14) .skip (.exit 0)))
 (.seq (.block 1 (.seq (.draw [.op (some 17) (.mov (.s 0)),
       .op (some 18) (.mov (.s 5)),
       .op (some 19) (.iad (.s 17) (.s 18) ctIns),
       .op (some 20) (.load (.s 19) 2 true),
       .op (some 21) (.mov (.s 1)),
       .op (some 22) (.mov (.s 5)),
       .op (some 23) (.iad (.s 21) (.s 22) ctIns),
       .op (some 24) (.load (.s 23) 2 true),
       .op (some 25) (.call 109 [(.s 20), (.s 24)]),
       .op (some 26) (.not (.s 25))] [])
    (.cond (.s 26) (.seq (.reg [.op (some 4) (.mov (.k (.c .bool false)))])
      .ret) .skip)))
  (.reg [.op (some 15) (.mov (.s 5)),
     .op (some 16) (.bin .add (.s 15) (.k (.c TI (1 : Int)))),
     .op (some 5) (.mov (.s 16))])))
def l_eqInsS_L2 : List (Nat × Md) := [(0, .one .d), (1, .one .d), (5, .one .d)]
def l_eqInsS_y1 : TCode :=
  (.seq (.reg [.op (some 4) (.mov (.k (.c .bool true)))])
 .ret)
def l_eqInsS_c : TCode :=
  (.seq (.reg [.op (some 4) (.mov (.k (.c .bool false)))])
 (.seq (.seq (.reg [.op (some 6) (.mov (.s 0)),
      .op (some 7) (.len (.s 6)),
      .op (some 8) (.mov (.s 1)),
      .op (some 9) (.len (.s 8)),
      .op (some 10) (.bin .neq (.s 7) (.s 9))])
   (.cond (.s 10) (.seq (.reg [.op (some 4) (.mov (.k (.c .bool false)))])
     .ret) .skip))
  (.seq (.seq (.reg [.op (some 5) (.mov (.k (.c TI (0 : Int))))])
    (.block 0 (.loop l_eqInsS_L2 l_eqInsS_b2)))
   l_eqInsS_y1)))
def l_eqInsS_rs : List (ARv × Md) := [(.t 4, .one .d)]
theorem l_eqInsS_st : compF Try.prog 19 = some (l_eqInsS_c.er, l_eqInsS_rs.map Prod.fst, 27) := by kernel_rfl
def l_eqInsS_Q (K : TRes → Prop) : TPost := TQ 0 0 l_eqInsS_rs K
def l_eqInsS_q1 (K : TRes → Prop) : TPost := Qseq (tawp l_eqInsS_G 0 l_eqInsS_y1 (l_eqInsS_Q K)) (l_eqInsS_Q K)
def l_eqInsS_q2 (K : TRes → Prop) : TPost := Qblk 0 (l_eqInsS_q1 K)
def l_eqInsS_A2 (K : TRes → Prop) (a : List TIns) (b : List TIns) (i : Int) : Prop := Loop l_eqInsS_G 0 l_eqInsS_L2 l_eqInsS_b2 (l_eqInsS_q2 K) ⟨[(0, (.c (.sl ctIns) a)), (1, (.c (.sl ctIns) b)), (5, (.c TI i))], [], 0⟩
theorem l_eqInsS_v2 (K : TRes → Prop) (a : List TIns) (b : List TIns) (i : Int) (h :
  (((decide (i < (a.length : Int))) = true → ((((0 : Int) ≤ i ∧ Int.toNat i < a.length) ∧ ((0 : Int) ≤ i ∧ Int.toNat i < b.length)) ∧ (((!(m_eq (α := TIns) (gtd dIns a (Int.toNat i)) (gtd dIns b (Int.toNat i)))) = true → K (l_eqInsS_R false)) ∧ ((!(m_eq (α := TIns) (gtd dIns a (Int.toNat i)) (gtd dIns b (Int.toNat i)))) = false → (l_eqInsS_A2 K a b (w64 (i + (1 : Int)))))))) ∧ ((decide (i < (a.length : Int))) = false → K (l_eqInsS_R true)))) : l_eqInsS_A2 K a b i :=
  Loop.of (by kernel_rfl) h
theorem l_eqInsS_v0 (K : TRes → Prop) (a : List TIns) (b : List TIns) (h :
  ((((a.length : Int) != (b.length : Int)) = true → K (l_eqInsS_R false)) ∧ (((a.length : Int) != (b.length : Int)) = false → (l_eqInsS_A2 K a b (0 : Int))))) : Hold (tawp l_eqInsS_G (0 + 0) l_eqInsS_c (TQ 0 0 l_eqInsS_rs K) (tstart [(.c (.sl ctIns) a), (.c (.sl ctIns) b)])) :=
  Hold.of (by kernel_rfl) h
theorem l_eqInsS_t (a : List TIns) (b : List TIns) (r : TRes) (h : Hold (tawp l_eqInsS_G (0 + 0) l_eqInsS_c (TQ 0 0 l_eqInsS_rs fun r' => r' = r) (tstart [(.c (.sl ctIns) a), (.c (.sl ctIns) b)]))) : TCon Try.prog 19 [(.c (.sl ctIns) a), (.c (.sl ctIns) b)] r :=
  tcon_gen (sg := [(.c (.sl ctIns)), (.c (.sl ctIns))]) mixed (TOk.cons l_eqIns_ok TOk.nil) l_eqInsS_st (by kernel_rfl) (by kernel_rfl) (by kernel_rfl) (by kernel_rfl) h
theorem l_eqInsS_h : l_eqInsS_C := by
  intro a b
  refine tcon_bd rfl fun hb => l_eqInsS_t a b _ (l_eqInsS_v0 _ a b ?_)
  exact eqLoopG dIns (E := m_eq) (fun _ _ => rfl) hb.1.1 (fun i h => l_eqInsS_v2 _ a b i h) (Q := fun x => l_eqInsS_R x = l_eqInsS_R (m_eq (α := List TIns) a b)) rfl

theorem l_eqInsS_ok : TRowOk Try.prog l_eqInsS_row := rowOk fun x _ => l_eqInsS_h x.1 x.2.1

def l_eqSaved_R (t : Bool) : TRes := ⟨(.c .bool t), [], [], false, []⟩
def l_eqSaved_row : TRow := mkRow 195 [(.a ctSaved), (.a ctSaved)] fun x => (none, l_eqSaved_R (m_eq (α := TSaved) x.1 x.2.1))
def l_eqSaved_C : Prop := ∀ (x0 : TSaved) (x1 : TSaved), TCon Try.prog 195 [(.a [(.c TI x0.1), (.c (.sl [(.sl [TI])]) x0.2)]), (.a [(.c TI x1.1), (.c (.sl [(.sl [TI])]) x1.2)])] (l_eqSaved_R (m_eq (α := TSaved) x0 x1))

/-! laws.eqSaved -/
def l_eqSaved_G : List TRow := [l_eqRowS_row]
def l_eqSaved_c : TCode :=
  (.seq (.reg [.op (some 2) (.box 218 (.s 0) 2),
    .op (some 3) (.box 218 (.s 1) 2),
    .op (some 4) (.mov (.k (.c .bool false)))])
 (.seq (.seq (.reg [.op (some 5) (.fad (.s 2) 0),
      .op (some 6) (.load (.s 5) 1 false),
      .op (some 7) (.fad (.s 3) 0),
      .op (some 8) (.load (.s 7) 1 false),
      .op (some 9) (.bin .neq (.s 6) (.s 8))])
   (.cond (.s 9) (.seq (.reg [.op (some 4) (.mov (.k (.c .bool false)))])
     .ret) .skip))
  (.seq (.seq (.reg [.op (some 10) (.fad (.s 2) 1),
       .op (some 11) (.load (.s 10) 1 false),
       .op (some 12) (.fad (.s 3) 1),
       .op (some 13) (.load (.s 12) 1 false),
       .op (some 14) (.call 158 [(.s 11), (.s 13)]),
       .op (some 15) (.not (.s 14))])
    (.cond (.s 15) (.seq (.reg [.op (some 4) (.mov (.k (.c .bool false)))])
      .ret) .skip))
   (.seq (.reg [.op (some 4) (.mov (.k (.c .bool true)))])
    .ret))))
def l_eqSaved_rs : List (ARv × Md) := [(.t 4, .one .d)]
theorem l_eqSaved_st : compF Try.prog 195 = some (l_eqSaved_c.er, l_eqSaved_rs.map Prod.fst, 16) := by kernel_rfl
def l_eqSaved_Q (K : TRes → Prop) : TPost := TQ 0 0 l_eqSaved_rs K
theorem l_eqSaved_v0 (K : TRes → Prop) (a : TSaved) (b : TSaved) (h :
  (((a.1 != b.1) = true → K (l_eqSaved_R false)) ∧ ((a.1 != b.1) = false → (((!(m_eq (α := List (List Int)) a.2 b.2)) = true → K (l_eqSaved_R false)) ∧ ((!(m_eq (α := List (List Int)) a.2 b.2)) = false → K (l_eqSaved_R true)))))) : Hold (tawp l_eqSaved_G (0 + 0) l_eqSaved_c (TQ 0 0 l_eqSaved_rs K) (tstart [(.a [(.c TI a.1), (.c (.sl [(.sl [TI])]) a.2)]), (.a [(.c TI b.1), (.c (.sl [(.sl [TI])]) b.2)])])) :=
  Hold.of (by kernel_rfl) h
theorem l_eqSaved_t (a : TSaved) (b : TSaved) (r : TRes) (h : Hold (tawp l_eqSaved_G (0 + 0) l_eqSaved_c (TQ 0 0 l_eqSaved_rs fun r' => r' = r) (tstart [(.a [(.c TI a.1), (.c (.sl [(.sl [TI])]) a.2)]), (.a [(.c TI b.1), (.c (.sl [(.sl [TI])]) b.2)])]))) : TCon Try.prog 195 [(.a [(.c TI a.1), (.c (.sl [(.sl [TI])]) a.2)]), (.a [(.c TI b.1), (.c (.sl [(.sl [TI])]) b.2)])] r :=
  tcon_gen (sg := [(.a ctSaved), (.a ctSaved)]) mixed (TOk.cons l_eqRowS_ok TOk.nil) l_eqSaved_st (by kernel_rfl) (by kernel_rfl) (by kernel_rfl) (by kernel_rfl) h
theorem l_eqSaved_h : l_eqSaved_C := by
  intro a b
  refine tcon_bd rfl fun hb => l_eqSaved_t a b _ (l_eqSaved_v0 _ a b ?_)
  refine ⟨fun h => R_eq (Eq.symm (decide_eq_false (by rintro rfl; simp [m_eq] at h))), fun h0 => ?_⟩
  refine ⟨fun h => R_eq (Eq.symm (decide_eq_false (by rintro rfl; simp [m_eq] at h))), fun h1 => ?_⟩
  refine R_eq (Eq.symm (decide_eq_true ?_))
  simp [m_eq] at h0 h1
  simp [Prod.ext_iff, *]

theorem l_eqSaved_ok : TRowOk Try.prog l_eqSaved_row := rowOk fun x _ => l_eqSaved_h x.1 x.2.1

def l_eqSavedS_R (t : Bool) : TRes := ⟨(.c .bool t), [], [], false, []⟩
def l_eqSavedS_row : TRow := mkRow 157 [(.c (.sl ctSaved)), (.c (.sl ctSaved))] fun x => (none, l_eqSavedS_R (m_eq (α := List TSaved) x.1 x.2.1))
def l_eqSavedS_C : Prop := ∀ (x0 : List TSaved) (x1 : List TSaved), TCon Try.prog 157 [(.c (.sl ctSaved) x0), (.c (.sl ctSaved) x1)] (l_eqSavedS_R (m_eq (α := List TSaved) x0 x1))

/-! laws.eqSavedS -/
def l_eqSavedS_G : List TRow := [l_eqSaved_row]
def l_eqSavedS_b2 : TCode :=
  (.seq (.seq (.reg [.op (some 11) (.mov (.s 5)),
     .op (some 12) (.mov (.s 0)),
     .op (some 13) (.len (.s 12)),
     .op (some 14) (.bin .lss (.s 11) (.s 13))])
  (.cond (.s 14) .skip (.exit 0)))
 (.seq (.block 1 (.seq (.draw [.op (some 17) (.mov (.s 0)),
       .op (some 18) (.mov (.s 5)),
       .op (some 19) (.iad (.s 17) (.s 18) ctSaved),
       .op (some 20) (.load (.s 19) 2 true),
       .op (some 21) (.mov (.s 1)),
       .op (some 22) (.mov (.s 5)),
       .op (some 23) (.iad (.s 21) (.s 22) ctSaved),
       .op (some 24) (.load (.s 23) 2 true),
       .op (some 25) (.call 195 [(.s 20), (.s 24)]),
       .op (some 26) (.not (.s 25))] [])
    (.cond (.s 26) (.seq (.reg [.op (some 4) (.mov (.k (.c .bool false)))])
      .ret) .skip)))
  (.reg [.op (some 15) (.mov (.s 5)),
     .op (some 16) (.bin .add (.s 15) (.k (.c TI (1 : Int)))),
     .op (some 5) (.mov (.s 16))])))
def l_eqSavedS_L2 : List (Nat × Md) := [(0, .one .d), (1, .one .d), (5, .one .d)]
def l_eqSavedS_y1 : TCode :=
  (.seq (.reg [.op (some 4) (.mov (.k (.c .bool true)))])
 .ret)
def l_eqSavedS_c : TCode :=
  (.seq (.reg [.op (some 4) (.mov (.k (.c .bool false)))])
 (.seq (.seq (.reg [.op (some 6) (.mov (.s 0)),
      .op (some 7) (.len (.s 6)),
      .op (some 8) (.mov (.s 1)),
      .op (some 9) (.len (.s 8)),
      .op (some 10) (.bin .neq (.s 7) (.s 9))])
   (.cond (.s 10) (.seq (.reg [.op (some 4) (.mov (.k (.c .bool false)))])
     .ret) .skip))
  (.seq (.seq (.reg [.op (some 5) (.mov (.k (.c TI (0 : Int))))])
    (.block 0 (.loop l_eqSavedS_L2 l_eqSavedS_b2)))
   l_eqSavedS_y1)))
def l_eqSavedS_rs : List (ARv × Md) := [(.t 4, .one .d)]
theorem l_eqSavedS_st : compF Try.prog 157 = some (l_eqSavedS_c.er, l_eqSavedS_rs.map Prod.fst, 27) := by kernel_rfl
def l_eqSavedS_Q (K : TRes → Prop) : TPost := TQ 0 0 l_eqSavedS_rs K
def l_eqSavedS_q1 (K : TRes → Prop) : TPost := Qseq (tawp l_eqSavedS_G 0 l_eqSavedS_y1 (l_eqSavedS_Q K)) (l_eqSavedS_Q K)
def l_eqSavedS_q2 (K : TRes → Prop) : TPost := Qblk 0 (l_eqSavedS_q1 K)
def l_eqSavedS_A2 (K : TRes → Prop) (a : List TSaved) (b : List TSaved) (i : Int) : Prop := Loop l_eqSavedS_G 0 l_eqSavedS_L2 l_eqSavedS_b2 (l_eqSavedS_q2 K) ⟨[(0, (.c (.sl ctSaved) a)), (1, (.c (.sl ctSaved) b)), (5, (.c TI i))], [], 0⟩
theorem l_eqSavedS_v2 (K : TRes → Prop) (a : List TSaved) (b : List TSaved) (i : Int) (h :
  (((decide (i < (a.length : Int))) = true → ((((0 : Int) ≤ i ∧ Int.toNat i < a.length) ∧ ((0 : Int) ≤ i ∧ Int.toNat i < b.length)) ∧ (((!(m_eq (α := TSaved) (gtd dSaved a (Int.toNat i)) (gtd dSaved b (Int.toNat i)))) = true → K (l_eqSavedS_R false)) ∧ ((!(m_eq (α := TSaved) (gtd dSaved a (Int.toNat i)) (gtd dSaved b (Int.toNat i)))) = false → (l_eqSavedS_A2 K a b (w64 (i + (1 : Int)))))))) ∧ ((decide (i < (a.length : Int))) = false → K (l_eqSavedS_R true)))) : l_eqSavedS_A2 K a b i :=
  Loop.of (by kernel_rfl) h
theorem l_eqSavedS_v0 (K : TRes → Prop) (a : List TSaved) (b : List TSaved) (h :
  ((((a.length : Int) != (b.length : Int)) = true → K (l_eqSavedS_R false)) ∧ (((a.length : Int) != (b.length : Int)) = false → (l_eqSavedS_A2 K a b (0 : Int))))) : Hold (tawp l_eqSavedS_G (0 + 0) l_eqSavedS_c (TQ 0 0 l_eqSavedS_rs K) (tstart [(.c (.sl ctSaved) a), (.c (.sl ctSaved) b)])) :=
  Hold.of (by kernel_rfl) h
theorem l_eqSavedS_t (a : List TSaved) (b : List TSaved) (r : TRes) (h : Hold (tawp l_eqSavedS_G (0 + 0) l_eqSavedS_c (TQ 0 0 l_eqSavedS_rs fun r' => r' = r) (tstart [(.c (.sl ctSaved) a), (.c (.sl ctSaved) b)]))) : TCon Try.prog 157 [(.c (.sl ctSaved) a), (.c (.sl ctSaved) b)] r :=
  tcon_gen (sg := [(.c (.sl ctSaved)), (.c (.sl ctSaved))]) mixed (TOk.cons l_eqSaved_ok TOk.nil) l_eqSavedS_st (by kernel_rfl) (by kernel_rfl) (by kernel_rfl) (by kernel_rfl) h
theorem l_eqSavedS_h : l_eqSavedS_C := by
  intro a b
  refine tcon_bd rfl fun hb => l_eqSavedS_t a b _ (l_eqSavedS_v0 _ a b ?_)
  exact eqLoopG dSaved (E := m_eq) (fun _ _ => rfl) hb.1.1 (fun i h => l_eqSavedS_v2 _ a b i h) (Q := fun x => l_eqSavedS_R x = l_eqSavedS_R (m_eq (α := List TSaved) a b)) rfl

theorem l_eqSavedS_ok : TRowOk Try.prog l_eqSavedS_row := rowOk fun x _ => l_eqSavedS_h x.1 x.2.1

end
end Go.Proofs.Ytephkbajoofeoaa.Am
