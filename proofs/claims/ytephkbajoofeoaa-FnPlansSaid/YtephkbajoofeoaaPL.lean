/-
  Written by program: the code of functions, what it asks, and that it comes to what the models say.
-/
import Derived.Test.YtephkbajoofeoaaPE
import Derived.Test.YtephkbajoofeoaaP1
import Derived.Test.YtephkbajoofeoaaM6
namespace Go.Proofs.Ytephkbajoofeoaa.Am
open Go Go.RowKit Go.Proofs.Ytephkbajoofeoaa
set_option linter.unusedVariables false
set_option linter.unusedSimpArgs false
noncomputable section

def i_ahead_R (t : (List TIns)) : TRes := ⟨(.r ctIns 0 0 t.length), [(.sl 151 ctIns true t)], [], true, []⟩
def i_ahead_row : TRow := mkRow 107 [(.c TI), (.c TI), (.c TI)] fun x => (some (p_st x.1 x.2.1 x.2.2.1), i_ahead_R (m_ahead x.1 x.2.1 x.2.2.1))
def i_ahead_C : Prop := ∀ (x0 : Int) (x1 : Int) (x2 : Int), (p_st x0 x1 x2) → TCon Try.prog 107 [(.c TI x0), (.c TI x1), (.c TI x2)] (i_ahead_R (m_ahead x0 x1 x2))

/-! impl.ahead -/
def i_ahead_G : List TRow := []
def i_ahead_y1 : TCode :=
  (.seq (.reg [.op (some 16) (.mov (.s 7)),
    .op (some 17) (.mov (.s 2)),
    .op (some 18) (.build [(.c TI (0 : Int)), (.c TI (0 : Int))] [(0, 1, (.k (.c TI (2 : Int)))), (1, 1, (.s 17))]),
    .op (some 19) (.bsl 151 ctIns [(.s 18)]),
    .op (some 20) (.app (.s 16) (.s 19) 151 ctIns),
    .op (some 7) (.mov (.s 20))])
 (.seq (.seq (.reg [.op (some 21) (.mov (.s 1)),
      .op (some 22) (.mov (.s 0)),
      .op (some 23) (.bin .sub (.s 22) (.k (.c TI (1 : Int)))),
      .op (some 24) (.bin .lss (.s 21) (.s 23))])
   (.cond (.s 24) (.reg [.op (some 25) (.mov (.s 7)),
       .op (some 26) (.mov (.s 2)),
       .op (some 27) (.build [(.c TI (0 : Int)), (.c TI (0 : Int))] [(0, 1, (.k (.c TI (3 : Int)))), (1, 1, (.s 26))]),
       .op (some 28) (.bsl 151 ctIns [(.s 27)]),
       .op (some 29) (.app (.s 25) (.s 28) 151 ctIns),
       .op (some 7) (.mov (.s 29))]) .skip))
  (.seq (.reg [.op (some 30) (.mov (.s 7)),
      .op (some 6) (.mov (.s 30))])
   .ret)))
def i_ahead_L1 : List (Nat × Md) := [(0, .one .d), (1, .one .d), (2, .one .d), (7, .one .f)]
def i_ahead_y1w : TCode := .wk i_ahead_L1 i_ahead_y1
def i_ahead_c : TCode :=
  (.seq (.reg [.op (some 6) (.mov (.k (.n ctIns)))])
 (.seq (.reg [.op (some 8) (.bsl 151 ctIns []),
     .op (some 7) (.mov (.s 8))])
  (.seq (.seq (.reg [.op (some 9) (.mov (.s 1)),
       .op (some 10) (.bin .gtr (.s 9) (.k (.c TI (0 : Int))))])
    (.cond (.s 10) (.reg [.op (some 11) (.mov (.s 7)),
        .op (some 12) (.mov (.s 2)),
        .op (some 13) (.build [(.c TI (0 : Int)), (.c TI (0 : Int))] [(0, 1, (.k (.c TI (1 : Int)))), (1, 1, (.s 12))]),
        .op (some 14) (.bsl 151 ctIns [(.s 13)]),
        .op (some 15) (.app (.s 11) (.s 14) 151 ctIns),
        .op (some 7) (.mov (.s 15))]) .skip))
   i_ahead_y1w)))
def i_ahead_rs : List (ARv × Md) := [(.t 6, .one (.o 151))]
theorem i_ahead_st : compF Try.prog 107 = some (i_ahead_c.er, i_ahead_rs.map Prod.fst, 31) := by kernel_rfl
def i_ahead_Q (K : TRes → Prop) : TPost := TQ 0 0 i_ahead_rs K
def i_ahead_A1 (K : TRes → Prop) (stages : Int) (s : Int) (m : Int) (l : List TIns) : Prop := tawp i_ahead_G 0 i_ahead_y1 (i_ahead_Q K) ⟨[(0, (.c TI stages)), (1, (.c TI s)), (2, (.c TI m)), (7, (.r ctIns 0 0 l.length))], [(0, (.sl 151 ctIns true l))], 1⟩
theorem i_ahead_v1 (K : TRes → Prop) (stages : Int) (s : Int) (m : Int) (l : List TIns) (h :
  (((l.length = l.length ∨ l.length + 1 ≤ l.length) ∧ l.length + 1 ≤ big) ∧ (((decide (s < (w64 (stages - (1 : Int))))) = true → ((((l.length + 1) = ((List.take l.length l) ++ ([((2 : Int), m)])).length ∨ (l.length + 1) + 1 ≤ ((List.take l.length l) ++ ([((2 : Int), m)])).length) ∧ (l.length + 1) + 1 ≤ big) ∧ K (i_ahead_R (List.take ((l.length + 1) + 1) ((List.take (l.length + 1) ((List.take l.length l) ++ ([((2 : Int), m)]))) ++ ([((3 : Int), m)])))))) ∧ ((decide (s < (w64 (stages - (1 : Int))))) = false → K (i_ahead_R (List.take (l.length + 1) ((List.take l.length l) ++ ([((2 : Int), m)])))))))) : Hold (i_ahead_A1 K stages s m l) :=
  Hold.of (by kernel_rfl) h
theorem i_ahead_v0 (K : TRes → Prop) (stages : Int) (s : Int) (m : Int) (h :
  (((decide (s > (0 : Int))) = true → (((0 = 0 ∨ 0 + 1 ≤ 0) ∧ 0 + 1 ≤ big) ∧ (i_ahead_A1 K stages s m (List.take (0 + 1) ([((1 : Int), m)] : List TIns))))) ∧ ((decide (s > (0 : Int))) = false → (i_ahead_A1 K stages s m ([] : List TIns))))) : Hold (tawp i_ahead_G (0 + 0) i_ahead_c (TQ 0 0 i_ahead_rs K) (tstart [(.c TI stages), (.c TI s), (.c TI m)])) :=
  Hold.of (by kernel_rfl) h
theorem i_ahead_t (stages : Int) (s : Int) (m : Int) (r : TRes) (h : Hold (tawp i_ahead_G (0 + 0) i_ahead_c (TQ 0 0 i_ahead_rs fun r' => r' = r) (tstart [(.c TI stages), (.c TI s), (.c TI m)]))) : TCon Try.prog 107 [(.c TI stages), (.c TI s), (.c TI m)] r :=
  tcon_gen (sg := [(.c TI), (.c TI), (.c TI)]) mixed TOk.nil i_ahead_st (by kernel_rfl) (by kernel_rfl) (by kernel_rfl) (by kernel_rfl) h
theorem i_ahead_h : i_ahead_C := by
  intro stages s m hp
  refine tcon_bd rfl fun hb => i_ahead_t stages s m _ (i_ahead_v0 _ stages s m ?_)
  obtain ⟨h1, h2⟩ := hp
  have hw : w64 (stages - 1) = stages - 1 := w64_ok (by omega) (by omega)
  have key : ∀ l : List TIns, l.length ≤ 1 → l ++ [(2, m)] ++ (if s < stages - 1 then [(3, m)] else []) = (m_ahead stages s m) → i_ahead_A1 (fun r' => r' = i_ahead_R (m_ahead stages s m)) stages s m l := by
    intro l hl he
    refine (i_ahead_v1 (fun r' => r' = i_ahead_R (m_ahead stages s m)) stages s m l ?_).h
    rw [hw, ← he]
    simp only [take_app1]
    refine ⟨⟨by simp, by rw [big_eq]; omega⟩, fun h => ⟨⟨.inl (by simp), by rw [big_eq]; omega⟩, R_eq ?_⟩, fun h => R_eq ?_⟩
    · simp at h; simp [h, List.take_of_length_le]
    · simp at h; simp [Int.not_lt.2 h]
  refine ⟨fun h => ⟨⟨.inl rfl, by rw [big_eq]; omega⟩, key _ (by simp) ?_⟩, fun h => key _ (by simp) ?_⟩
  · simp at h; simp [m_ahead, h]
  · simp at h; simp [m_ahead, Int.not_lt.2 h]

theorem i_ahead_ok : TRowOk Try.prog i_ahead_row := rowOk fun x h => i_ahead_h x.1 x.2.1 x.2.2.1 h

def i_backOf_R (t : (List TIns)) : TRes := ⟨(.r ctIns 0 0 t.length), [(.sl 151 ctIns true t)], [], true, []⟩
def i_backOf_row : TRow := mkRow 108 [(.c TI), (.c TI), (.c TI), (.c .bool)] fun x => (some (p_st4 x.1 x.2.1 x.2.2.1 x.2.2.2.1), i_backOf_R (m_backOf x.1 x.2.1 x.2.2.1 x.2.2.2.1))
def i_backOf_C : Prop := ∀ (x0 : Int) (x1 : Int) (x2 : Int) (x3 : Bool), (p_st4 x0 x1 x2 x3) → TCon Try.prog 108 [(.c TI x0), (.c TI x1), (.c TI x2), (.c .bool x3)] (i_backOf_R (m_backOf x0 x1 x2 x3))

/-! impl.backOf -/
def i_backOf_G : List TRow := []
def i_backOf_y2 : TCode :=
  (.seq (.reg [.op (some 26) (.mov (.s 9)),
    .op (some 27) (.mov (.s 2)),
    .op (some 28) (.build [(.c TI (0 : Int)), (.c TI (0 : Int))] [(0, 1, (.k (.c TI (6 : Int)))), (1, 1, (.s 27))]),
    .op (some 29) (.bsl 151 ctIns [(.s 28)]),
    .op (some 30) (.app (.s 26) (.s 29) 151 ctIns),
    .op (some 9) (.mov (.s 30))])
 (.seq (.seq (.reg [.op (some 31) (.mov (.s 1)),
      .op (some 32) (.bin .gtr (.s 31) (.k (.c TI (0 : Int))))])
   (.cond (.s 32) (.reg [.op (some 33) (.mov (.s 9)),
       .op (some 34) (.mov (.s 2)),
       .op (some 35) (.build [(.c TI (0 : Int)), (.c TI (0 : Int))] [(0, 1, (.k (.c TI (7 : Int)))), (1, 1, (.s 34))]),
       .op (some 36) (.bsl 151 ctIns [(.s 35)]),
       .op (some 37) (.app (.s 33) (.s 36) 151 ctIns),
       .op (some 9) (.mov (.s 37))]) .skip))
  (.seq (.reg [.op (some 38) (.mov (.s 9)),
      .op (some 8) (.mov (.s 38))])
   .ret)))
def i_backOf_L2 : List (Nat × Md) := [(1, .one .d), (2, .one .d), (9, .one .f)]
def i_backOf_y2w : TCode := .wk i_backOf_L2 i_backOf_y2
def i_backOf_y1 : TCode :=
  (.seq (.seq (.reg [.op (some 20) (.mov (.s 3))])
  (.cond (.s 20) (.reg [.op (some 21) (.mov (.s 9)),
      .op (some 22) (.mov (.s 2)),
      .op (some 23) (.build [(.c TI (0 : Int)), (.c TI (0 : Int))] [(0, 1, (.k (.c TI (5 : Int)))), (1, 1, (.s 22))]),
      .op (some 24) (.bsl 151 ctIns [(.s 23)]),
      .op (some 25) (.app (.s 21) (.s 24) 151 ctIns),
      .op (some 9) (.mov (.s 25))]) .skip))
 i_backOf_y2w)
def i_backOf_L1 : List (Nat × Md) := [(1, .one .d), (2, .one .d), (3, .one .d), (9, .one .f)]
def i_backOf_y1w : TCode := .wk i_backOf_L1 i_backOf_y1
def i_backOf_c : TCode :=
  (.seq (.reg [.op (some 8) (.mov (.k (.n ctIns)))])
 (.seq (.reg [.op (some 10) (.bsl 151 ctIns []),
     .op (some 9) (.mov (.s 10))])
  (.seq (.seq (.reg [.op (some 11) (.mov (.s 1)),
       .op (some 12) (.mov (.s 0)),
       .op (some 13) (.bin .sub (.s 12) (.k (.c TI (1 : Int)))),
       .op (some 14) (.bin .lss (.s 11) (.s 13))])
    (.cond (.s 14) (.reg [.op (some 15) (.mov (.s 9)),
        .op (some 16) (.mov (.s 2)),
        .op (some 17) (.build [(.c TI (0 : Int)), (.c TI (0 : Int))] [(0, 1, (.k (.c TI (4 : Int)))), (1, 1, (.s 16))]),
        .op (some 18) (.bsl 151 ctIns [(.s 17)]),
        .op (some 19) (.app (.s 15) (.s 18) 151 ctIns),
        .op (some 9) (.mov (.s 19))]) .skip))
   i_backOf_y1w)))
def i_backOf_rs : List (ARv × Md) := [(.t 8, .one (.o 151))]
theorem i_backOf_st : compF Try.prog 108 = some (i_backOf_c.er, i_backOf_rs.map Prod.fst, 39) := by kernel_rfl
def i_backOf_Q (K : TRes → Prop) : TPost := TQ 0 0 i_backOf_rs K
def i_backOf_A2 (K : TRes → Prop) (s : Int) (m : Int) (l1 : List TIns) : Prop := tawp i_backOf_G 0 i_backOf_y2 (i_backOf_Q K) ⟨[(1, (.c TI s)), (2, (.c TI m)), (9, (.r ctIns 0 0 l1.length))], [(0, (.sl 151 ctIns true l1))], 1⟩
def i_backOf_A1 (K : TRes → Prop) (s : Int) (m : Int) (redo : Bool) (l : List TIns) : Prop := tawp i_backOf_G 0 i_backOf_y1 (i_backOf_Q K) ⟨[(1, (.c TI s)), (2, (.c TI m)), (3, (.c .bool redo)), (9, (.r ctIns 0 0 l.length))], [(0, (.sl 151 ctIns true l))], 1⟩
theorem i_backOf_v2 (K : TRes → Prop) (s : Int) (m : Int) (l1 : List TIns) (h :
  (((l1.length = l1.length ∨ l1.length + 1 ≤ l1.length) ∧ l1.length + 1 ≤ big) ∧ (((decide (s > (0 : Int))) = true → ((((l1.length + 1) = ((List.take l1.length l1) ++ ([((6 : Int), m)])).length ∨ (l1.length + 1) + 1 ≤ ((List.take l1.length l1) ++ ([((6 : Int), m)])).length) ∧ (l1.length + 1) + 1 ≤ big) ∧ K (i_backOf_R (List.take ((l1.length + 1) + 1) ((List.take (l1.length + 1) ((List.take l1.length l1) ++ ([((6 : Int), m)]))) ++ ([((7 : Int), m)])))))) ∧ ((decide (s > (0 : Int))) = false → K (i_backOf_R (List.take (l1.length + 1) ((List.take l1.length l1) ++ ([((6 : Int), m)])))))))) : Hold (i_backOf_A2 K s m l1) :=
  Hold.of (by kernel_rfl) h
theorem i_backOf_v1 (K : TRes → Prop) (s : Int) (m : Int) (redo : Bool) (l : List TIns) (h :
  ((redo = true → (((l.length = l.length ∨ l.length + 1 ≤ l.length) ∧ l.length + 1 ≤ big) ∧ (i_backOf_A2 K s m (List.take (l.length + 1) ((List.take l.length l) ++ ([((5 : Int), m)])))))) ∧ (redo = false → (i_backOf_A2 K s m (List.take l.length l))))) : Hold (i_backOf_A1 K s m redo l) :=
  Hold.of (by kernel_rfl) h
theorem i_backOf_v0 (K : TRes → Prop) (stages : Int) (s : Int) (m : Int) (redo : Bool) (h :
  (((decide (s < (w64 (stages - (1 : Int))))) = true → (((0 = 0 ∨ 0 + 1 ≤ 0) ∧ 0 + 1 ≤ big) ∧ (i_backOf_A1 K s m redo (List.take (0 + 1) ([((4 : Int), m)] : List TIns))))) ∧ ((decide (s < (w64 (stages - (1 : Int))))) = false → (i_backOf_A1 K s m redo ([] : List TIns))))) : Hold (tawp i_backOf_G (0 + 0) i_backOf_c (TQ 0 0 i_backOf_rs K) (tstart [(.c TI stages), (.c TI s), (.c TI m), (.c .bool redo)])) :=
  Hold.of (by kernel_rfl) h
theorem i_backOf_t (stages : Int) (s : Int) (m : Int) (redo : Bool) (r : TRes) (h : Hold (tawp i_backOf_G (0 + 0) i_backOf_c (TQ 0 0 i_backOf_rs fun r' => r' = r) (tstart [(.c TI stages), (.c TI s), (.c TI m), (.c .bool redo)]))) : TCon Try.prog 108 [(.c TI stages), (.c TI s), (.c TI m), (.c .bool redo)] r :=
  tcon_gen (sg := [(.c TI), (.c TI), (.c TI), (.c .bool)]) mixed TOk.nil i_backOf_st (by kernel_rfl) (by kernel_rfl) (by kernel_rfl) (by kernel_rfl) h
theorem i_backOf_h : i_backOf_C := by
  intro stages s m redo hp
  refine tcon_bd rfl fun hb => i_backOf_t stages s m redo _ (i_backOf_v0 _ stages s m redo ?_)
  obtain ⟨h1, h2⟩ := hp
  have hw : w64 (stages - 1) = stages - 1 := w64_ok (by omega) (by omega)
  have key2 : ∀ l : List TIns, l.length ≤ 2 → l ++ [(6, m)] ++ (if 0 < s then [(7, m)] else []) = (m_backOf stages s m redo) → i_backOf_A2 (fun r' => r' = i_backOf_R (m_backOf stages s m redo)) s m l := by
    intro l hl he
    refine (i_backOf_v2 (fun r' => r' = i_backOf_R (m_backOf stages s m redo)) s m l ?_).h
    rw [← he]
    simp only [take_app1]
    refine ⟨⟨by simp, by rw [big_eq]; omega⟩, fun h => ⟨⟨.inl (by simp), by rw [big_eq]; omega⟩, R_eq ?_⟩, fun h => R_eq ?_⟩
    · simp at h; simp [h, List.take_of_length_le]
    · simp at h; simp [Int.not_lt.2 h]
  have key : ∀ l : List TIns, l.length ≤ 1 → l ++ (if redo then [(5, m)] else []) ++ [(6, m)] ++ (if 0 < s then [(7, m)] else []) = (m_backOf stages s m redo) → i_backOf_A1 (fun r' => r' = i_backOf_R (m_backOf stages s m redo)) s m redo l := by
    intro l hl he
    refine (i_backOf_v1 (fun r' => r' = i_backOf_R (m_backOf stages s m redo)) s m redo l ⟨fun h => ⟨⟨.inl rfl, by rw [big_eq]; omega⟩, key2 _ (by simp; omega) ?_⟩, fun h => key2 _ (by simp; omega) ?_⟩).h
    · rw [← he, take_app1, h]; simp
    · rw [← he, List.take_length, h]; simp
  rw [hw]
  refine ⟨fun h => ⟨⟨.inl rfl, by rw [big_eq]; omega⟩, key _ (by simp) ?_⟩, fun h => key _ (by simp) ?_⟩
  · simp at h; simp [m_backOf, h]
  · simp at h; simp [m_backOf, Int.not_lt.2 h]

theorem i_backOf_ok : TRowOk Try.prog i_backOf_row := rowOk fun x h => i_backOf_h x.1 x.2.1 x.2.2.1 x.2.2.2.1 h

def s_l9Ahead_R (t : (List TIns)) : TRes := ⟨(.r ctIns 0 0 t.length), [(.sl 151 ctIns true t)], [], true, [.dead]⟩
def s_l9Ahead_row : TRow := mkRow 104 [(.o 151 ctIns), (.c TI), (.c TI), (.c TI)] fun x => (some (p_l9 x.1 x.2.1 x.2.2.1 x.2.2.2.1), s_l9Ahead_R (m_l9Ahead x.1 x.2.1 x.2.2.1 x.2.2.2.1))
def s_l9Ahead_C : Prop := ∀ (x0 : List TIns) (x1 : Int) (x2 : Int) (x3 : Int), (p_l9 x0 x1 x2 x3) → TCon Try.prog 104 [(.ow 151 ctIns x0), (.c TI x1), (.c TI x2), (.c TI x3)] (s_l9Ahead_R (m_l9Ahead x0 x1 x2 x3))

/-! spec.l9Ahead -/
def s_l9Ahead_G : List TRow := []
def s_l9Ahead_c : TCode :=
  (.seq (.reg [.op (some 8) (.mov (.k (.n ctIns)))])
 (.seq (.seq (.reg [.op (some 9) (.mov (.s 2)),
      .op (some 10) (.bin .gtr (.s 9) (.k (.c TI (0 : Int))))])
   (.cond (.s 10) (.reg [.op (some 11) (.mov (.s 0)),
       .op (some 12) (.mov (.s 3)),
       .op (some 13) (.build [(.c TI (0 : Int)), (.c TI (0 : Int))] [(0, 1, (.k (.c TI (1 : Int)))), (1, 1, (.s 12))]),
       .op (some 14) (.bsl 151 ctIns [(.s 13)]),
       .op (some 15) (.app (.s 11) (.s 14) 151 ctIns),
       .op (some 0) (.mov (.s 15))]) .skip))
  (.seq (.reg [.op (some 16) (.mov (.s 0)),
      .op (some 17) (.mov (.s 3)),
      .op (some 18) (.build [(.c TI (0 : Int)), (.c TI (0 : Int))] [(0, 1, (.k (.c TI (2 : Int)))), (1, 1, (.s 17))]),
      .op (some 19) (.bsl 151 ctIns [(.s 18)]),
      .op (some 20) (.app (.s 16) (.s 19) 151 ctIns),
      .op (some 0) (.mov (.s 20))])
   (.seq (.seq (.reg [.op (some 21) (.mov (.s 2)),
        .op (some 22) (.mov (.s 1)),
        .op (some 23) (.bin .sub (.s 22) (.k (.c TI (1 : Int)))),
        .op (some 24) (.bin .lss (.s 21) (.s 23))])
     (.cond (.s 24) (.reg [.op (some 25) (.mov (.s 0)),
         .op (some 26) (.mov (.s 3)),
         .op (some 27) (.build [(.c TI (0 : Int)), (.c TI (0 : Int))] [(0, 1, (.k (.c TI (3 : Int)))), (1, 1, (.s 26))]),
         .op (some 28) (.bsl 151 ctIns [(.s 27)]),
         .op (some 29) (.app (.s 25) (.s 28) 151 ctIns),
         .op (some 0) (.mov (.s 29))]) .skip))
    (.seq (.reg [.op (some 30) (.mov (.s 0)),
        .op (some 8) (.mov (.s 30))])
     .ret)))))
def s_l9Ahead_rs : List (ARv × Md) := [(.t 8, .one (.o 151))]
theorem s_l9Ahead_st : compF Try.prog 104 = some (s_l9Ahead_c.er, s_l9Ahead_rs.map Prod.fst, 31) := by kernel_rfl
def s_l9Ahead_Q (K : TRes → Prop) : TPost := TQ 0 1 s_l9Ahead_rs K
theorem s_l9Ahead_v0 (K : TRes → Prop) (l : List TIns) (stages : Int) (s : Int) (m : Int) (h :
  (((decide (s > (0 : Int))) = true → (((l.length = l.length ∨ l.length + 1 ≤ l.length) ∧ l.length + 1 ≤ big) ∧ ((((l.length + 1) = ((List.take l.length l) ++ ([((1 : Int), m)])).length ∨ (l.length + 1) + 1 ≤ ((List.take l.length l) ++ ([((1 : Int), m)])).length) ∧ (l.length + 1) + 1 ≤ big) ∧ (((decide (s < (w64 (stages - (1 : Int))))) = true → (((((l.length + 1) + 1) = ((List.take (l.length + 1) ((List.take l.length l) ++ ([((1 : Int), m)]))) ++ ([((2 : Int), m)])).length ∨ ((l.length + 1) + 1) + 1 ≤ ((List.take (l.length + 1) ((List.take l.length l) ++ ([((1 : Int), m)]))) ++ ([((2 : Int), m)])).length) ∧ ((l.length + 1) + 1) + 1 ≤ big) ∧ K (s_l9Ahead_R (List.take (((l.length + 1) + 1) + 1) ((List.take ((l.length + 1) + 1) ((List.take (l.length + 1) ((List.take l.length l) ++ ([((1 : Int), m)]))) ++ ([((2 : Int), m)]))) ++ ([((3 : Int), m)])))))) ∧ ((decide (s < (w64 (stages - (1 : Int))))) = false → K (s_l9Ahead_R (List.take ((l.length + 1) + 1) ((List.take (l.length + 1) ((List.take l.length l) ++ ([((1 : Int), m)]))) ++ ([((2 : Int), m)]))))))))) ∧ ((decide (s > (0 : Int))) = false → (((l.length = l.length ∨ l.length + 1 ≤ l.length) ∧ l.length + 1 ≤ big) ∧ (((decide (s < (w64 (stages - (1 : Int))))) = true → ((((l.length + 1) = ((List.take l.length l) ++ ([((2 : Int), m)])).length ∨ (l.length + 1) + 1 ≤ ((List.take l.length l) ++ ([((2 : Int), m)])).length) ∧ (l.length + 1) + 1 ≤ big) ∧ K (s_l9Ahead_R (List.take ((l.length + 1) + 1) ((List.take (l.length + 1) ((List.take l.length l) ++ ([((2 : Int), m)]))) ++ ([((3 : Int), m)])))))) ∧ ((decide (s < (w64 (stages - (1 : Int))))) = false → K (s_l9Ahead_R (List.take (l.length + 1) ((List.take l.length l) ++ ([((2 : Int), m)])))))))))) : Hold (tawp s_l9Ahead_G (0 + 1) s_l9Ahead_c (TQ 0 1 s_l9Ahead_rs K) (tstart [(.ow 151 ctIns l), (.c TI stages), (.c TI s), (.c TI m)])) :=
  Hold.of (by kernel_rfl) h
theorem s_l9Ahead_t (l : List TIns) (stages : Int) (s : Int) (m : Int) (r : TRes) (h : Hold (tawp s_l9Ahead_G (0 + 1) s_l9Ahead_c (TQ 0 1 s_l9Ahead_rs fun r' => r' = r) (tstart [(.ow 151 ctIns l), (.c TI stages), (.c TI s), (.c TI m)]))) : TCon Try.prog 104 [(.ow 151 ctIns l), (.c TI stages), (.c TI s), (.c TI m)] r :=
  tcon_gen (sg := [(.o 151 ctIns), (.c TI), (.c TI), (.c TI)]) mixed TOk.nil s_l9Ahead_st (by kernel_rfl) (by kernel_rfl) (by kernel_rfl) (by kernel_rfl) h
theorem s_l9Ahead_h : s_l9Ahead_C := by
  intro l stages s m hp
  refine tcon_bd rfl fun hb => s_l9Ahead_t l stages s m _ (s_l9Ahead_v0 _ l stages s m ?_)
  obtain ⟨⟨h1, h2⟩, hl⟩ := hp
  have hw : w64 (stages - 1) = stages - 1 := w64_ok (by omega) (by omega)
  have hb : l.length + 100 ≤ big := by rw [big_eq]; omega
  rw [hw]
  unfold m_l9Ahead m_ahead
  refine ⟨fun h => ?_, fun h => ?_⟩
  all_goals
    simp at h
    first | have h0 : 0 < s := h | have h0 : ¬ 0 < s := by omega
    refine ⟨⟨.inl rfl, by omega⟩, ?_⟩
    first
    | refine ⟨⟨.inl (by simp), by omega⟩, fun h3 => ⟨⟨.inl (by simp), by omega⟩, R_eq ?_⟩, fun h3 => R_eq ?_⟩
    | refine ⟨fun h3 => ⟨⟨.inl (by simp), by omega⟩, R_eq ?_⟩, fun h3 => R_eq ?_⟩
    all_goals
      simp at h3
      first | have h4 : s < stages - 1 := h3 | have h4 : ¬ s < stages - 1 := by omega
      simp [h0, h4, List.take_of_length_le]

theorem s_l9Ahead_ok : TRowOk Try.prog s_l9Ahead_row := rowOk fun x h => s_l9Ahead_h x.1 x.2.1 x.2.2.1 x.2.2.2.1 h

def s_l9Back_R (t : (List TIns)) : TRes := ⟨(.r ctIns 0 0 t.length), [(.sl 151 ctIns true t)], [], true, [.dead]⟩
def s_l9Back_row : TRow := mkRow 105 [(.o 151 ctIns), (.c TI), (.c TI), (.c TI), (.c .bool)] fun x => (some (p_l9b x.1 x.2.1 x.2.2.1 x.2.2.2.1 x.2.2.2.2.1), s_l9Back_R (m_l9Back x.1 x.2.1 x.2.2.1 x.2.2.2.1 x.2.2.2.2.1))
def s_l9Back_C : Prop := ∀ (x0 : List TIns) (x1 : Int) (x2 : Int) (x3 : Int) (x4 : Bool), (p_l9b x0 x1 x2 x3 x4) → TCon Try.prog 105 [(.ow 151 ctIns x0), (.c TI x1), (.c TI x2), (.c TI x3), (.c .bool x4)] (s_l9Back_R (m_l9Back x0 x1 x2 x3 x4))

/-! spec.l9Back -/
def s_l9Back_G : List TRow := []
def s_l9Back_c : TCode :=
  (.seq (.reg [.op (some 10) (.mov (.k (.n ctIns)))])
 (.seq (.seq (.reg [.op (some 11) (.mov (.s 2)),
      .op (some 12) (.mov (.s 1)),
      .op (some 13) (.bin .sub (.s 12) (.k (.c TI (1 : Int)))),
      .op (some 14) (.bin .lss (.s 11) (.s 13))])
   (.cond (.s 14) (.reg [.op (some 15) (.mov (.s 0)),
       .op (some 16) (.mov (.s 3)),
       .op (some 17) (.build [(.c TI (0 : Int)), (.c TI (0 : Int))] [(0, 1, (.k (.c TI (4 : Int)))), (1, 1, (.s 16))]),
       .op (some 18) (.bsl 151 ctIns [(.s 17)]),
       .op (some 19) (.app (.s 15) (.s 18) 151 ctIns),
       .op (some 0) (.mov (.s 19))]) .skip))
  (.seq (.seq (.reg [.op (some 20) (.mov (.s 4))])
    (.cond (.s 20) (.reg [.op (some 21) (.mov (.s 0)),
        .op (some 22) (.mov (.s 3)),
        .op (some 23) (.build [(.c TI (0 : Int)), (.c TI (0 : Int))] [(0, 1, (.k (.c TI (5 : Int)))), (1, 1, (.s 22))]),
        .op (some 24) (.bsl 151 ctIns [(.s 23)]),
        .op (some 25) (.app (.s 21) (.s 24) 151 ctIns),
        .op (some 0) (.mov (.s 25))]) .skip))
   (.seq (.reg [.op (some 26) (.mov (.s 0)),
       .op (some 27) (.mov (.s 3)),
       .op (some 28) (.build [(.c TI (0 : Int)), (.c TI (0 : Int))] [(0, 1, (.k (.c TI (6 : Int)))), (1, 1, (.s 27))]),
       .op (some 29) (.bsl 151 ctIns [(.s 28)]),
       .op (some 30) (.app (.s 26) (.s 29) 151 ctIns),
       .op (some 0) (.mov (.s 30))])
    (.seq (.seq (.reg [.op (some 31) (.mov (.s 2)),
         .op (some 32) (.bin .gtr (.s 31) (.k (.c TI (0 : Int))))])
      (.cond (.s 32) (.reg [.op (some 33) (.mov (.s 0)),
          .op (some 34) (.mov (.s 3)),
          .op (some 35) (.build [(.c TI (0 : Int)), (.c TI (0 : Int))] [(0, 1, (.k (.c TI (7 : Int)))), (1, 1, (.s 34))]),
          .op (some 36) (.bsl 151 ctIns [(.s 35)]),
          .op (some 37) (.app (.s 33) (.s 36) 151 ctIns),
          .op (some 0) (.mov (.s 37))]) .skip))
     (.seq (.reg [.op (some 38) (.mov (.s 0)),
         .op (some 10) (.mov (.s 38))])
      .ret))))))
def s_l9Back_rs : List (ARv × Md) := [(.t 10, .one (.o 151))]
theorem s_l9Back_st : compF Try.prog 105 = some (s_l9Back_c.er, s_l9Back_rs.map Prod.fst, 39) := by kernel_rfl
def s_l9Back_Q (K : TRes → Prop) : TPost := TQ 0 1 s_l9Back_rs K
theorem s_l9Back_v0 (K : TRes → Prop) (l : List TIns) (stages : Int) (s : Int) (m : Int) (redo : Bool) (h :
  (((decide (s < (w64 (stages - (1 : Int))))) = true → (((l.length = l.length ∨ l.length + 1 ≤ l.length) ∧ l.length + 1 ≤ big) ∧ ((redo = true → ((((l.length + 1) = ((List.take l.length l) ++ ([((4 : Int), m)])).length ∨ (l.length + 1) + 1 ≤ ((List.take l.length l) ++ ([((4 : Int), m)])).length) ∧ (l.length + 1) + 1 ≤ big) ∧ (((((l.length + 1) + 1) = ((List.take (l.length + 1) ((List.take l.length l) ++ ([((4 : Int), m)]))) ++ ([((5 : Int), m)])).length ∨ ((l.length + 1) + 1) + 1 ≤ ((List.take (l.length + 1) ((List.take l.length l) ++ ([((4 : Int), m)]))) ++ ([((5 : Int), m)])).length) ∧ ((l.length + 1) + 1) + 1 ≤ big) ∧ (((decide (s > (0 : Int))) = true → ((((((l.length + 1) + 1) + 1) = ((List.take ((l.length + 1) + 1) ((List.take (l.length + 1) ((List.take l.length l) ++ ([((4 : Int), m)]))) ++ ([((5 : Int), m)]))) ++ ([((6 : Int), m)])).length ∨ (((l.length + 1) + 1) + 1) + 1 ≤ ((List.take ((l.length + 1) + 1) ((List.take (l.length + 1) ((List.take l.length l) ++ ([((4 : Int), m)]))) ++ ([((5 : Int), m)]))) ++ ([((6 : Int), m)])).length) ∧ (((l.length + 1) + 1) + 1) + 1 ≤ big) ∧ K (s_l9Back_R (List.take ((((l.length + 1) + 1) + 1) + 1) ((List.take (((l.length + 1) + 1) + 1) ((List.take ((l.length + 1) + 1) ((List.take (l.length + 1) ((List.take l.length l) ++ ([((4 : Int), m)]))) ++ ([((5 : Int), m)]))) ++ ([((6 : Int), m)]))) ++ ([((7 : Int), m)])))))) ∧ ((decide (s > (0 : Int))) = false → K (s_l9Back_R (List.take (((l.length + 1) + 1) + 1) ((List.take ((l.length + 1) + 1) ((List.take (l.length + 1) ((List.take l.length l) ++ ([((4 : Int), m)]))) ++ ([((5 : Int), m)]))) ++ ([((6 : Int), m)]))))))))) ∧ (redo = false → ((((l.length + 1) = ((List.take l.length l) ++ ([((4 : Int), m)])).length ∨ (l.length + 1) + 1 ≤ ((List.take l.length l) ++ ([((4 : Int), m)])).length) ∧ (l.length + 1) + 1 ≤ big) ∧ (((decide (s > (0 : Int))) = true → (((((l.length + 1) + 1) = ((List.take (l.length + 1) ((List.take l.length l) ++ ([((4 : Int), m)]))) ++ ([((6 : Int), m)])).length ∨ ((l.length + 1) + 1) + 1 ≤ ((List.take (l.length + 1) ((List.take l.length l) ++ ([((4 : Int), m)]))) ++ ([((6 : Int), m)])).length) ∧ ((l.length + 1) + 1) + 1 ≤ big) ∧ K (s_l9Back_R (List.take (((l.length + 1) + 1) + 1) ((List.take ((l.length + 1) + 1) ((List.take (l.length + 1) ((List.take l.length l) ++ ([((4 : Int), m)]))) ++ ([((6 : Int), m)]))) ++ ([((7 : Int), m)])))))) ∧ ((decide (s > (0 : Int))) = false → K (s_l9Back_R (List.take ((l.length + 1) + 1) ((List.take (l.length + 1) ((List.take l.length l) ++ ([((4 : Int), m)]))) ++ ([((6 : Int), m)]))))))))))) ∧ ((decide (s < (w64 (stages - (1 : Int))))) = false → ((redo = true → (((l.length = l.length ∨ l.length + 1 ≤ l.length) ∧ l.length + 1 ≤ big) ∧ ((((l.length + 1) = ((List.take l.length l) ++ ([((5 : Int), m)])).length ∨ (l.length + 1) + 1 ≤ ((List.take l.length l) ++ ([((5 : Int), m)])).length) ∧ (l.length + 1) + 1 ≤ big) ∧ (((decide (s > (0 : Int))) = true → (((((l.length + 1) + 1) = ((List.take (l.length + 1) ((List.take l.length l) ++ ([((5 : Int), m)]))) ++ ([((6 : Int), m)])).length ∨ ((l.length + 1) + 1) + 1 ≤ ((List.take (l.length + 1) ((List.take l.length l) ++ ([((5 : Int), m)]))) ++ ([((6 : Int), m)])).length) ∧ ((l.length + 1) + 1) + 1 ≤ big) ∧ K (s_l9Back_R (List.take (((l.length + 1) + 1) + 1) ((List.take ((l.length + 1) + 1) ((List.take (l.length + 1) ((List.take l.length l) ++ ([((5 : Int), m)]))) ++ ([((6 : Int), m)]))) ++ ([((7 : Int), m)])))))) ∧ ((decide (s > (0 : Int))) = false → K (s_l9Back_R (List.take ((l.length + 1) + 1) ((List.take (l.length + 1) ((List.take l.length l) ++ ([((5 : Int), m)]))) ++ ([((6 : Int), m)]))))))))) ∧ (redo = false → (((l.length = l.length ∨ l.length + 1 ≤ l.length) ∧ l.length + 1 ≤ big) ∧ (((decide (s > (0 : Int))) = true → ((((l.length + 1) = ((List.take l.length l) ++ ([((6 : Int), m)])).length ∨ (l.length + 1) + 1 ≤ ((List.take l.length l) ++ ([((6 : Int), m)])).length) ∧ (l.length + 1) + 1 ≤ big) ∧ K (s_l9Back_R (List.take ((l.length + 1) + 1) ((List.take (l.length + 1) ((List.take l.length l) ++ ([((6 : Int), m)]))) ++ ([((7 : Int), m)])))))) ∧ ((decide (s > (0 : Int))) = false → K (s_l9Back_R (List.take (l.length + 1) ((List.take l.length l) ++ ([((6 : Int), m)])))))))))))) : Hold (tawp s_l9Back_G (0 + 1) s_l9Back_c (TQ 0 1 s_l9Back_rs K) (tstart [(.ow 151 ctIns l), (.c TI stages), (.c TI s), (.c TI m), (.c .bool redo)])) :=
  Hold.of (by kernel_rfl) h
theorem s_l9Back_t (l : List TIns) (stages : Int) (s : Int) (m : Int) (redo : Bool) (r : TRes) (h : Hold (tawp s_l9Back_G (0 + 1) s_l9Back_c (TQ 0 1 s_l9Back_rs fun r' => r' = r) (tstart [(.ow 151 ctIns l), (.c TI stages), (.c TI s), (.c TI m), (.c .bool redo)]))) : TCon Try.prog 105 [(.ow 151 ctIns l), (.c TI stages), (.c TI s), (.c TI m), (.c .bool redo)] r :=
  tcon_gen (sg := [(.o 151 ctIns), (.c TI), (.c TI), (.c TI), (.c .bool)]) mixed TOk.nil s_l9Back_st (by kernel_rfl) (by kernel_rfl) (by kernel_rfl) (by kernel_rfl) h
theorem s_l9Back_h : s_l9Back_C := by
  intro l stages s m redo hp
  refine tcon_bd rfl fun hb => s_l9Back_t l stages s m redo _ (s_l9Back_v0 _ l stages s m redo ?_)
  obtain ⟨⟨h1, h2⟩, hl⟩ := hp
  have hw : w64 (stages - 1) = stages - 1 := w64_ok (by omega) (by omega)
  have hb : l.length + 100 ≤ big := by rw [big_eq]; omega
  rw [hw]
  unfold m_l9Back m_backOf
  have hd : ∀ k, List.take k (l ++ []) = List.take k l := by intro k; rw [List.append_nil]
  by_cases c1 : s < stages - 1
  all_goals
    cases redo
    all_goals
      by_cases c3 : 0 < s
      all_goals
        simp only [gt_iff_lt, c1, c3, decide_true, decide_false, Bool.false_eq_true, true_implies, false_implies, true_and, and_true, reduceCtorEq, if_true, if_false, List.nil_append, List.append_nil]
        simp [List.take_of_length_le, big_eq]
        try omega
        try exact R_eq (by simp [List.take_of_length_le])

theorem s_l9Back_ok : TRowOk Try.prog s_l9Back_row := rowOk fun x h => s_l9Back_h x.1 x.2.1 x.2.2.1 x.2.2.2.1 x.2.2.2.2.1 h

def i_Plan_R (t : (List TIns)) : TRes := ⟨(.r ctIns 0 0 t.length), [(.sl 151 ctIns true t)], [], true, []⟩
def i_Plan_row : TRow := mkRow 18 [(.c TI), (.c TI), (.c TI), (.c TI), (.c .bool)] fun x => (none, i_Plan_R (m_plan x.1 x.2.1 x.2.2.1 x.2.2.2.1 x.2.2.2.2.1))
def i_Plan_C : Prop := ∀ (x0 : Int) (x1 : Int) (x2 : Int) (x3 : Int) (x4 : Bool), TCon Try.prog 18 [(.c TI x0), (.c TI x1), (.c TI x2), (.c TI x3), (.c .bool x4)] (i_Plan_R (m_plan x0 x1 x2 x3 x4))

/-! impl.Plan -/
def i_Plan_G : List TRow := [i_planned_row, i_WarmUp_row, i_ahead_row, i_backOf_row]
def i_Plan_b2 : TCode :=
  (.seq (.seq (.reg [.op (some 34) (.mov (.s 13)),
     .op (some 35) (.mov (.s 11)),
     .op (some 36) (.bin .lss (.s 34) (.s 35))])
  (.cond (.s 36) .skip (.exit 0)))
 (.seq (.block 1 (.reg [.op (some 39) (.mov (.s 12)),
      .op (some 40) (.mov (.s 1)),
      .op (some 41) (.mov (.s 2)),
      .op (some 42) (.mov (.s 13)),
      .op (some 43) (.call 107 [(.s 40), (.s 41), (.s 42)]),
      .op (some 44) (.app (.s 39) (.s 43) 151 ctIns),
      .op (some 12) (.mov (.s 44))]))
  (.reg [.op (some 37) (.mov (.s 13)),
     .op (some 38) (.bin .add (.s 37) (.k (.c TI (1 : Int)))),
     .op (some 13) (.mov (.s 38))])))
def i_Plan_L2 : List (Nat × Md) := [(1, .one .d), (2, .one .d), (3, .one .d), (4, .one .d), (11, .one .d), (12, .one .f), (13, .one .d)]
def i_Plan_y6 : TCode :=
  (.reg [.op (some 63) (.mov (.s 12)),
   .op (some 64) (.mov (.s 1)),
   .op (some 65) (.mov (.s 2)),
   .op (some 66) (.mov (.s 14)),
   .op (some 67) (.mov (.s 4)),
   .op (some 68) (.call 108 [(.s 64), (.s 65), (.s 66), (.s 67)]),
   .op (some 69) (.app (.s 63) (.s 68) 151 ctIns),
   .op (some 12) (.mov (.s 69))])
def i_Plan_L6 : List (Nat × Md) := [(1, .one .d), (2, .one .d), (3, .one .d), (4, .one .d), (11, .one .d), (12, .one .f), (14, .one .d)]
def i_Plan_y6w : TCode := .wk i_Plan_L6 i_Plan_y6
def i_Plan_y5 : TCode :=
  (.reg [.op (some 48) (.mov (.s 14)),
   .op (some 49) (.bin .add (.s 48) (.k (.c TI (1 : Int)))),
   .op (some 14) (.mov (.s 49))])
def i_Plan_b4 : TCode :=
  (.seq (.seq (.reg [.op (some 45) (.mov (.s 14)),
     .op (some 46) (.mov (.s 3)),
     .op (some 47) (.bin .lss (.s 45) (.s 46))])
  (.cond (.s 47) .skip (.exit 2)))
 (.seq (.block 3 (.seq (.seq (.reg [.op (some 50) (.mov (.s 14)),
        .op (some 51) (.mov (.s 11)),
        .op (some 52) (.bin .add (.s 50) (.s 51)),
        .op (some 53) (.mov (.s 3)),
        .op (some 54) (.bin .lss (.s 52) (.s 53))])
     (.cond (.s 54) (.reg [.op (some 55) (.mov (.s 12)),
         .op (some 56) (.mov (.s 1)),
         .op (some 57) (.mov (.s 2)),
         .op (some 58) (.mov (.s 14)),
         .op (some 59) (.mov (.s 11)),
         .op (some 60) (.bin .add (.s 58) (.s 59)),
         .op (some 61) (.call 107 [(.s 56), (.s 57), (.s 60)]),
         .op (some 62) (.app (.s 55) (.s 61) 151 ctIns),
         .op (some 12) (.mov (.s 62))]) .skip))
    i_Plan_y6w))
  i_Plan_y5))
def i_Plan_L4 : List (Nat × Md) := [(1, .one .d), (2, .one .d), (3, .one .d), (4, .one .d), (11, .one .d), (12, .one .f), (14, .one .d)]
def i_Plan_y3 : TCode :=
  (.seq (.reg [.op (some 70) (.mov (.s 12)),
    .op (some 71) (.build [(.c TI (0 : Int)), (.c TI (0 : Int))] [(0, 1, (.k (.c TI (8 : Int)))), (1, 1, (.k (.c TI (0 : Int))))]),
    .op (some 72) (.bsl 151 ctIns [(.s 71)]),
    .op (some 73) (.app (.s 70) (.s 72) 151 ctIns),
    .op (some 10) (.mov (.s 73))])
 .ret)
def i_Plan_y1 : TCode :=
  (.seq (.seq (.reg [.op (some 14) (.mov (.k (.c TI (0 : Int))))])
  (.block 2 (.loop i_Plan_L4 i_Plan_b4)))
 i_Plan_y3)
def i_Plan_c : TCode :=
  (.seq (.reg [.op (some 10) (.mov (.k (.n ctIns)))])
 (.seq (.seq (.reg [.op (some 15) (.mov (.s 0)),
      .op (some 16) (.bin .neq (.s 15) (.k (.c TI (1 : Int)))),
      .op (some 17) (.mov (.s 16)),
      .grp 17 true [.op (some 18) (.mov (.s 0)), .op (some 19) (.bin .neq (.s 18) (.k (.c TI (2 : Int))))] 20 (.s 19),
      .op (some 21) (.mov (.s 20)),
      .grp 21 false [.op (some 22) (.mov (.s 1)), .op (some 23) (.mov (.s 2)), .op (some 24) (.mov (.s 3)), .op (some 25) (.call 106 [(.s 22), (.s 23), (.s 24)]), .op (some 26) (.not (.s 25))] 27 (.s 26)])
   (.cond (.s 27) (.seq (.reg [.op (some 10) (.mov (.k (.n ctIns)))])
     .ret) .skip))
  (.seq (.reg [.op (some 28) (.mov (.s 0)),
      .op (some 29) (.mov (.s 1)),
      .op (some 30) (.mov (.s 2)),
      .op (some 31) (.mov (.s 3)),
      .op (some 32) (.call 54 [(.s 28), (.s 29), (.s 30), (.s 31)]),
      .op (some 11) (.mov (.s 32))])
   (.seq (.reg [.op (some 33) (.bsl 151 ctIns []),
       .op (some 12) (.mov (.s 33))])
    (.seq (.seq (.reg [.op (some 13) (.mov (.k (.c TI (0 : Int))))])
      (.block 0 (.loop i_Plan_L2 i_Plan_b2)))
     i_Plan_y1)))))
def i_Plan_rs : List (ARv × Md) := [(.t 10, .one (.o 151))]
theorem i_Plan_st : compF Try.prog 18 = some (i_Plan_c.er, i_Plan_rs.map Prod.fst, 74) := by kernel_rfl
def i_Plan_Q (K : TRes → Prop) : TPost := TQ 0 0 i_Plan_rs K
def i_Plan_q1 (K : TRes → Prop) : TPost := Qseq (tawp i_Plan_G 0 i_Plan_y3 (i_Plan_Q K)) (i_Plan_Q K)
def i_Plan_q2 (K : TRes → Prop) : TPost := Qblk 2 (i_Plan_q1 K)
def i_Plan_q3 (K : TRes → Prop) : TPost := Qseq (fun s' => Loop i_Plan_G 0 i_Plan_L4 i_Plan_b4 (i_Plan_q2 K) (gc 0 i_Plan_L4 s')) (i_Plan_q2 K)
def i_Plan_q4 (K : TRes → Prop) : TPost := Qseq (tawp i_Plan_G 0 i_Plan_y5 (i_Plan_q3 K)) (i_Plan_q3 K)
def i_Plan_q5 (K : TRes → Prop) : TPost := Qblk 3 (i_Plan_q4 K)
def i_Plan_A6 (K : TRes → Prop) (ds : Int) (stages : Int) (s : Int) (micro : Int) (redo : Bool) (l1 : List TIns) (m1 : Int) : Prop := tawp i_Plan_G 0 i_Plan_y6 (i_Plan_q5 K) ⟨[(1, (.c TI stages)), (2, (.c TI s)), (3, (.c TI micro)), (4, (.c .bool redo)), (11, (.c TI (m_warmUp ds stages s micro))), (12, (.r ctIns 0 0 l1.length)), (14, (.c TI m1))], [(0, (.sl 151 ctIns true l1))], 1⟩
def i_Plan_A4 (K : TRes → Prop) (ds : Int) (stages : Int) (s : Int) (micro : Int) (redo : Bool) (m1 : Int) (l2 : List TIns) : Prop := Loop i_Plan_G 0 i_Plan_L4 i_Plan_b4 (i_Plan_q2 K) ⟨[(1, (.c TI stages)), (2, (.c TI s)), (3, (.c TI micro)), (4, (.c .bool redo)), (11, (.c TI (m_warmUp ds stages s micro))), (12, (.r ctIns 0 0 l2.length)), (14, (.c TI m1))], [(0, (.sl 151 ctIns true l2))], 1⟩
def i_Plan_q6 (K : TRes → Prop) : TPost := Qseq (tawp i_Plan_G 0 i_Plan_y1 (i_Plan_Q K)) (i_Plan_Q K)
def i_Plan_q7 (K : TRes → Prop) : TPost := Qblk 0 (i_Plan_q6 K)
def i_Plan_A2 (K : TRes → Prop) (ds : Int) (stages : Int) (s : Int) (micro : Int) (redo : Bool) (m : Int) (l : List TIns) : Prop := Loop i_Plan_G 0 i_Plan_L2 i_Plan_b2 (i_Plan_q7 K) ⟨[(1, (.c TI stages)), (2, (.c TI s)), (3, (.c TI micro)), (4, (.c .bool redo)), (11, (.c TI (m_warmUp ds stages s micro))), (12, (.r ctIns 0 0 l.length)), (13, (.c TI m))], [(0, (.sl 151 ctIns true l))], 1⟩
theorem i_Plan_v6 (K : TRes → Prop) (ds : Int) (stages : Int) (s : Int) (micro : Int) (redo : Bool) (l1 : List TIns) (m1 : Int) (h :
  (((p_st4 stages s m1 redo) ∧ ((l1.length = l1.length ∨ l1.length + (List.take ((m_backOf stages s m1 redo).length) (List.drop 0 (m_backOf stages s m1 redo))).length ≤ l1.length) ∧ l1.length + (List.take ((m_backOf stages s m1 redo).length) (List.drop 0 (m_backOf stages s m1 redo))).length ≤ big)) ∧ (i_Plan_A4 K ds stages s micro redo (w64 (m1 + (1 : Int))) (List.take (l1.length + (List.take ((m_backOf stages s m1 redo).length) (List.drop 0 (m_backOf stages s m1 redo))).length) ((List.take l1.length l1) ++ (List.take ((m_backOf stages s m1 redo).length) (List.drop 0 (m_backOf stages s m1 redo)))))))) : Hold (i_Plan_A6 K ds stages s micro redo l1 m1) :=
  Hold.of (by kernel_rfl) h
theorem i_Plan_v4 (K : TRes → Prop) (ds : Int) (stages : Int) (s : Int) (micro : Int) (redo : Bool) (m1 : Int) (l2 : List TIns) (h :
  (((decide (m1 < micro)) = true → (((decide ((w64 (m1 + (m_warmUp ds stages s micro))) < micro)) = true → (((p_st stages s (w64 (m1 + (m_warmUp ds stages s micro)))) ∧ ((l2.length = l2.length ∨ l2.length + (List.take ((m_ahead stages s (w64 (m1 + (m_warmUp ds stages s micro)))).length) (List.drop 0 (m_ahead stages s (w64 (m1 + (m_warmUp ds stages s micro)))))).length ≤ l2.length) ∧ l2.length + (List.take ((m_ahead stages s (w64 (m1 + (m_warmUp ds stages s micro)))).length) (List.drop 0 (m_ahead stages s (w64 (m1 + (m_warmUp ds stages s micro)))))).length ≤ big)) ∧ (i_Plan_A6 K ds stages s micro redo (List.take (l2.length + (List.take ((m_ahead stages s (w64 (m1 + (m_warmUp ds stages s micro)))).length) (List.drop 0 (m_ahead stages s (w64 (m1 + (m_warmUp ds stages s micro)))))).length) ((List.take l2.length l2) ++ (List.take ((m_ahead stages s (w64 (m1 + (m_warmUp ds stages s micro)))).length) (List.drop 0 (m_ahead stages s (w64 (m1 + (m_warmUp ds stages s micro)))))))) m1))) ∧ ((decide ((w64 (m1 + (m_warmUp ds stages s micro))) < micro)) = false → (i_Plan_A6 K ds stages s micro redo (List.take l2.length l2) m1)))) ∧ ((decide (m1 < micro)) = false → (((l2.length = l2.length ∨ l2.length + 1 ≤ l2.length) ∧ l2.length + 1 ≤ big) ∧ K (i_Plan_R (List.take (l2.length + 1) ((List.take l2.length l2) ++ ([((8 : Int), (0 : Int))])))))))) : i_Plan_A4 K ds stages s micro redo m1 l2 :=
  Loop.of (by kernel_rfl) h
theorem i_Plan_v2 (K : TRes → Prop) (ds : Int) (stages : Int) (s : Int) (micro : Int) (redo : Bool) (m : Int) (l : List TIns) (h :
  (((decide (m < (m_warmUp ds stages s micro))) = true → (((p_st stages s m) ∧ ((l.length = l.length ∨ l.length + (List.take ((m_ahead stages s m).length) (List.drop 0 (m_ahead stages s m))).length ≤ l.length) ∧ l.length + (List.take ((m_ahead stages s m).length) (List.drop 0 (m_ahead stages s m))).length ≤ big)) ∧ (i_Plan_A2 K ds stages s micro redo (w64 (m + (1 : Int))) (List.take (l.length + (List.take ((m_ahead stages s m).length) (List.drop 0 (m_ahead stages s m))).length) ((List.take l.length l) ++ (List.take ((m_ahead stages s m).length) (List.drop 0 (m_ahead stages s m)))))))) ∧ ((decide (m < (m_warmUp ds stages s micro))) = false → (i_Plan_A4 K ds stages s micro redo (0 : Int) (List.take l.length l))))) : i_Plan_A2 K ds stages s micro redo m l :=
  Loop.of (by kernel_rfl) h
theorem i_Plan_v0 (K : TRes → Prop) (ds : Int) (stages : Int) (s : Int) (micro : Int) (redo : Bool) (h :
  (((((ds != (1 : Int)) && (ds != (2 : Int))) || (!(m_planned stages s micro))) = true → K (i_Plan_R ([] : List TIns))) ∧ ((((ds != (1 : Int)) && (ds != (2 : Int))) || (!(m_planned stages s micro))) = false → (i_Plan_A2 K ds stages s micro redo (0 : Int) ([] : List TIns))))) : Hold (tawp i_Plan_G (0 + 0) i_Plan_c (TQ 0 0 i_Plan_rs K) (tstart [(.c TI ds), (.c TI stages), (.c TI s), (.c TI micro), (.c .bool redo)])) :=
  Hold.of (by kernel_rfl) h
theorem i_Plan_t (ds : Int) (stages : Int) (s : Int) (micro : Int) (redo : Bool) (r : TRes) (h : Hold (tawp i_Plan_G (0 + 0) i_Plan_c (TQ 0 0 i_Plan_rs fun r' => r' = r) (tstart [(.c TI ds), (.c TI stages), (.c TI s), (.c TI micro), (.c .bool redo)]))) : TCon Try.prog 18 [(.c TI ds), (.c TI stages), (.c TI s), (.c TI micro), (.c .bool redo)] r :=
  tcon_gen (sg := [(.c TI), (.c TI), (.c TI), (.c TI), (.c .bool)]) mixed (TOk.cons i_planned_ok (TOk.cons i_WarmUp_ok (TOk.cons i_ahead_ok (TOk.cons i_backOf_ok TOk.nil)))) i_Plan_st (by kernel_rfl) (by kernel_rfl) (by kernel_rfl) (by kernel_rfl) h
theorem i_Plan_h : i_Plan_C := by
  intro ds stages s micro redo
  refine tcon_bd rfl fun hb => i_Plan_t ds stages s micro redo _ (i_Plan_v0 _ ds stages s micro redo ?_)
  rw [guard_plan2]
  by_cases hp : (m_in ds 1 2 && m_planned stages s micro) = true
  case neg =>
    rw [show (m_in ds 1 2 && m_planned stages s micro) = false by simpa using hp]
    exact ⟨fun _ => R_eq (plan_nil hp).symm, fun h => by simp at h⟩
  rw [hp]
  refine ⟨fun h => by simp at h, fun _ => ?_⟩
  have hq : m_planned stages s micro = true := by simp only [Bool.and_eq_true] at hp; exact hp.2
  have hr := planned_iff.1 hq
  have hM := plan_eq (redo := redo) hp
  obtain ⟨w, hw⟩ : ∃ w : Nat, m_warmUp ds stages s micro = w := ⟨_, (Int.toNat_of_nonneg (warm_rng hq).1).symm⟩
  have hw5 := (warm_rng (ds := ds) hq).2
  rw [hw] at hM hw5
  rw [Int.toNat_natCast] at hM
  refine upLoop w (fun k => i_Plan_A2 (fun r' => r' = i_Plan_R (m_plan ds stages s micro redo)) ds stages s micro redo (k : Int) (aheadTo stages s k)) ?_ ?_
  · refine i_Plan_v2 (fun r' => r' = i_Plan_R (m_plan ds stages s micro redo)) ds stages s micro redo _ _ ⟨fun h => by simp [hw] at h, fun _ => ?_⟩
    rw [List.take_length]
    suffices h : i_Plan_A4 (fun r' => r' = i_Plan_R (m_plan ds stages s micro redo)) ds stages s micro redo ((0 : Nat) : Int) (aheadTo stages s w ++ backTo stages s micro redo w 0) by
      rw [show backTo stages s micro redo w 0 = [] from rfl, List.append_nil] at h; exact h
    refine upLoop micro.toNat (fun k => i_Plan_A4 (fun r' => r' = i_Plan_R (m_plan ds stages s micro redo)) ds stages s micro redo (k : Int) (aheadTo stages s w ++ backTo stages s micro redo w k)) ?_ ?_
    · have h1 := aheadTo_le stages s w
      have h2 := backTo_le stages s micro redo w micro.toNat
      refine i_Plan_v4 (fun r' => r' = i_Plan_R (m_plan ds stages s micro redo)) ds stages s micro redo _ _ ⟨fun h => by simp at h; omega, fun _ => ⟨⟨.inl rfl, by rw [List.length_append, big_eq]; omega⟩, R_eq ?_⟩⟩
      rw [take_app1, hM]
    · intro k hk ih
      have h1 := aheadTo_le stages s w
      have h2 := backTo_le stages s micro redo w k
      have key : ∀ l : List TIns, l = aheadTo stages s w ++ backTo stages s micro redo w k ++ (if (k : Int) + w < micro then m_ahead stages s ((k : Int) + w) else []) → i_Plan_A6 (fun r' => r' = i_Plan_R (m_plan ds stages s micro redo)) ds stages s micro redo l (k : Int) := by
        intro l hl
        have h3 := bof_len stages s k redo
        have h4 := ahead_len stages s ((k : Int) + w)
        have h5 : l.length ≤ 1000 := by rw [hl]; split <;> simp only [List.length_append, List.length_nil] <;> omega
        refine (i_Plan_v6 (fun r' => r' = i_Plan_R (m_plan ds stages s micro redo)) ds stages s micro redo l _ ⟨⟨⟨by omega, by omega⟩, roomL (by omega)⟩, ?_⟩).h
        rw [takeL, sc1 (by omega)]
        rw [backTo_snoc] at ih
        rw [hl, List.append_assoc, List.append_assoc]
        unfold step2 at ih
        exact ih
      refine i_Plan_v4 (fun r' => r' = i_Plan_R (m_plan ds stages s micro redo)) ds stages s micro redo _ _ ⟨fun _ => ?_, fun h => by simp at h; omega⟩
      rw [hw, w64_ok (x := (k : Int) + w) (by omega) (by omega)]
      have h4 := ahead_len stages s ((k : Int) + w)
      refine ⟨fun h => ⟨⟨⟨by omega, by omega⟩, roomL (by rw [List.length_append]; omega)⟩, key _ ?_⟩, fun h => key _ ?_⟩
      · rw [takeL, if_pos (of_decide_eq_true h)]
      · rw [if_neg (of_decide_eq_false h), List.take_length, List.append_nil]
  · intro k hk ih
    have h1 := aheadTo_le stages s k
    have h4 := ahead_len stages s k
    refine i_Plan_v2 (fun r' => r' = i_Plan_R (m_plan ds stages s micro redo)) ds stages s micro redo _ _ ⟨fun _ => ⟨⟨⟨by omega, by omega⟩, roomL (by omega)⟩, ?_⟩, fun h => by simp [hw] at h; omega⟩
    rw [takeL, sc1 (by omega), ← aheadTo_snoc]
    exact ih

theorem i_Plan_ok : TRowOk Try.prog i_Plan_row := rowOk fun x _ => i_Plan_h x.1 x.2.1 x.2.2.1 x.2.2.2.1 x.2.2.2.2.1

def s_Plan_R (t : (List TIns)) : TRes := ⟨(.r ctIns 0 0 t.length), [(.sl 151 ctIns true t)], [], true, []⟩
def s_Plan_row : TRow := mkRow 17 [(.c TI), (.c TI), (.c TI), (.c TI), (.c .bool)] fun x => (none, s_Plan_R (m_plan x.1 x.2.1 x.2.2.1 x.2.2.2.1 x.2.2.2.2.1))
def s_Plan_C : Prop := ∀ (x0 : Int) (x1 : Int) (x2 : Int) (x3 : Int) (x4 : Bool), TCon Try.prog 17 [(.c TI x0), (.c TI x1), (.c TI x2), (.c TI x3), (.c .bool x4)] (s_Plan_R (m_plan x0 x1 x2 x3 x4))

/-! spec.Plan -/
def s_Plan_G : List TRow := [s_l1In_row, s_WarmUp_row, s_l9Ahead_row, s_l9Back_row]
def s_Plan_b2 : TCode :=
  (.seq (.seq (.reg [.op (some 42) (.mov (.s 13)),
     .op (some 43) (.mov (.s 12)),
     .op (some 44) (.bin .lss (.s 42) (.s 43))])
  (.cond (.s 44) .skip (.exit 0)))
 (.seq (.block 1 (.reg [.op (some 47) (.mov (.s 11)),
      .op (some 48) (.mov (.s 1)),
      .op (some 49) (.mov (.s 2)),
      .op (some 50) (.mov (.s 13)),
      .op (some 51) (.call 104 [(.s 47), (.s 48), (.s 49), (.s 50)]),
      .op (some 11) (.mov (.s 51))]))
  (.reg [.op (some 45) (.mov (.s 13)),
     .op (some 46) (.bin .add (.s 45) (.k (.c TI (1 : Int)))),
     .op (some 13) (.mov (.s 46))])))
def s_Plan_L2 : List (Nat × Md) := [(1, .one .d), (2, .one .d), (3, .one .d), (4, .one .d), (11, .one .f), (12, .one .d), (13, .one .d)]
def s_Plan_y6 : TCode :=
  (.reg [.op (some 69) (.mov (.s 11)),
   .op (some 70) (.mov (.s 1)),
   .op (some 71) (.mov (.s 2)),
   .op (some 72) (.mov (.s 14)),
   .op (some 73) (.mov (.s 4)),
   .op (some 74) (.call 105 [(.s 69), (.s 70), (.s 71), (.s 72), (.s 73)]),
   .op (some 11) (.mov (.s 74))])
def s_Plan_L6 : List (Nat × Md) := [(1, .one .d), (2, .one .d), (3, .one .d), (4, .one .d), (11, .one .f), (12, .one .d), (14, .one .d)]
def s_Plan_y6w : TCode := .wk s_Plan_L6 s_Plan_y6
def s_Plan_y5 : TCode :=
  (.reg [.op (some 55) (.mov (.s 14)),
   .op (some 56) (.bin .add (.s 55) (.k (.c TI (1 : Int)))),
   .op (some 14) (.mov (.s 56))])
def s_Plan_b4 : TCode :=
  (.seq (.seq (.reg [.op (some 52) (.mov (.s 14)),
     .op (some 53) (.mov (.s 3)),
     .op (some 54) (.bin .lss (.s 52) (.s 53))])
  (.cond (.s 54) .skip (.exit 2)))
 (.seq (.block 3 (.seq (.seq (.reg [.op (some 57) (.mov (.s 12)),
        .op (some 58) (.mov (.s 14)),
        .op (some 59) (.bin .add (.s 57) (.s 58)),
        .op (some 60) (.mov (.s 3)),
        .op (some 61) (.bin .lss (.s 59) (.s 60))])
     (.cond (.s 61) (.reg [.op (some 62) (.mov (.s 11)),
         .op (some 63) (.mov (.s 1)),
         .op (some 64) (.mov (.s 2)),
         .op (some 65) (.mov (.s 12)),
         .op (some 66) (.mov (.s 14)),
         .op (some 67) (.bin .add (.s 65) (.s 66)),
         .op (some 68) (.call 104 [(.s 62), (.s 63), (.s 64), (.s 67)]),
         .op (some 11) (.mov (.s 68))]) .skip))
    s_Plan_y6w))
  s_Plan_y5))
def s_Plan_L4 : List (Nat × Md) := [(1, .one .d), (2, .one .d), (3, .one .d), (4, .one .d), (11, .one .f), (12, .one .d), (14, .one .d)]
def s_Plan_y3 : TCode :=
  (.seq (.reg [.op (some 75) (.mov (.s 11)),
    .op (some 76) (.build [(.c TI (0 : Int)), (.c TI (0 : Int))] [(0, 1, (.k (.c TI (8 : Int))))]),
    .op (some 77) (.bsl 151 ctIns [(.s 76)]),
    .op (some 78) (.app (.s 75) (.s 77) 151 ctIns),
    .op (some 10) (.mov (.s 78))])
 .ret)
def s_Plan_y1 : TCode :=
  (.seq (.seq (.reg [.op (some 14) (.mov (.k (.c TI (0 : Int))))])
  (.block 2 (.loop s_Plan_L4 s_Plan_b4)))
 s_Plan_y3)
def s_Plan_c : TCode :=
  (.seq (.reg [.op (some 10) (.mov (.k (.n ctIns)))])
 (.seq (.reg [.op (some 15) (.bsl 151 ctIns []),
     .op (some 11) (.mov (.s 15))])
  (.seq (.seq (.reg [.op (some 16) (.mov (.s 0)),
       .op (some 17) (.call 102 [(.s 16), (.k (.c TI (1 : Int))), (.k (.c TI (2 : Int)))]),
       .op (some 18) (.not (.s 17)),
       .op (some 19) (.mov (.s 18)),
       .grp 19 false [.op (some 20) (.mov (.s 1)), .op (some 21) (.call 102 [(.s 20), (.k (.c TI (1 : Int))), (.k (.c TI (4 : Int)))]), .op (some 22) (.not (.s 21))] 23 (.s 22),
       .op (some 24) (.mov (.s 23)),
       .grp 24 false [.op (some 25) (.mov (.s 2)), .op (some 26) (.mov (.s 1)), .op (some 27) (.bin .sub (.s 26) (.k (.c TI (1 : Int)))), .op (some 28) (.call 102 [(.s 25), (.k (.c TI (0 : Int))), (.s 27)]), .op (some 29) (.not (.s 28))] 30 (.s 29),
       .op (some 31) (.mov (.s 30)),
       .grp 31 false [.op (some 32) (.mov (.s 3)), .op (some 33) (.call 102 [(.s 32), (.k (.c TI (1 : Int))), (.k (.c TI (5 : Int)))]), .op (some 34) (.not (.s 33))] 35 (.s 34)])
    (.cond (.s 35) (.seq (.reg [.op (some 36) (.mov (.s 11)),
         .op (some 10) (.mov (.s 36))])
      .ret) .skip))
   (.seq (.reg [.op (some 37) (.mov (.s 0)),
       .op (some 38) (.mov (.s 1)),
       .op (some 39) (.mov (.s 2)),
       .op (some 40) (.mov (.s 3)),
       .op (some 41) (.call 103 [(.s 37), (.s 38), (.s 39), (.s 40)]),
       .op (some 12) (.mov (.s 41))])
    (.seq (.seq (.reg [.op (some 13) (.mov (.k (.c TI (0 : Int))))])
      (.block 0 (.loop s_Plan_L2 s_Plan_b2)))
     s_Plan_y1)))))
def s_Plan_rs : List (ARv × Md) := [(.t 10, .one (.o 151))]
theorem s_Plan_st : compF Try.prog 17 = some (s_Plan_c.er, s_Plan_rs.map Prod.fst, 79) := by kernel_rfl
def s_Plan_Q (K : TRes → Prop) : TPost := TQ 0 0 s_Plan_rs K
def s_Plan_q1 (K : TRes → Prop) : TPost := Qseq (tawp s_Plan_G 0 s_Plan_y3 (s_Plan_Q K)) (s_Plan_Q K)
def s_Plan_q2 (K : TRes → Prop) : TPost := Qblk 2 (s_Plan_q1 K)
def s_Plan_q3 (K : TRes → Prop) : TPost := Qseq (fun s' => Loop s_Plan_G 0 s_Plan_L4 s_Plan_b4 (s_Plan_q2 K) (gc 0 s_Plan_L4 s')) (s_Plan_q2 K)
def s_Plan_q4 (K : TRes → Prop) : TPost := Qseq (tawp s_Plan_G 0 s_Plan_y5 (s_Plan_q3 K)) (s_Plan_q3 K)
def s_Plan_q5 (K : TRes → Prop) : TPost := Qblk 3 (s_Plan_q4 K)
def s_Plan_A6 (K : TRes → Prop) (ds : Int) (stages : Int) (s : Int) (micro : Int) (redo : Bool) (l1 : List TIns) (m1 : Int) : Prop := tawp s_Plan_G 0 s_Plan_y6 (s_Plan_q5 K) ⟨[(1, (.c TI stages)), (2, (.c TI s)), (3, (.c TI micro)), (4, (.c .bool redo)), (11, (.r ctIns 0 0 l1.length)), (12, (.c TI (m_warmUp ds stages s micro))), (14, (.c TI m1))], [(0, (.sl 151 ctIns true l1))], 1⟩
def s_Plan_A4 (K : TRes → Prop) (ds : Int) (stages : Int) (s : Int) (micro : Int) (redo : Bool) (m1 : Int) (l2 : List TIns) : Prop := Loop s_Plan_G 0 s_Plan_L4 s_Plan_b4 (s_Plan_q2 K) ⟨[(1, (.c TI stages)), (2, (.c TI s)), (3, (.c TI micro)), (4, (.c .bool redo)), (11, (.r ctIns 0 0 l2.length)), (12, (.c TI (m_warmUp ds stages s micro))), (14, (.c TI m1))], [(0, (.sl 151 ctIns true l2))], 1⟩
def s_Plan_q6 (K : TRes → Prop) : TPost := Qseq (tawp s_Plan_G 0 s_Plan_y1 (s_Plan_Q K)) (s_Plan_Q K)
def s_Plan_q7 (K : TRes → Prop) : TPost := Qblk 0 (s_Plan_q6 K)
def s_Plan_A2 (K : TRes → Prop) (ds : Int) (stages : Int) (s : Int) (micro : Int) (redo : Bool) (m : Int) (l : List TIns) : Prop := Loop s_Plan_G 0 s_Plan_L2 s_Plan_b2 (s_Plan_q7 K) ⟨[(1, (.c TI stages)), (2, (.c TI s)), (3, (.c TI micro)), (4, (.c .bool redo)), (11, (.r ctIns 0 0 l.length)), (12, (.c TI (m_warmUp ds stages s micro))), (13, (.c TI m))], [(0, (.sl 151 ctIns true l))], 1⟩
theorem s_Plan_v6 (K : TRes → Prop) (ds : Int) (stages : Int) (s : Int) (micro : Int) (redo : Bool) (l1 : List TIns) (m1 : Int) (h :
  (((l1.length = l1.length) ∧ (p_l9b l1 stages s m1 redo)) ∧ (s_Plan_A4 K ds stages s micro redo (w64 (m1 + (1 : Int))) (List.take ((m_l9Back l1 stages s m1 redo).length) (m_l9Back l1 stages s m1 redo))))) : Hold (s_Plan_A6 K ds stages s micro redo l1 m1) :=
  Hold.of (by kernel_rfl) h
theorem s_Plan_v4 (K : TRes → Prop) (ds : Int) (stages : Int) (s : Int) (micro : Int) (redo : Bool) (m1 : Int) (l2 : List TIns) (h :
  (((decide (m1 < micro)) = true → (((decide ((w64 ((m_warmUp ds stages s micro) + m1)) < micro)) = true → (((l2.length = l2.length) ∧ (p_l9 l2 stages s (w64 ((m_warmUp ds stages s micro) + m1)))) ∧ (s_Plan_A6 K ds stages s micro redo (List.take ((m_l9Ahead l2 stages s (w64 ((m_warmUp ds stages s micro) + m1))).length) (m_l9Ahead l2 stages s (w64 ((m_warmUp ds stages s micro) + m1)))) m1))) ∧ ((decide ((w64 ((m_warmUp ds stages s micro) + m1)) < micro)) = false → (s_Plan_A6 K ds stages s micro redo (List.take l2.length l2) m1)))) ∧ ((decide (m1 < micro)) = false → (((l2.length = l2.length ∨ l2.length + 1 ≤ l2.length) ∧ l2.length + 1 ≤ big) ∧ K (s_Plan_R (List.take (l2.length + 1) ((List.take l2.length l2) ++ ([((8 : Int), (0 : Int))])))))))) : s_Plan_A4 K ds stages s micro redo m1 l2 :=
  Loop.of (by kernel_rfl) h
theorem s_Plan_v2 (K : TRes → Prop) (ds : Int) (stages : Int) (s : Int) (micro : Int) (redo : Bool) (m : Int) (l : List TIns) (h :
  (((decide (m < (m_warmUp ds stages s micro))) = true → (((l.length = l.length) ∧ (p_l9 l stages s m)) ∧ (s_Plan_A2 K ds stages s micro redo (w64 (m + (1 : Int))) (List.take ((m_l9Ahead l stages s m).length) (m_l9Ahead l stages s m))))) ∧ ((decide (m < (m_warmUp ds stages s micro))) = false → (s_Plan_A4 K ds stages s micro redo (0 : Int) (List.take l.length l))))) : s_Plan_A2 K ds stages s micro redo m l :=
  Loop.of (by kernel_rfl) h
theorem s_Plan_v0 (K : TRes → Prop) (ds : Int) (stages : Int) (s : Int) (micro : Int) (redo : Bool) (h :
  ((((((!(m_in ds (1 : Int) (2 : Int))) || (!(m_in stages (1 : Int) (4 : Int)))) || (!(m_in s (0 : Int) (w64 (stages - (1 : Int)))))) || (!(m_in micro (1 : Int) (5 : Int)))) = true → K (s_Plan_R ([] : List TIns))) ∧ (((((!(m_in ds (1 : Int) (2 : Int))) || (!(m_in stages (1 : Int) (4 : Int)))) || (!(m_in s (0 : Int) (w64 (stages - (1 : Int)))))) || (!(m_in micro (1 : Int) (5 : Int)))) = false → (s_Plan_A2 K ds stages s micro redo (0 : Int) ([] : List TIns))))) : Hold (tawp s_Plan_G (0 + 0) s_Plan_c (TQ 0 0 s_Plan_rs K) (tstart [(.c TI ds), (.c TI stages), (.c TI s), (.c TI micro), (.c .bool redo)])) :=
  Hold.of (by kernel_rfl) h
theorem s_Plan_t (ds : Int) (stages : Int) (s : Int) (micro : Int) (redo : Bool) (r : TRes) (h : Hold (tawp s_Plan_G (0 + 0) s_Plan_c (TQ 0 0 s_Plan_rs fun r' => r' = r) (tstart [(.c TI ds), (.c TI stages), (.c TI s), (.c TI micro), (.c .bool redo)]))) : TCon Try.prog 17 [(.c TI ds), (.c TI stages), (.c TI s), (.c TI micro), (.c .bool redo)] r :=
  tcon_gen (sg := [(.c TI), (.c TI), (.c TI), (.c TI), (.c .bool)]) mixed (TOk.cons s_l1In_ok (TOk.cons s_WarmUp_ok (TOk.cons s_l9Ahead_ok (TOk.cons s_l9Back_ok TOk.nil)))) s_Plan_st (by kernel_rfl) (by kernel_rfl) (by kernel_rfl) (by kernel_rfl) h
theorem s_Plan_h : s_Plan_C := by
  intro ds stages s micro redo
  refine tcon_bd rfl fun hb => s_Plan_t ds stages s micro redo _ (s_Plan_v0 _ ds stages s micro redo ?_)
  rw [guard_plan]
  by_cases hp : (m_in ds 1 2 && m_planned stages s micro) = true
  case neg =>
    rw [show (m_in ds 1 2 && m_planned stages s micro) = false by simpa using hp]
    exact ⟨fun _ => R_eq (plan_nil hp).symm, fun h => by simp at h⟩
  rw [hp]
  refine ⟨fun h => by simp at h, fun _ => ?_⟩
  have hq : m_planned stages s micro = true := by simp only [Bool.and_eq_true] at hp; exact hp.2
  have hr := planned_iff.1 hq
  have hM := plan_eq (redo := redo) hp
  obtain ⟨w, hw⟩ : ∃ w : Nat, m_warmUp ds stages s micro = w := ⟨_, (Int.toNat_of_nonneg (warm_rng hq).1).symm⟩
  have hw5 := (warm_rng (ds := ds) hq).2
  rw [hw] at hM hw5
  rw [Int.toNat_natCast] at hM
  refine upLoop w (fun k => s_Plan_A2 (fun r' => r' = s_Plan_R (m_plan ds stages s micro redo)) ds stages s micro redo (k : Int) (aheadTo stages s k)) ?_ ?_
  · refine s_Plan_v2 (fun r' => r' = s_Plan_R (m_plan ds stages s micro redo)) ds stages s micro redo _ _ ⟨fun h => by simp [hw] at h, fun _ => ?_⟩
    rw [List.take_length]
    suffices h : s_Plan_A4 (fun r' => r' = s_Plan_R (m_plan ds stages s micro redo)) ds stages s micro redo ((0 : Nat) : Int) (aheadTo stages s w ++ backTo stages s micro redo w 0) by
      rw [show backTo stages s micro redo w 0 = [] from rfl, List.append_nil] at h; exact h
    refine upLoop micro.toNat (fun k => s_Plan_A4 (fun r' => r' = s_Plan_R (m_plan ds stages s micro redo)) ds stages s micro redo (k : Int) (aheadTo stages s w ++ backTo stages s micro redo w k)) ?_ ?_
    · have h1 := aheadTo_le stages s w
      have h2 := backTo_le stages s micro redo w micro.toNat
      refine s_Plan_v4 (fun r' => r' = s_Plan_R (m_plan ds stages s micro redo)) ds stages s micro redo _ _ ⟨fun h => by simp at h; omega, fun _ => ⟨⟨.inl rfl, by rw [List.length_append, big_eq]; omega⟩, R_eq ?_⟩⟩
      rw [take_app1, hM]
    · intro k hk ih
      have h1 := aheadTo_le stages s w
      have h2 := backTo_le stages s micro redo w k
      have key : ∀ l : List TIns, l = aheadTo stages s w ++ backTo stages s micro redo w k ++ (if (k : Int) + w < micro then m_ahead stages s ((k : Int) + w) else []) → s_Plan_A6 (fun r' => r' = s_Plan_R (m_plan ds stages s micro redo)) ds stages s micro redo l (k : Int) := by
        intro l hl
        have h3 := bof_len stages s k redo
        have h4 := ahead_len stages s ((k : Int) + w)
        have h5 : l.length ≤ 1000 := by rw [hl]; split <;> simp only [List.length_append, List.length_nil] <;> omega
        refine (s_Plan_v6 (fun r' => r' = s_Plan_R (m_plan ds stages s micro redo)) ds stages s micro redo l _ ⟨⟨rfl, ⟨by omega, by omega⟩, by omega⟩, ?_⟩).h
        rw [List.take_length, sc1 (by omega)]
        rw [backTo_snoc] at ih
        unfold m_l9Back
        rw [hl, List.append_assoc, List.append_assoc]
        unfold step2 at ih
        exact ih
      refine s_Plan_v4 (fun r' => r' = s_Plan_R (m_plan ds stages s micro redo)) ds stages s micro redo _ _ ⟨fun _ => ?_, fun h => by simp at h; omega⟩
      rw [hw, Int.add_comm (w : Int) k, w64_ok (x := (k : Int) + w) (by omega) (by omega)]
      have h4 := ahead_len stages s ((k : Int) + w)
      refine ⟨fun h => ⟨⟨rfl, ⟨by omega, by omega⟩, by rw [List.length_append]; omega⟩, key _ ?_⟩, fun h => key _ ?_⟩
      · rw [List.take_length, if_pos (of_decide_eq_true h)]; rfl
      · rw [if_neg (of_decide_eq_false h), List.take_length, List.append_nil]
  · intro k hk ih
    have h1 := aheadTo_le stages s k
    have h4 := ahead_len stages s k
    refine s_Plan_v2 (fun r' => r' = s_Plan_R (m_plan ds stages s micro redo)) ds stages s micro redo _ _ ⟨fun _ => ⟨⟨rfl, ⟨by omega, by omega⟩, by omega⟩, ?_⟩, fun h => by simp [hw] at h; omega⟩
    rw [List.take_length, sc1 (by omega)]
    rw [aheadTo_snoc] at ih
    exact ih

theorem s_Plan_ok : TRowOk Try.prog s_Plan_row := rowOk fun x _ => s_Plan_h x.1 x.2.1 x.2.2.1 x.2.2.2.1 x.2.2.2.2.1

end
end Go.Proofs.Ytephkbajoofeoaa.Am
