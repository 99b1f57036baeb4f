/-
  Written by program: the code of functions, what it asks, and that it comes to what the models say.
-/
import Derived.Test.YtephkbajoofeoaaH2
import Derived.Test.YtephkbajoofeoaaH1
namespace Go.Proofs.Ytephkbajoofeoaa.Am
open Go Go.RowKit Go.Proofs.Ytephkbajoofeoaa
set_option linter.unusedVariables false
set_option linter.unusedSimpArgs false
noncomputable section

def l_szConfig_R (t : Int) : TRes := ⟨(.c TI t), [], [], false, []⟩
def l_szConfig_row : TRow := mkRow 77 [(.a ctConfig), (.c TI)] fun x => (some (p_sz (α := TConfig) x.1 x.2.1), l_szConfig_R (m_sz (α := TConfig) x.1 x.2.1))
def l_szConfig_C : Prop := ∀ (x0 : TConfig) (x1 : Int), (p_sz (α := TConfig) x0 x1) → TCon Try.prog 77 [(.a (Tup.cells ctConfig x0)), (.c TI x1)] (l_szConfig_R (m_sz (α := TConfig) x0 x1))

/-! laws.szConfig -/
def l_szConfig_G : List TRow := [l_szModel_row, l_szIntS_row, l_szBoolS_row]
def l_szConfig_c : TCode :=
  (.seq (.reg [.op (some 2) (.box 111 (.s 0) 6),
    .op (some 4) (.mov (.k (.c TI (0 : Int))))])
 (.seq (.reg [.op (some 5) (.fad (.s 2) 0),
     .op (some 6) (.load (.s 5) 1 true),
     .op (some 7) (.mov (.s 1)),
     .op (some 8) (.call 63 [(.s 6), (.s 7)]),
     .op (some 1) (.mov (.s 8))])
  (.seq (.seq (.reg [.op (some 9) (.mov (.s 1)),
       .op (some 10) (.bin .lss (.s 9) (.k (.c TI (0 : Int))))])
    (.cond (.s 10) (.seq (.reg [.op (some 4) (.mov (.k (.c TI (-1 : Int))))])
      .ret) .skip))
   (.seq (.reg [.op (some 11) (.fad (.s 2) 1),
       .op (some 12) (.load (.s 11) 1 false),
       .op (some 13) (.mov (.s 1)),
       .op (some 14) (.call 124 [(.s 12), (.s 13)]),
       .op (some 1) (.mov (.s 14))])
    (.seq (.seq (.reg [.op (some 15) (.mov (.s 1)),
         .op (some 16) (.bin .lss (.s 15) (.k (.c TI (0 : Int))))])
      (.cond (.s 16) (.seq (.reg [.op (some 4) (.mov (.k (.c TI (-1 : Int))))])
        .ret) .skip))
     (.seq (.reg [.op (some 17) (.fad (.s 2) 3),
         .op (some 18) (.load (.s 17) 1 false),
         .op (some 19) (.mov (.s 1)),
         .op (some 20) (.call 147 [(.s 18), (.s 19)]),
         .op (some 1) (.mov (.s 20))])
      (.seq (.seq (.reg [.op (some 21) (.mov (.s 1)),
           .op (some 22) (.bin .lss (.s 21) (.k (.c TI (0 : Int))))])
        (.cond (.s 22) (.seq (.reg [.op (some 4) (.mov (.k (.c TI (-1 : Int))))])
          .ret) .skip))
       (.seq (.reg [.op (some 23) (.fad (.s 2) 4),
           .op (some 24) (.load (.s 23) 1 false),
           .op (some 25) (.mov (.s 1)),
           .op (some 26) (.call 124 [(.s 24), (.s 25)]),
           .op (some 1) (.mov (.s 26))])
        (.seq (.seq (.reg [.op (some 27) (.mov (.s 1)),
             .op (some 28) (.bin .lss (.s 27) (.k (.c TI (0 : Int))))])
          (.cond (.s 28) (.seq (.reg [.op (some 4) (.mov (.k (.c TI (-1 : Int))))])
            .ret) .skip))
         (.seq (.reg [.op (some 29) (.fad (.s 2) 5),
             .op (some 30) (.load (.s 29) 1 false),
             .op (some 31) (.mov (.s 1)),
             .op (some 32) (.call 124 [(.s 30), (.s 31)]),
             .op (some 1) (.mov (.s 32))])
          (.seq (.seq (.reg [.op (some 33) (.mov (.s 1)),
               .op (some 34) (.bin .lss (.s 33) (.k (.c TI (0 : Int))))])
            (.cond (.s 34) (.seq (.reg [.op (some 4) (.mov (.k (.c TI (-1 : Int))))])
              .ret) .skip))
           (.seq (.reg [.op (some 35) (.mov (.s 1)),
               .op (some 4) (.mov (.s 35))])
            .ret))))))))))))
def l_szConfig_rs : List (ARv × Md) := [(.t 4, .one .d)]
theorem l_szConfig_st : compF Try.prog 77 = some (l_szConfig_c.er, l_szConfig_rs.map Prod.fst, 36) := by kernel_rfl
def l_szConfig_Q (K : TRes → Prop) : TPost := TQ 0 0 l_szConfig_rs K
theorem l_szConfig_v0 (K : TRes → Prop) (a : TConfig) (left : Int) (h :
  ((p_sz (α := List TOp') a.1 left) ∧ (((decide ((m_sz (α := List TOp') a.1 left) < (0 : Int))) = true → K (l_szConfig_R (-1 : Int))) ∧ ((decide ((m_sz (α := List TOp') a.1 left) < (0 : Int))) = false → ((p_sz (α := List Int) a.2.1 (m_sz (α := List TOp') a.1 left)) ∧ (((decide ((m_sz (α := List Int) a.2.1 (m_sz (α := List TOp') a.1 left)) < (0 : Int))) = true → K (l_szConfig_R (-1 : Int))) ∧ ((decide ((m_sz (α := List Int) a.2.1 (m_sz (α := List TOp') a.1 left)) < (0 : Int))) = false → ((p_sz (α := List Bool) a.2.2.2.1 (m_sz (α := List Int) a.2.1 (m_sz (α := List TOp') a.1 left))) ∧ (((decide ((m_sz (α := List Bool) a.2.2.2.1 (m_sz (α := List Int) a.2.1 (m_sz (α := List TOp') a.1 left))) < (0 : Int))) = true → K (l_szConfig_R (-1 : Int))) ∧ ((decide ((m_sz (α := List Bool) a.2.2.2.1 (m_sz (α := List Int) a.2.1 (m_sz (α := List TOp') a.1 left))) < (0 : Int))) = false → ((p_sz (α := List Int) a.2.2.2.2.1 (m_sz (α := List Bool) a.2.2.2.1 (m_sz (α := List Int) a.2.1 (m_sz (α := List TOp') a.1 left)))) ∧ (((decide ((m_sz (α := List Int) a.2.2.2.2.1 (m_sz (α := List Bool) a.2.2.2.1 (m_sz (α := List Int) a.2.1 (m_sz (α := List TOp') a.1 left)))) < (0 : Int))) = true → K (l_szConfig_R (-1 : Int))) ∧ ((decide ((m_sz (α := List Int) a.2.2.2.2.1 (m_sz (α := List Bool) a.2.2.2.1 (m_sz (α := List Int) a.2.1 (m_sz (α := List TOp') a.1 left)))) < (0 : Int))) = false → ((p_sz (α := List Int) a.2.2.2.2.2 (m_sz (α := List Int) a.2.2.2.2.1 (m_sz (α := List Bool) a.2.2.2.1 (m_sz (α := List Int) a.2.1 (m_sz (α := List TOp') a.1 left))))) ∧ (((decide ((m_sz (α := List Int) a.2.2.2.2.2 (m_sz (α := List Int) a.2.2.2.2.1 (m_sz (α := List Bool) a.2.2.2.1 (m_sz (α := List Int) a.2.1 (m_sz (α := List TOp') a.1 left))))) < (0 : Int))) = true → K (l_szConfig_R (-1 : Int))) ∧ ((decide ((m_sz (α := List Int) a.2.2.2.2.2 (m_sz (α := List Int) a.2.2.2.2.1 (m_sz (α := List Bool) a.2.2.2.1 (m_sz (α := List Int) a.2.1 (m_sz (α := List TOp') a.1 left))))) < (0 : Int))) = false → K (l_szConfig_R (m_sz (α := List Int) a.2.2.2.2.2 (m_sz (α := List Int) a.2.2.2.2.1 (m_sz (α := List Bool) a.2.2.2.1 (m_sz (α := List Int) a.2.1 (m_sz (α := List TOp') a.1 left)))))))))))))))))))))) : Hold (tawp l_szConfig_G (0 + 0) l_szConfig_c (TQ 0 0 l_szConfig_rs K) (tstart [(.a (Tup.cells ctConfig a)), (.c TI left)])) :=
  Hold.of (by kernel_rfl) h
theorem l_szConfig_t (a : TConfig) (left : Int) (r : TRes) (h : Hold (tawp l_szConfig_G (0 + 0) l_szConfig_c (TQ 0 0 l_szConfig_rs fun r' => r' = r) (tstart [(.a (Tup.cells ctConfig a)), (.c TI left)]))) : TCon Try.prog 77 [(.a (Tup.cells ctConfig a)), (.c TI left)] r :=
  tcon_gen (sg := [(.a ctConfig), (.c TI)]) mixed (TOk.cons l_szModel_ok (TOk.cons l_szIntS_ok (TOk.cons l_szBoolS_ok TOk.nil))) l_szConfig_st (by kernel_rfl) (by kernel_rfl) (by kernel_rfl) (by kernel_rfl) h
theorem l_szConfig_h : l_szConfig_C := by
  intro a left hp
  refine tcon_bd rfl fun hb => l_szConfig_t a left _ (l_szConfig_v0 _ a left ?_)
  refine ⟨hp, fun h => R_eq (sz_neg (of_decide_eq_true h) (by first | omega | (simp only [sz_prod, sz_int, sz_bool]; omega)) hp.1), fun h => ?_⟩
  rw [sz_step (Int.not_lt.1 (of_decide_eq_false h))]
  refine ⟨pl_szN hp, fun h => R_eq (sz_neg (of_decide_eq_true h) (by first | omega | (simp only [sz_prod, sz_int, sz_bool]; omega)) hp.1), fun h => ?_⟩
  rw [sz_step (Int.not_lt.1 (of_decide_eq_false h))]
  refine ⟨pl_szN hp, fun h => R_eq (sz_neg (of_decide_eq_true h) (by first | omega | (simp only [sz_prod, sz_int, sz_bool]; omega)) hp.1), fun h => ?_⟩
  rw [sz_step (Int.not_lt.1 (of_decide_eq_false h))]
  refine ⟨pl_szN hp, fun h => R_eq (sz_neg (of_decide_eq_true h) (by first | omega | (simp only [sz_prod, sz_int, sz_bool]; omega)) hp.1), fun h => ?_⟩
  rw [sz_step (Int.not_lt.1 (of_decide_eq_false h))]
  refine ⟨pl_szN hp, fun h => R_eq (sz_neg (of_decide_eq_true h) (by first | omega | (simp only [sz_prod, sz_int, sz_bool]; omega)) hp.1), fun h => ?_⟩
  exact R_eq (congrArg (m_szN · _) (by first | rfl | omega | (simp only [sz_prod, sz_int, sz_bool]; omega)))

theorem l_szConfig_ok : TRowOk Try.prog l_szConfig_row := rowOk fun x h => l_szConfig_h x.1 x.2.1 h

def l_toConfig_R (t : TConfig) : TRes := ⟨(.a (Tup.cells ctConfig t)), [], [], true, []⟩
def l_toConfig_row : TRow := mkRow 79 [(.a ctConfig)] fun x => (some (p_to (α := TConfig) x.1), l_toConfig_R (id (α := TConfig) x.1))
def l_toConfig_C : Prop := ∀ (x0 : TConfig), (p_to (α := TConfig) x0) → TCon Try.prog 79 [(.a (Tup.cells ctConfig x0))] (l_toConfig_R (id (α := TConfig) x0))

/-! laws.toConfig -/
def l_toConfig_G : List TRow := [l_toModel_row, l_toIntS_row, l_toBoolS_row]
def l_toConfig_c : TCode :=
  (.seq (.reg [.op (some 1) (.box 111 (.s 0) 6),
    .op (some 2) (.new 103 [(.n ctOp), (.n [TI]), (.c TI (0 : Int)), (.n [.bool]), (.n [TI]), (.n [TI])])])
 (.seq (.reg [.op (some 3) (.new 103 [(.n ctOp), (.n [TI]), (.c TI (0 : Int)), (.n [.bool]), (.n [TI]), (.n [TI])])])
  (.seq (.reg [.op (some 4) (.fad (.s 1) 0),
      .op (some 5) (.load (.s 4) 1 true),
      .op (some 6) (.call 65 [(.s 5)]),
      .op (some 7) (.fad (.s 3) 0),
      .op none (.store (.s 7) (.s 6) 1)])
   (.seq (.reg [.op (some 8) (.fad (.s 1) 1),
       .op (some 9) (.load (.s 8) 1 false),
       .op (some 10) (.call 127 [(.s 9)]),
       .op (some 11) (.fad (.s 3) 1),
       .op none (.store (.s 11) (.s 10) 1)])
    (.seq (.reg [.op (some 12) (.fad (.s 1) 2),
        .op (some 13) (.load (.s 12) 1 false),
        .op (some 14) (.fad (.s 3) 2),
        .op none (.store (.s 14) (.s 13) 1)])
     (.seq (.reg [.op (some 15) (.fad (.s 1) 3),
         .op (some 16) (.load (.s 15) 1 false),
         .op (some 17) (.call 149 [(.s 16)]),
         .op (some 18) (.fad (.s 3) 3),
         .op none (.store (.s 18) (.s 17) 1)])
      (.seq (.reg [.op (some 19) (.fad (.s 1) 4),
          .op (some 20) (.load (.s 19) 1 false),
          .op (some 21) (.call 127 [(.s 20)]),
          .op (some 22) (.fad (.s 3) 4),
          .op none (.store (.s 22) (.s 21) 1)])
       (.seq (.reg [.op (some 23) (.fad (.s 1) 5),
           .op (some 24) (.load (.s 23) 1 false),
           .op (some 25) (.call 127 [(.s 24)]),
           .op (some 26) (.fad (.s 3) 5),
           .op none (.store (.s 26) (.s 25) 1)])
        (.seq (.reg [.op (some 27) (.load (.s 3) 6 true),
            .op none (.store (.s 2) (.s 27) 6)])
         .ret)))))))))
def l_toConfig_rs : List (ARv × Md) := [(.l 2 6 true, .b [.d, .d, .d, .d, .d, .d])]
theorem l_toConfig_st : compF Try.prog 79 = some (l_toConfig_c.er, l_toConfig_rs.map Prod.fst, 28) := by kernel_rfl
def l_toConfig_Q (K : TRes → Prop) : TPost := TQ 0 0 l_toConfig_rs K
theorem l_toConfig_v0 (K : TRes → Prop) (a : TConfig) (h :
  ((p_to (α := List TOp') a.1) ∧ ((p_to (α := List Int) a.2.1) ∧ ((p_to (α := List Bool) a.2.2.2.1) ∧ ((p_to (α := List Int) a.2.2.2.2.1) ∧ ((p_to (α := List Int) a.2.2.2.2.2) ∧ K (l_toConfig_R ((id (α := List TOp') a.1), (id (α := List Int) a.2.1), a.2.2.1, (id (α := List Bool) a.2.2.2.1), (id (α := List Int) a.2.2.2.2.1), (id (α := List Int) a.2.2.2.2.2))))))))) : Hold (tawp l_toConfig_G (0 + 0) l_toConfig_c (TQ 0 0 l_toConfig_rs K) (tstart [(.a (Tup.cells ctConfig a))])) :=
  Hold.of (by kernel_rfl) h
theorem l_toConfig_t (a : TConfig) (r : TRes) (h : Hold (tawp l_toConfig_G (0 + 0) l_toConfig_c (TQ 0 0 l_toConfig_rs fun r' => r' = r) (tstart [(.a (Tup.cells ctConfig a))]))) : TCon Try.prog 79 [(.a (Tup.cells ctConfig a))] r :=
  tcon_gen (sg := [(.a ctConfig)]) mixed (TOk.cons l_toModel_ok (TOk.cons l_toIntS_ok (TOk.cons l_toBoolS_ok TOk.nil))) l_toConfig_st (by kernel_rfl) (by kernel_rfl) (by kernel_rfl) (by kernel_rfl) h
theorem l_toConfig_h : l_toConfig_C := by
  intro a hp
  refine tcon_bd rfl fun hb => l_toConfig_t a _ (l_toConfig_v0 _ a ?_)
  repeat' (first | exact rfl | refine And.intro ?_ ?_)
  all_goals (simp only [p_to, sz_prod, sz_int, sz_bool] at hp ⊢; omega)

theorem l_toConfig_ok : TRowOk Try.prog l_toConfig_row := rowOk fun x h => l_toConfig_h x.1 h

def l_eqConfig_R (t : Bool) : TRes := ⟨(.c .bool t), [], [], false, []⟩
def l_eqConfig_row : TRow := mkRow 81 [(.a ctConfig), (.a ctConfig)] fun x => (none, l_eqConfig_R (m_eq (α := TConfig) x.1 x.2.1))
def l_eqConfig_C : Prop := ∀ (x0 : TConfig) (x1 : TConfig), TCon Try.prog 81 [(.a (Tup.cells ctConfig x0)), (.a (Tup.cells ctConfig x1))] (l_eqConfig_R (m_eq (α := TConfig) x0 x1))

/-! laws.eqConfig -/
def l_eqConfig_G : List TRow := [l_eqModel_row, l_eqIntS_row, l_eqBoolS_row]
def l_eqConfig_c : TCode :=
  (.seq (.reg [.op (some 2) (.box 103 (.s 0) 6),
    .op (some 3) (.box 103 (.s 1) 6),
    .op (some 4) (.mov (.k (.c .bool false)))])
 (.seq (.seq (.reg [.op (some 5) (.fad (.s 2) 0),
      .op (some 6) (.load (.s 5) 1 true),
      .op (some 7) (.fad (.s 3) 0),
      .op (some 8) (.load (.s 7) 1 true),
      .op (some 9) (.call 67 [(.s 6), (.s 8)]),
      .op (some 10) (.not (.s 9))])
   (.cond (.s 10) (.seq (.reg [.op (some 4) (.mov (.k (.c .bool false)))])
     .ret) .skip))
  (.seq (.seq (.reg [.op (some 11) (.fad (.s 2) 1),
       .op (some 12) (.load (.s 11) 1 false),
       .op (some 13) (.fad (.s 3) 1),
       .op (some 14) (.load (.s 13) 1 false),
       .op (some 15) (.call 66 [(.s 12), (.s 14)]),
       .op (some 16) (.not (.s 15))])
    (.cond (.s 16) (.seq (.reg [.op (some 4) (.mov (.k (.c .bool false)))])
      .ret) .skip))
   (.seq (.seq (.reg [.op (some 17) (.fad (.s 2) 2),
        .op (some 18) (.load (.s 17) 1 false),
        .op (some 19) (.fad (.s 3) 2),
        .op (some 20) (.load (.s 19) 1 false),
        .op (some 21) (.bin .neq (.s 18) (.s 20))])
     (.cond (.s 21) (.seq (.reg [.op (some 4) (.mov (.k (.c .bool false)))])
       .ret) .skip))
    (.seq (.seq (.reg [.op (some 22) (.fad (.s 2) 3),
         .op (some 23) (.load (.s 22) 1 false),
         .op (some 24) (.fad (.s 3) 3),
         .op (some 25) (.load (.s 24) 1 false),
         .op (some 26) (.call 150 [(.s 23), (.s 25)]),
         .op (some 27) (.not (.s 26))])
      (.cond (.s 27) (.seq (.reg [.op (some 4) (.mov (.k (.c .bool false)))])
        .ret) .skip))
     (.seq (.seq (.reg [.op (some 28) (.fad (.s 2) 4),
          .op (some 29) (.load (.s 28) 1 false),
          .op (some 30) (.fad (.s 3) 4),
          .op (some 31) (.load (.s 30) 1 false),
          .op (some 32) (.call 66 [(.s 29), (.s 31)]),
          .op (some 33) (.not (.s 32))])
       (.cond (.s 33) (.seq (.reg [.op (some 4) (.mov (.k (.c .bool false)))])
         .ret) .skip))
      (.seq (.seq (.reg [.op (some 34) (.fad (.s 2) 5),
           .op (some 35) (.load (.s 34) 1 false),
           .op (some 36) (.fad (.s 3) 5),
           .op (some 37) (.load (.s 36) 1 false),
           .op (some 38) (.call 66 [(.s 35), (.s 37)]),
           .op (some 39) (.not (.s 38))])
        (.cond (.s 39) (.seq (.reg [.op (some 4) (.mov (.k (.c .bool false)))])
          .ret) .skip))
       (.seq (.reg [.op (some 4) (.mov (.k (.c .bool true)))])
        .ret))))))))
def l_eqConfig_rs : List (ARv × Md) := [(.t 4, .one .d)]
theorem l_eqConfig_st : compF Try.prog 81 = some (l_eqConfig_c.er, l_eqConfig_rs.map Prod.fst, 40) := by kernel_rfl
def l_eqConfig_Q (K : TRes → Prop) : TPost := TQ 0 0 l_eqConfig_rs K
theorem l_eqConfig_v0 (K : TRes → Prop) (a : TConfig) (b : TConfig) (h :
  (((!(m_eq (α := List TOp') a.1 b.1)) = true → K (l_eqConfig_R false)) ∧ ((!(m_eq (α := List TOp') a.1 b.1)) = false → (((!(m_eq (α := List Int) a.2.1 b.2.1)) = true → K (l_eqConfig_R false)) ∧ ((!(m_eq (α := List Int) a.2.1 b.2.1)) = false → (((a.2.2.1 != b.2.2.1) = true → K (l_eqConfig_R false)) ∧ ((a.2.2.1 != b.2.2.1) = false → (((!(m_eq (α := List Bool) a.2.2.2.1 b.2.2.2.1)) = true → K (l_eqConfig_R false)) ∧ ((!(m_eq (α := List Bool) a.2.2.2.1 b.2.2.2.1)) = false → (((!(m_eq (α := List Int) a.2.2.2.2.1 b.2.2.2.2.1)) = true → K (l_eqConfig_R false)) ∧ ((!(m_eq (α := List Int) a.2.2.2.2.1 b.2.2.2.2.1)) = false → (((!(m_eq (α := List Int) a.2.2.2.2.2 b.2.2.2.2.2)) = true → K (l_eqConfig_R false)) ∧ ((!(m_eq (α := List Int) a.2.2.2.2.2 b.2.2.2.2.2)) = false → K (l_eqConfig_R true)))))))))))))) : Hold (tawp l_eqConfig_G (0 + 0) l_eqConfig_c (TQ 0 0 l_eqConfig_rs K) (tstart [(.a (Tup.cells ctConfig a)), (.a (Tup.cells ctConfig b))])) :=
  Hold.of (by kernel_rfl) h
theorem l_eqConfig_t (a : TConfig) (b : TConfig) (r : TRes) (h : Hold (tawp l_eqConfig_G (0 + 0) l_eqConfig_c (TQ 0 0 l_eqConfig_rs fun r' => r' = r) (tstart [(.a (Tup.cells ctConfig a)), (.a (Tup.cells ctConfig b))]))) : TCon Try.prog 81 [(.a (Tup.cells ctConfig a)), (.a (Tup.cells ctConfig b))] r :=
  tcon_gen (sg := [(.a ctConfig), (.a ctConfig)]) mixed (TOk.cons l_eqModel_ok (TOk.cons l_eqIntS_ok (TOk.cons l_eqBoolS_ok TOk.nil))) l_eqConfig_st (by kernel_rfl) (by kernel_rfl) (by kernel_rfl) (by kernel_rfl) h
theorem l_eqConfig_h : l_eqConfig_C := by
  intro a b
  refine tcon_bd rfl fun hb => l_eqConfig_t a b _ (l_eqConfig_v0 _ a b ?_)
  refine ⟨fun h => R_eq (Eq.symm (decide_eq_false (by rintro rfl; simp [m_eq] at h))), fun h0 => ?_⟩
  refine ⟨fun h => R_eq (Eq.symm (decide_eq_false (by rintro rfl; simp [m_eq] at h))), fun h1 => ?_⟩
  refine ⟨fun h => R_eq (Eq.symm (decide_eq_false (by rintro rfl; simp [m_eq] at h))), fun h2 => ?_⟩
  refine ⟨fun h => R_eq (Eq.symm (decide_eq_false (by rintro rfl; simp [m_eq] at h))), fun h3 => ?_⟩
  refine ⟨fun h => R_eq (Eq.symm (decide_eq_false (by rintro rfl; simp [m_eq] at h))), fun h4 => ?_⟩
  refine ⟨fun h => R_eq (Eq.symm (decide_eq_false (by rintro rfl; simp [m_eq] at h))), fun h5 => ?_⟩
  refine R_eq (Eq.symm (decide_eq_true ?_))
  simp [m_eq] at h0 h1 h2 h3 h4 h5
  simp [Prod.ext_iff, *]

theorem l_eqConfig_ok : TRowOk Try.prog l_eqConfig_row := rowOk fun x _ => l_eqConfig_h x.1 x.2.1

end
end Go.Proofs.Ytephkbajoofeoaa.Am
