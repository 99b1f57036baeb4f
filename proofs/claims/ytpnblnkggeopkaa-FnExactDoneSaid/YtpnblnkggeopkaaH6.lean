/-
  Written by program: the code of functions, what it asks, and that it comes to what the models say.
-/
import Derived.Test.YtpnblnkggeopkaaH1
import Derived.Test.YtpnblnkggeopkaaH5
import Derived.Test.YtpnblnkggeopkaaH3
namespace Go.Proofs.Ytpnblnkggeopkaa.Am
open Go Go.RowKit Go.Proofs.Ytpnblnkggeopkaa
set_option linter.unusedVariables false
set_option linter.unusedSimpArgs false
noncomputable section

def l_szPipe_R (t : Int) : TRes := ⟨(.c TI t), [], [], false⟩
def l_szPipe_row : TRow := mkRow 92 [(.a ctPipe), (.c TI)] fun x => (some (p_sz (α := TPipe) x.1 x.2.1), l_szPipe_R (m_sz (α := TPipe) x.1 x.2.1))
def l_szPipe_C : Prop := ∀ (x0 : TPipe) (x1 : Int), (p_sz (α := TPipe) x0 x1) → TCon Try.prog 92 [(.a (Tup.cells ctPipe x0)), (.c TI x1)] (l_szPipe_R (m_sz (α := TPipe) x0 x1))

/-! laws.szPipe -/
def l_szPipe_G : List TRow := [l_szPairS_row, l_szStageS_row, l_szQueueS_row]
def l_szPipe_c : TCode :=
  (.seq (.reg [.op (some 2) (.box 117 (.s 0) 4),
    .op (some 4) (.mov (.k (.c TI (0 : Int))))])
 (.seq (.reg [.op (some 5) (.fad (.s 2) 0),
     .op (some 6) (.load (.s 5) 1 false),
     .op (some 7) (.mov (.s 1)),
     .op (some 8) (.call 87 [(.s 6), (.s 7)]),
     .op (some 1) (.mov (.s 8))])
  (.seq (.seq (.reg [.op (some 9) (.mov (.s 1)),
       .op (some 10) (.bin .lss (.s 9) (.k (.c TI (0 : Int))))])
    (.cond (.s 10) (.seq (.reg [.op (some 4) (.mov (.k (.c TI (-1 : Int))))])
      .ret) .skip))
   (.seq (.reg [.op (some 11) (.fad (.s 2) 1),
       .op (some 12) (.load (.s 11) 1 false),
       .op (some 13) (.mov (.s 1)),
       .op (some 14) (.call 166 [(.s 12), (.s 13)]),
       .op (some 1) (.mov (.s 14))])
    (.seq (.seq (.reg [.op (some 15) (.mov (.s 1)),
         .op (some 16) (.bin .lss (.s 15) (.k (.c TI (0 : Int))))])
      (.cond (.s 16) (.seq (.reg [.op (some 4) (.mov (.k (.c TI (-1 : Int))))])
        .ret) .skip))
     (.seq (.reg [.op (some 17) (.fad (.s 2) 2),
         .op (some 18) (.load (.s 17) 1 false),
         .op (some 19) (.mov (.s 1)),
         .op (some 20) (.call 167 [(.s 18), (.s 19)]),
         .op (some 1) (.mov (.s 20))])
      (.seq (.seq (.reg [.op (some 21) (.mov (.s 1)),
           .op (some 22) (.bin .lss (.s 21) (.k (.c TI (0 : Int))))])
        (.cond (.s 22) (.seq (.reg [.op (some 4) (.mov (.k (.c TI (-1 : Int))))])
          .ret) .skip))
       (.seq (.reg [.op (some 23) (.fad (.s 2) 3),
           .op (some 24) (.load (.s 23) 1 false),
           .op (some 25) (.mov (.s 1)),
           .op (some 26) (.call 167 [(.s 24), (.s 25)]),
           .op (some 1) (.mov (.s 26))])
        (.seq (.seq (.reg [.op (some 27) (.mov (.s 1)),
             .op (some 28) (.bin .lss (.s 27) (.k (.c TI (0 : Int))))])
          (.cond (.s 28) (.seq (.reg [.op (some 4) (.mov (.k (.c TI (-1 : Int))))])
            .ret) .skip))
         (.seq (.reg [.op (some 29) (.mov (.s 1)),
             .op (some 4) (.mov (.s 29))])
          .ret))))))))))
def l_szPipe_rs : List (ARv × Md) := [(.t 4, .one .d)]
theorem l_szPipe_st : compF Try.prog 92 = some (l_szPipe_c.er, l_szPipe_rs.map Prod.fst, 30) := by kernel_rfl
def l_szPipe_Q (K : TRes → Prop) : TPost := TQ 0 l_szPipe_rs K
theorem l_szPipe_v0 (K : TRes → Prop) (a : TPipe) (left : Int) (h :
  ((p_sz (α := List TPair) a.1 left) ∧ (((decide ((m_sz (α := List TPair) a.1 left) < (0 : Int))) = true → K (l_szPipe_R (-1 : Int))) ∧ ((decide ((m_sz (α := List TPair) a.1 left) < (0 : Int))) = false → ((p_sz (α := List TStage) a.2.1 (m_sz (α := List TPair) a.1 left)) ∧ (((decide ((m_sz (α := List TStage) a.2.1 (m_sz (α := List TPair) a.1 left)) < (0 : Int))) = true → K (l_szPipe_R (-1 : Int))) ∧ ((decide ((m_sz (α := List TStage) a.2.1 (m_sz (α := List TPair) a.1 left)) < (0 : Int))) = false → ((p_sz (α := List TQueue) a.2.2.1 (m_sz (α := List TStage) a.2.1 (m_sz (α := List TPair) a.1 left))) ∧ (((decide ((m_sz (α := List TQueue) a.2.2.1 (m_sz (α := List TStage) a.2.1 (m_sz (α := List TPair) a.1 left))) < (0 : Int))) = true → K (l_szPipe_R (-1 : Int))) ∧ ((decide ((m_sz (α := List TQueue) a.2.2.1 (m_sz (α := List TStage) a.2.1 (m_sz (α := List TPair) a.1 left))) < (0 : Int))) = false → ((p_sz (α := List TQueue) a.2.2.2 (m_sz (α := List TQueue) a.2.2.1 (m_sz (α := List TStage) a.2.1 (m_sz (α := List TPair) a.1 left)))) ∧ (((decide ((m_sz (α := List TQueue) a.2.2.2 (m_sz (α := List TQueue) a.2.2.1 (m_sz (α := List TStage) a.2.1 (m_sz (α := List TPair) a.1 left)))) < (0 : Int))) = true → K (l_szPipe_R (-1 : Int))) ∧ ((decide ((m_sz (α := List TQueue) a.2.2.2 (m_sz (α := List TQueue) a.2.2.1 (m_sz (α := List TStage) a.2.1 (m_sz (α := List TPair) a.1 left)))) < (0 : Int))) = false → K (l_szPipe_R (m_sz (α := List TQueue) a.2.2.2 (m_sz (α := List TQueue) a.2.2.1 (m_sz (α := List TStage) a.2.1 (m_sz (α := List TPair) a.1 left)))))))))))))))))) : Hold (tawp l_szPipe_G 0 l_szPipe_c (TQ 0 l_szPipe_rs K) (tstart [(.a (Tup.cells ctPipe a)), (.c TI left)])) :=
  Hold.of (by kernel_rfl) h
theorem l_szPipe_t (a : TPipe) (left : Int) (r : TRes) (h : Hold (tawp l_szPipe_G 0 l_szPipe_c (TQ 0 l_szPipe_rs fun r' => r' = r) (tstart [(.a (Tup.cells ctPipe a)), (.c TI left)]))) : TCon Try.prog 92 [(.a (Tup.cells ctPipe a)), (.c TI left)] r :=
  tcon_gen (sg := [(.a ctPipe), (.c TI)]) mixed (TOk.cons l_szPairS_ok (TOk.cons l_szStageS_ok (TOk.cons l_szQueueS_ok TOk.nil))) l_szPipe_st (by kernel_rfl) (by kernel_rfl) (by kernel_rfl) h
theorem l_szPipe_h : l_szPipe_C := by
  intro a left hp
  refine tcon_bd rfl fun hb => l_szPipe_t a left _ (l_szPipe_v0 _ a left ?_)
  refine ⟨hp, fun h => R_eq (sz_neg (of_decide_eq_true h) (by first | omega | (simp only [sz_prod, sz_int, sz_bool]; omega)) hp.1), fun h => ?_⟩
  rw [sz_step (Int.not_lt.1 (of_decide_eq_false h))]
  refine ⟨pl_szN hp, fun h => R_eq (sz_neg (of_decide_eq_true h) (by first | omega | (simp only [sz_prod, sz_int, sz_bool]; omega)) hp.1), fun h => ?_⟩
  rw [sz_step (Int.not_lt.1 (of_decide_eq_false h))]
  refine ⟨pl_szN hp, fun h => R_eq (sz_neg (of_decide_eq_true h) (by first | omega | (simp only [sz_prod, sz_int, sz_bool]; omega)) hp.1), fun h => ?_⟩
  rw [sz_step (Int.not_lt.1 (of_decide_eq_false h))]
  refine ⟨pl_szN hp, fun h => R_eq (sz_neg (of_decide_eq_true h) (by first | omega | (simp only [sz_prod, sz_int, sz_bool]; omega)) hp.1), fun h => ?_⟩
  exact R_eq (congrArg (m_szN · _) (by first | rfl | omega | (simp only [sz_prod, sz_int, sz_bool]; omega)))

theorem l_szPipe_ok : TRowOk Try.prog l_szPipe_row := rowOk fun x h => l_szPipe_h x.1 x.2.1 h

def l_toPipe_R (t : TPipe) : TRes := ⟨(.a (Tup.cells ctPipe t)), [], [], true⟩
def l_toPipe_row : TRow := mkRow 94 [(.a ctPipe)] fun x => (some (p_to (α := TPipe) x.1), l_toPipe_R (id (α := TPipe) x.1))
def l_toPipe_C : Prop := ∀ (x0 : TPipe), (p_to (α := TPipe) x0) → TCon Try.prog 94 [(.a (Tup.cells ctPipe x0))] (l_toPipe_R (id (α := TPipe) x0))

/-! laws.toPipe -/
def l_toPipe_G : List TRow := [l_toPairS_row, l_toStageS_row, l_toQueueS_row]
def l_toPipe_c : TCode :=
  (.seq (.reg [.op (some 1) (.box 117 (.s 0) 4),
    .op (some 2) (.new 123 [(.n ctPair), (.n ctStage), (.n ctQueue), (.n ctQueue)])])
 (.seq (.reg [.op (some 3) (.new 123 [(.n ctPair), (.n ctStage), (.n ctQueue), (.n ctQueue)])])
  (.seq (.reg [.op (some 4) (.fad (.s 1) 0),
      .op (some 5) (.load (.s 4) 1 false),
      .op (some 6) (.call 89 [(.s 5)]),
      .op (some 7) (.fad (.s 3) 0),
      .op none (.store (.s 7) (.s 6) 1)])
   (.seq (.reg [.op (some 8) (.fad (.s 1) 1),
       .op (some 9) (.load (.s 8) 1 false),
       .op (some 10) (.call 168 [(.s 9)]),
       .op (some 11) (.fad (.s 3) 1),
       .op none (.store (.s 11) (.s 10) 1)])
    (.seq (.reg [.op (some 12) (.fad (.s 1) 2),
        .op (some 13) (.load (.s 12) 1 false),
        .op (some 14) (.call 169 [(.s 13)]),
        .op (some 15) (.fad (.s 3) 2),
        .op none (.store (.s 15) (.s 14) 1)])
     (.seq (.reg [.op (some 16) (.fad (.s 1) 3),
         .op (some 17) (.load (.s 16) 1 false),
         .op (some 18) (.call 169 [(.s 17)]),
         .op (some 19) (.fad (.s 3) 3),
         .op none (.store (.s 19) (.s 18) 1)])
      (.seq (.reg [.op (some 20) (.load (.s 3) 4 true),
          .op none (.store (.s 2) (.s 20) 4)])
       .ret)))))))
def l_toPipe_rs : List (ARv × Md) := [(.l 2 4 true, .b [.d, .d, .d, .d])]
theorem l_toPipe_st : compF Try.prog 94 = some (l_toPipe_c.er, l_toPipe_rs.map Prod.fst, 21) := by kernel_rfl
def l_toPipe_Q (K : TRes → Prop) : TPost := TQ 0 l_toPipe_rs K
theorem l_toPipe_v0 (K : TRes → Prop) (a : TPipe) (h :
  ((p_to (α := List TPair) a.1) ∧ ((p_to (α := List TStage) a.2.1) ∧ ((p_to (α := List TQueue) a.2.2.1) ∧ ((p_to (α := List TQueue) a.2.2.2) ∧ K (l_toPipe_R ((id (α := List TPair) a.1), (id (α := List TStage) a.2.1), (id (α := List TQueue) a.2.2.1), (id (α := List TQueue) a.2.2.2)))))))) : Hold (tawp l_toPipe_G 0 l_toPipe_c (TQ 0 l_toPipe_rs K) (tstart [(.a (Tup.cells ctPipe a))])) :=
  Hold.of (by kernel_rfl) h
theorem l_toPipe_t (a : TPipe) (r : TRes) (h : Hold (tawp l_toPipe_G 0 l_toPipe_c (TQ 0 l_toPipe_rs fun r' => r' = r) (tstart [(.a (Tup.cells ctPipe a))]))) : TCon Try.prog 94 [(.a (Tup.cells ctPipe a))] r :=
  tcon_gen (sg := [(.a ctPipe)]) mixed (TOk.cons l_toPairS_ok (TOk.cons l_toStageS_ok (TOk.cons l_toQueueS_ok TOk.nil))) l_toPipe_st (by kernel_rfl) (by kernel_rfl) (by kernel_rfl) h
theorem l_toPipe_h : l_toPipe_C := by
  intro a hp
  refine tcon_bd rfl fun hb => l_toPipe_t a _ (l_toPipe_v0 _ a ?_)
  repeat' (first | exact rfl | refine And.intro ?_ ?_)
  all_goals (simp only [p_to, sz_prod, sz_int, sz_bool] at hp ⊢; omega)

theorem l_toPipe_ok : TRowOk Try.prog l_toPipe_row := rowOk fun x h => l_toPipe_h x.1 h

def l_eqPipe_R (t : Bool) : TRes := ⟨(.c .bool t), [], [], false⟩
def l_eqPipe_row : TRow := mkRow 96 [(.a ctPipe), (.a ctPipe)] fun x => (none, l_eqPipe_R (m_eq (α := TPipe) x.1 x.2.1))
def l_eqPipe_C : Prop := ∀ (x0 : TPipe) (x1 : TPipe), TCon Try.prog 96 [(.a (Tup.cells ctPipe x0)), (.a (Tup.cells ctPipe x1))] (l_eqPipe_R (m_eq (α := TPipe) x0 x1))

/-! laws.eqPipe -/
def l_eqPipe_G : List TRow := [l_eqPairS_row, l_eqStageS_row, l_eqQueueS_row]
def l_eqPipe_c : TCode :=
  (.seq (.reg [.op (some 2) (.box 123 (.s 0) 4),
    .op (some 3) (.box 123 (.s 1) 4),
    .op (some 4) (.mov (.k (.c .bool false)))])
 (.seq (.seq (.reg [.op (some 5) (.fad (.s 2) 0),
      .op (some 6) (.load (.s 5) 1 false),
      .op (some 7) (.fad (.s 3) 0),
      .op (some 8) (.load (.s 7) 1 false),
      .op (some 9) (.call 91 [(.s 6), (.s 8)]),
      .op (some 10) (.not (.s 9))])
   (.cond (.s 10) (.seq (.reg [.op (some 4) (.mov (.k (.c .bool false)))])
     .ret) .skip))
  (.seq (.seq (.reg [.op (some 11) (.fad (.s 2) 1),
       .op (some 12) (.load (.s 11) 1 false),
       .op (some 13) (.fad (.s 3) 1),
       .op (some 14) (.load (.s 13) 1 false),
       .op (some 15) (.call 170 [(.s 12), (.s 14)]),
       .op (some 16) (.not (.s 15))])
    (.cond (.s 16) (.seq (.reg [.op (some 4) (.mov (.k (.c .bool false)))])
      .ret) .skip))
   (.seq (.seq (.reg [.op (some 17) (.fad (.s 2) 2),
        .op (some 18) (.load (.s 17) 1 false),
        .op (some 19) (.fad (.s 3) 2),
        .op (some 20) (.load (.s 19) 1 false),
        .op (some 21) (.call 171 [(.s 18), (.s 20)]),
        .op (some 22) (.not (.s 21))])
     (.cond (.s 22) (.seq (.reg [.op (some 4) (.mov (.k (.c .bool false)))])
       .ret) .skip))
    (.seq (.seq (.reg [.op (some 23) (.fad (.s 2) 3),
         .op (some 24) (.load (.s 23) 1 false),
         .op (some 25) (.fad (.s 3) 3),
         .op (some 26) (.load (.s 25) 1 false),
         .op (some 27) (.call 171 [(.s 24), (.s 26)]),
         .op (some 28) (.not (.s 27))])
      (.cond (.s 28) (.seq (.reg [.op (some 4) (.mov (.k (.c .bool false)))])
        .ret) .skip))
     (.seq (.reg [.op (some 4) (.mov (.k (.c .bool true)))])
      .ret))))))
def l_eqPipe_rs : List (ARv × Md) := [(.t 4, .one .d)]
theorem l_eqPipe_st : compF Try.prog 96 = some (l_eqPipe_c.er, l_eqPipe_rs.map Prod.fst, 29) := by kernel_rfl
def l_eqPipe_Q (K : TRes → Prop) : TPost := TQ 0 l_eqPipe_rs K
theorem l_eqPipe_v0 (K : TRes → Prop) (a : TPipe) (b : TPipe) (h :
  (((!(m_eq (α := List TPair) a.1 b.1)) = true → K (l_eqPipe_R false)) ∧ ((!(m_eq (α := List TPair) a.1 b.1)) = false → (((!(m_eq (α := List TStage) a.2.1 b.2.1)) = true → K (l_eqPipe_R false)) ∧ ((!(m_eq (α := List TStage) a.2.1 b.2.1)) = false → (((!(m_eq (α := List TQueue) a.2.2.1 b.2.2.1)) = true → K (l_eqPipe_R false)) ∧ ((!(m_eq (α := List TQueue) a.2.2.1 b.2.2.1)) = false → (((!(m_eq (α := List TQueue) a.2.2.2 b.2.2.2)) = true → K (l_eqPipe_R false)) ∧ ((!(m_eq (α := List TQueue) a.2.2.2 b.2.2.2)) = false → K (l_eqPipe_R true)))))))))) : Hold (tawp l_eqPipe_G 0 l_eqPipe_c (TQ 0 l_eqPipe_rs K) (tstart [(.a (Tup.cells ctPipe a)), (.a (Tup.cells ctPipe b))])) :=
  Hold.of (by kernel_rfl) h
theorem l_eqPipe_t (a : TPipe) (b : TPipe) (r : TRes) (h : Hold (tawp l_eqPipe_G 0 l_eqPipe_c (TQ 0 l_eqPipe_rs fun r' => r' = r) (tstart [(.a (Tup.cells ctPipe a)), (.a (Tup.cells ctPipe b))]))) : TCon Try.prog 96 [(.a (Tup.cells ctPipe a)), (.a (Tup.cells ctPipe b))] r :=
  tcon_gen (sg := [(.a ctPipe), (.a ctPipe)]) mixed (TOk.cons l_eqPairS_ok (TOk.cons l_eqStageS_ok (TOk.cons l_eqQueueS_ok TOk.nil))) l_eqPipe_st (by kernel_rfl) (by kernel_rfl) (by kernel_rfl) h
theorem l_eqPipe_h : l_eqPipe_C := by
  intro a b
  refine tcon_bd rfl fun hb => l_eqPipe_t a b _ (l_eqPipe_v0 _ a b ?_)
  refine ⟨fun h => R_eq (Eq.symm (decide_eq_false (by rintro rfl; simp [m_eq] at h))), fun h0 => ?_⟩
  refine ⟨fun h => R_eq (Eq.symm (decide_eq_false (by rintro rfl; simp [m_eq] at h))), fun h1 => ?_⟩
  refine ⟨fun h => R_eq (Eq.symm (decide_eq_false (by rintro rfl; simp [m_eq] at h))), fun h2 => ?_⟩
  refine ⟨fun h => R_eq (Eq.symm (decide_eq_false (by rintro rfl; simp [m_eq] at h))), fun h3 => ?_⟩
  refine R_eq (Eq.symm (decide_eq_true ?_))
  simp [m_eq] at h0 h1 h2 h3
  simp [Prod.ext_iff, *]

theorem l_eqPipe_ok : TRowOk Try.prog l_eqPipe_row := rowOk fun x _ => l_eqPipe_h x.1 x.2.1

end
end Go.Proofs.Ytpnblnkggeopkaa.Am
