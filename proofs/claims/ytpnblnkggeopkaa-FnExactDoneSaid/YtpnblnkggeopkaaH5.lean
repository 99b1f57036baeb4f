/-
  Written by program: the code of functions, what it asks, and that it comes to what the models say.
-/
import Derived.Test.YtpnblnkggeopkaaH4
import Derived.Test.YtpnblnkggeopkaaH2
import Derived.Test.YtpnblnkggeopkaaH1
namespace Go.Proofs.Ytpnblnkggeopkaa.Am
open Go Go.RowKit Go.Proofs.Ytpnblnkggeopkaa
set_option linter.unusedVariables false
set_option linter.unusedSimpArgs false
noncomputable section

def l_szStage_R (t : Int) : TRes := ⟨(.c TI t), [], [], false⟩
def l_szStage_row : TRow := mkRow 76 [(.a ctStage), (.c TI)] fun x => (some (p_sz (α := TStage) x.1 x.2.1), l_szStage_R (m_sz (α := TStage) x.1 x.2.1))
def l_szStage_C : Prop := ∀ (x0 : TStage) (x1 : Int), (p_sz (α := TStage) x0 x1) → TCon Try.prog 76 [(.a (Tup.cells ctStage x0)), (.c TI x1)] (l_szStage_R (m_sz (α := TStage) x0 x1))

/-! laws.szStage -/
def l_szStage_G : List TRow := [l_szInsS_row, l_szOpS_row, l_szSavedS_row, l_szRowS_row, l_szIntS_row, l_szGrads_row]
def l_szStage_c : TCode :=
  (.seq (.reg [.op (some 2) (.box 93 (.s 0) 14),
    .op (some 4) (.mov (.k (.c TI (0 : Int))))])
 (.seq (.reg [.op (some 5) (.fad (.s 2) 1),
     .op (some 6) (.load (.s 5) 1 false),
     .op (some 7) (.mov (.s 1)),
     .op (some 8) (.call 35 [(.s 6), (.s 7)]),
     .op (some 1) (.mov (.s 8))])
  (.seq (.seq (.reg [.op (some 9) (.mov (.s 1)),
       .op (some 10) (.bin .lss (.s 9) (.k (.c TI (0 : Int))))])
    (.cond (.s 10) (.seq (.reg [.op (some 4) (.mov (.k (.c TI (-1 : Int))))])
      .ret) .skip))
   (.seq (.reg [.op (some 11) (.fad (.s 2) 2),
       .op (some 12) (.load (.s 11) 1 false),
       .op (some 13) (.mov (.s 1)),
       .op (some 14) (.call 131 [(.s 12), (.s 13)]),
       .op (some 1) (.mov (.s 14))])
    (.seq (.seq (.reg [.op (some 15) (.mov (.s 1)),
         .op (some 16) (.bin .lss (.s 15) (.k (.c TI (0 : Int))))])
      (.cond (.s 16) (.seq (.reg [.op (some 4) (.mov (.k (.c TI (-1 : Int))))])
        .ret) .skip))
     (.seq (.reg [.op (some 17) (.fad (.s 2) 5),
         .op (some 18) (.load (.s 17) 1 false),
         .op (some 19) (.mov (.s 1)),
         .op (some 20) (.call 30 [(.s 18), (.s 19)]),
         .op (some 1) (.mov (.s 20))])
      (.seq (.seq (.reg [.op (some 21) (.mov (.s 1)),
           .op (some 22) (.bin .lss (.s 21) (.k (.c TI (0 : Int))))])
        (.cond (.s 22) (.seq (.reg [.op (some 4) (.mov (.k (.c TI (-1 : Int))))])
          .ret) .skip))
       (.seq (.reg [.op (some 23) (.fad (.s 2) 6),
           .op (some 24) (.load (.s 23) 1 false),
           .op (some 25) (.mov (.s 1)),
           .op (some 26) (.call 143 [(.s 24), (.s 25)]),
           .op (some 1) (.mov (.s 26))])
        (.seq (.seq (.reg [.op (some 27) (.mov (.s 1)),
             .op (some 28) (.bin .lss (.s 27) (.k (.c TI (0 : Int))))])
          (.cond (.s 28) (.seq (.reg [.op (some 4) (.mov (.k (.c TI (-1 : Int))))])
            .ret) .skip))
         (.seq (.reg [.op (some 29) (.fad (.s 2) 7),
             .op (some 30) (.load (.s 29) 1 false),
             .op (some 31) (.mov (.s 1)),
             .op (some 32) (.call 118 [(.s 30), (.s 31)]),
             .op (some 1) (.mov (.s 32))])
          (.seq (.seq (.reg [.op (some 33) (.mov (.s 1)),
               .op (some 34) (.bin .lss (.s 33) (.k (.c TI (0 : Int))))])
            (.cond (.s 34) (.seq (.reg [.op (some 4) (.mov (.k (.c TI (-1 : Int))))])
              .ret) .skip))
           (.seq (.reg [.op (some 35) (.fad (.s 2) 8),
               .op (some 36) (.load (.s 35) 1 false),
               .op (some 37) (.mov (.s 1)),
               .op (some 38) (.call 118 [(.s 36), (.s 37)]),
               .op (some 1) (.mov (.s 38))])
            (.seq (.seq (.reg [.op (some 39) (.mov (.s 1)),
                 .op (some 40) (.bin .lss (.s 39) (.k (.c TI (0 : Int))))])
              (.cond (.s 40) (.seq (.reg [.op (some 4) (.mov (.k (.c TI (-1 : Int))))])
                .ret) .skip))
             (.seq (.reg [.op (some 41) (.fad (.s 2) 9),
                 .op (some 42) (.load (.s 41) 1 false),
                 .op (some 43) (.mov (.s 1)),
                 .op (some 44) (.call 118 [(.s 42), (.s 43)]),
                 .op (some 1) (.mov (.s 44))])
              (.seq (.seq (.reg [.op (some 45) (.mov (.s 1)),
                   .op (some 46) (.bin .lss (.s 45) (.k (.c TI (0 : Int))))])
                (.cond (.s 46) (.seq (.reg [.op (some 4) (.mov (.k (.c TI (-1 : Int))))])
                  .ret) .skip))
               (.seq (.reg [.op (some 47) (.fad (.s 2) 10),
                   .op (some 48) (.load (.s 47) 1 false),
                   .op (some 49) (.mov (.s 1)),
                   .op (some 50) (.call 118 [(.s 48), (.s 49)]),
                   .op (some 1) (.mov (.s 50))])
                (.seq (.seq (.reg [.op (some 51) (.mov (.s 1)),
                     .op (some 52) (.bin .lss (.s 51) (.k (.c TI (0 : Int))))])
                  (.cond (.s 52) (.seq (.reg [.op (some 4) (.mov (.k (.c TI (-1 : Int))))])
                    .ret) .skip))
                 (.seq (.reg [.op (some 53) (.fad (.s 2) 11),
                     .op (some 54) (.load (.s 53) 3 true),
                     .op (some 55) (.mov (.s 1)),
                     .op (some 56) (.call 144 [(.s 54), (.s 55)]),
                     .op (some 1) (.mov (.s 56))])
                  (.seq (.seq (.reg [.op (some 57) (.mov (.s 1)),
                       .op (some 58) (.bin .lss (.s 57) (.k (.c TI (0 : Int))))])
                    (.cond (.s 58) (.seq (.reg [.op (some 4) (.mov (.k (.c TI (-1 : Int))))])
                      .ret) .skip))
                   (.seq (.reg [.op (some 59) (.mov (.s 1)),
                       .op (some 4) (.mov (.s 59))])
                    .ret))))))))))))))))))))
def l_szStage_rs : List (ARv × Md) := [(.t 4, .one .d)]
theorem l_szStage_st : compF Try.prog 76 = some (l_szStage_c.er, l_szStage_rs.map Prod.fst, 60) := by kernel_rfl
def l_szStage_Q (K : TRes → Prop) : TPost := TQ 0 l_szStage_rs K
theorem l_szStage_v0 (K : TRes → Prop) (a : TStage) (left : Int) (h :
  ((p_sz (α := List TIns) a.2.1 left) ∧ (((decide ((m_sz (α := List TIns) a.2.1 left) < (0 : Int))) = true → K (l_szStage_R (-1 : Int))) ∧ ((decide ((m_sz (α := List TIns) a.2.1 left) < (0 : Int))) = false → ((p_sz (α := List TOp') a.2.2.1 (m_sz (α := List TIns) a.2.1 left)) ∧ (((decide ((m_sz (α := List TOp') a.2.2.1 (m_sz (α := List TIns) a.2.1 left)) < (0 : Int))) = true → K (l_szStage_R (-1 : Int))) ∧ ((decide ((m_sz (α := List TOp') a.2.2.1 (m_sz (α := List TIns) a.2.1 left)) < (0 : Int))) = false → ((p_sz (α := List TSaved) a.2.2.2.2.2.1 (m_sz (α := List TOp') a.2.2.1 (m_sz (α := List TIns) a.2.1 left))) ∧ (((decide ((m_sz (α := List TSaved) a.2.2.2.2.2.1 (m_sz (α := List TOp') a.2.2.1 (m_sz (α := List TIns) a.2.1 left))) < (0 : Int))) = true → K (l_szStage_R (-1 : Int))) ∧ ((decide ((m_sz (α := List TSaved) a.2.2.2.2.2.1 (m_sz (α := List TOp') a.2.2.1 (m_sz (α := List TIns) a.2.1 left))) < (0 : Int))) = false → ((p_sz (α := List (List Int)) a.2.2.2.2.2.2.1 (m_sz (α := List TSaved) a.2.2.2.2.2.1 (m_sz (α := List TOp') a.2.2.1 (m_sz (α := List TIns) a.2.1 left)))) ∧ (((decide ((m_sz (α := List (List Int)) a.2.2.2.2.2.2.1 (m_sz (α := List TSaved) a.2.2.2.2.2.1 (m_sz (α := List TOp') a.2.2.1 (m_sz (α := List TIns) a.2.1 left)))) < (0 : Int))) = true → K (l_szStage_R (-1 : Int))) ∧ ((decide ((m_sz (α := List (List Int)) a.2.2.2.2.2.2.1 (m_sz (α := List TSaved) a.2.2.2.2.2.1 (m_sz (α := List TOp') a.2.2.1 (m_sz (α := List TIns) a.2.1 left)))) < (0 : Int))) = false → ((p_sz (α := List Int) a.2.2.2.2.2.2.2.1 (m_sz (α := List (List Int)) a.2.2.2.2.2.2.1 (m_sz (α := List TSaved) a.2.2.2.2.2.1 (m_sz (α := List TOp') a.2.2.1 (m_sz (α := List TIns) a.2.1 left))))) ∧ (((decide ((m_sz (α := List Int) a.2.2.2.2.2.2.2.1 (m_sz (α := List (List Int)) a.2.2.2.2.2.2.1 (m_sz (α := List TSaved) a.2.2.2.2.2.1 (m_sz (α := List TOp') a.2.2.1 (m_sz (α := List TIns) a.2.1 left))))) < (0 : Int))) = true → K (l_szStage_R (-1 : Int))) ∧ ((decide ((m_sz (α := List Int) a.2.2.2.2.2.2.2.1 (m_sz (α := List (List Int)) a.2.2.2.2.2.2.1 (m_sz (α := List TSaved) a.2.2.2.2.2.1 (m_sz (α := List TOp') a.2.2.1 (m_sz (α := List TIns) a.2.1 left))))) < (0 : Int))) = false → ((p_sz (α := List Int) a.2.2.2.2.2.2.2.2.1 (m_sz (α := List Int) a.2.2.2.2.2.2.2.1 (m_sz (α := List (List Int)) a.2.2.2.2.2.2.1 (m_sz (α := List TSaved) a.2.2.2.2.2.1 (m_sz (α := List TOp') a.2.2.1 (m_sz (α := List TIns) a.2.1 left)))))) ∧ (((decide ((m_sz (α := List Int) a.2.2.2.2.2.2.2.2.1 (m_sz (α := List Int) a.2.2.2.2.2.2.2.1 (m_sz (α := List (List Int)) a.2.2.2.2.2.2.1 (m_sz (α := List TSaved) a.2.2.2.2.2.1 (m_sz (α := List TOp') a.2.2.1 (m_sz (α := List TIns) a.2.1 left)))))) < (0 : Int))) = true → K (l_szStage_R (-1 : Int))) ∧ ((decide ((m_sz (α := List Int) a.2.2.2.2.2.2.2.2.1 (m_sz (α := List Int) a.2.2.2.2.2.2.2.1 (m_sz (α := List (List Int)) a.2.2.2.2.2.2.1 (m_sz (α := List TSaved) a.2.2.2.2.2.1 (m_sz (α := List TOp') a.2.2.1 (m_sz (α := List TIns) a.2.1 left)))))) < (0 : Int))) = false → ((p_sz (α := List Int) a.2.2.2.2.2.2.2.2.2.1 (m_sz (α := List Int) a.2.2.2.2.2.2.2.2.1 (m_sz (α := List Int) a.2.2.2.2.2.2.2.1 (m_sz (α := List (List Int)) a.2.2.2.2.2.2.1 (m_sz (α := List TSaved) a.2.2.2.2.2.1 (m_sz (α := List TOp') a.2.2.1 (m_sz (α := List TIns) a.2.1 left))))))) ∧ (((decide ((m_sz (α := List Int) a.2.2.2.2.2.2.2.2.2.1 (m_sz (α := List Int) a.2.2.2.2.2.2.2.2.1 (m_sz (α := List Int) a.2.2.2.2.2.2.2.1 (m_sz (α := List (List Int)) a.2.2.2.2.2.2.1 (m_sz (α := List TSaved) a.2.2.2.2.2.1 (m_sz (α := List TOp') a.2.2.1 (m_sz (α := List TIns) a.2.1 left))))))) < (0 : Int))) = true → K (l_szStage_R (-1 : Int))) ∧ ((decide ((m_sz (α := List Int) a.2.2.2.2.2.2.2.2.2.1 (m_sz (α := List Int) a.2.2.2.2.2.2.2.2.1 (m_sz (α := List Int) a.2.2.2.2.2.2.2.1 (m_sz (α := List (List Int)) a.2.2.2.2.2.2.1 (m_sz (α := List TSaved) a.2.2.2.2.2.1 (m_sz (α := List TOp') a.2.2.1 (m_sz (α := List TIns) a.2.1 left))))))) < (0 : Int))) = false → ((p_sz (α := List Int) a.2.2.2.2.2.2.2.2.2.2.1 (m_sz (α := List Int) a.2.2.2.2.2.2.2.2.2.1 (m_sz (α := List Int) a.2.2.2.2.2.2.2.2.1 (m_sz (α := List Int) a.2.2.2.2.2.2.2.1 (m_sz (α := List (List Int)) a.2.2.2.2.2.2.1 (m_sz (α := List TSaved) a.2.2.2.2.2.1 (m_sz (α := List TOp') a.2.2.1 (m_sz (α := List TIns) a.2.1 left)))))))) ∧ (((decide ((m_sz (α := List Int) a.2.2.2.2.2.2.2.2.2.2.1 (m_sz (α := List Int) a.2.2.2.2.2.2.2.2.2.1 (m_sz (α := List Int) a.2.2.2.2.2.2.2.2.1 (m_sz (α := List Int) a.2.2.2.2.2.2.2.1 (m_sz (α := List (List Int)) a.2.2.2.2.2.2.1 (m_sz (α := List TSaved) a.2.2.2.2.2.1 (m_sz (α := List TOp') a.2.2.1 (m_sz (α := List TIns) a.2.1 left)))))))) < (0 : Int))) = true → K (l_szStage_R (-1 : Int))) ∧ ((decide ((m_sz (α := List Int) a.2.2.2.2.2.2.2.2.2.2.1 (m_sz (α := List Int) a.2.2.2.2.2.2.2.2.2.1 (m_sz (α := List Int) a.2.2.2.2.2.2.2.2.1 (m_sz (α := List Int) a.2.2.2.2.2.2.2.1 (m_sz (α := List (List Int)) a.2.2.2.2.2.2.1 (m_sz (α := List TSaved) a.2.2.2.2.2.1 (m_sz (α := List TOp') a.2.2.1 (m_sz (α := List TIns) a.2.1 left)))))))) < (0 : Int))) = false → ((p_sz (α := TGrads) a.2.2.2.2.2.2.2.2.2.2.2 (m_sz (α := List Int) a.2.2.2.2.2.2.2.2.2.2.1 (m_sz (α := List Int) a.2.2.2.2.2.2.2.2.2.1 (m_sz (α := List Int) a.2.2.2.2.2.2.2.2.1 (m_sz (α := List Int) a.2.2.2.2.2.2.2.1 (m_sz (α := List (List Int)) a.2.2.2.2.2.2.1 (m_sz (α := List TSaved) a.2.2.2.2.2.1 (m_sz (α := List TOp') a.2.2.1 (m_sz (α := List TIns) a.2.1 left))))))))) ∧ (((decide ((m_sz (α := TGrads) a.2.2.2.2.2.2.2.2.2.2.2 (m_sz (α := List Int) a.2.2.2.2.2.2.2.2.2.2.1 (m_sz (α := List Int) a.2.2.2.2.2.2.2.2.2.1 (m_sz (α := List Int) a.2.2.2.2.2.2.2.2.1 (m_sz (α := List Int) a.2.2.2.2.2.2.2.1 (m_sz (α := List (List Int)) a.2.2.2.2.2.2.1 (m_sz (α := List TSaved) a.2.2.2.2.2.1 (m_sz (α := List TOp') a.2.2.1 (m_sz (α := List TIns) a.2.1 left))))))))) < (0 : Int))) = true → K (l_szStage_R (-1 : Int))) ∧ ((decide ((m_sz (α := TGrads) a.2.2.2.2.2.2.2.2.2.2.2 (m_sz (α := List Int) a.2.2.2.2.2.2.2.2.2.2.1 (m_sz (α := List Int) a.2.2.2.2.2.2.2.2.2.1 (m_sz (α := List Int) a.2.2.2.2.2.2.2.2.1 (m_sz (α := List Int) a.2.2.2.2.2.2.2.1 (m_sz (α := List (List Int)) a.2.2.2.2.2.2.1 (m_sz (α := List TSaved) a.2.2.2.2.2.1 (m_sz (α := List TOp') a.2.2.1 (m_sz (α := List TIns) a.2.1 left))))))))) < (0 : Int))) = false → K (l_szStage_R (m_sz (α := TGrads) a.2.2.2.2.2.2.2.2.2.2.2 (m_sz (α := List Int) a.2.2.2.2.2.2.2.2.2.2.1 (m_sz (α := List Int) a.2.2.2.2.2.2.2.2.2.1 (m_sz (α := List Int) a.2.2.2.2.2.2.2.2.1 (m_sz (α := List Int) a.2.2.2.2.2.2.2.1 (m_sz (α := List (List Int)) a.2.2.2.2.2.2.1 (m_sz (α := List TSaved) a.2.2.2.2.2.1 (m_sz (α := List TOp') a.2.2.1 (m_sz (α := List TIns) a.2.1 left)))))))))))))))))))))))))))))))))))))) : Hold (tawp l_szStage_G 0 l_szStage_c (TQ 0 l_szStage_rs K) (tstart [(.a (Tup.cells ctStage a)), (.c TI left)])) :=
  Hold.of (by kernel_rfl) h
theorem l_szStage_t (a : TStage) (left : Int) (r : TRes) (h : Hold (tawp l_szStage_G 0 l_szStage_c (TQ 0 l_szStage_rs fun r' => r' = r) (tstart [(.a (Tup.cells ctStage a)), (.c TI left)]))) : TCon Try.prog 76 [(.a (Tup.cells ctStage a)), (.c TI left)] r :=
  tcon_gen (sg := [(.a ctStage), (.c TI)]) mixed (TOk.cons l_szInsS_ok (TOk.cons l_szOpS_ok (TOk.cons l_szSavedS_ok (TOk.cons l_szRowS_ok (TOk.cons l_szIntS_ok (TOk.cons l_szGrads_ok TOk.nil)))))) l_szStage_st (by kernel_rfl) (by kernel_rfl) (by kernel_rfl) h
theorem l_szStage_h : l_szStage_C := by
  intro a left hp
  refine tcon_bd rfl fun hb => l_szStage_t a left _ (l_szStage_v0 _ a left ?_)
  refine ⟨hp, fun h => R_eq (sz_neg (of_decide_eq_true h) (by first | omega | (simp only [sz_prod, sz_int, sz_bool]; omega)) hp.1), fun h => ?_⟩
  rw [sz_step (Int.not_lt.1 (of_decide_eq_false h))]
  refine ⟨pl_szN hp, fun h => R_eq (sz_neg (of_decide_eq_true h) (by first | omega | (simp only [sz_prod, sz_int, sz_bool]; omega)) hp.1), fun h => ?_⟩
  rw [sz_step (Int.not_lt.1 (of_decide_eq_false h))]
  refine ⟨pl_szN hp, fun h => R_eq (sz_neg (of_decide_eq_true h) (by first | omega | (simp only [sz_prod, sz_int, sz_bool]; omega)) hp.1), fun h => ?_⟩
  rw [sz_step (Int.not_lt.1 (of_decide_eq_false h))]
  refine ⟨pl_szN hp, fun h => R_eq (sz_neg (of_decide_eq_true h) (by first | omega | (simp only [sz_prod, sz_int, sz_bool]; omega)) hp.1), fun h => ?_⟩
  rw [sz_step (Int.not_lt.1 (of_decide_eq_false h))]
  refine ⟨pl_szN hp, fun h => R_eq (sz_neg (of_decide_eq_true h) (by first | omega | (simp only [sz_prod, sz_int, sz_bool]; omega)) hp.1), fun h => ?_⟩
  rw [sz_step (Int.not_lt.1 (of_decide_eq_false h))]
  refine ⟨pl_szN hp, fun h => R_eq (sz_neg (of_decide_eq_true h) (by first | omega | (simp only [sz_prod, sz_int, sz_bool]; omega)) hp.1), fun h => ?_⟩
  rw [sz_step (Int.not_lt.1 (of_decide_eq_false h))]
  refine ⟨pl_szN hp, fun h => R_eq (sz_neg (of_decide_eq_true h) (by first | omega | (simp only [sz_prod, sz_int, sz_bool]; omega)) hp.1), fun h => ?_⟩
  rw [sz_step (Int.not_lt.1 (of_decide_eq_false h))]
  refine ⟨pl_szN hp, fun h => R_eq (sz_neg (of_decide_eq_true h) (by first | omega | (simp only [sz_prod, sz_int, sz_bool]; omega)) hp.1), fun h => ?_⟩
  rw [sz_step (Int.not_lt.1 (of_decide_eq_false h))]
  refine ⟨pl_szN hp, fun h => R_eq (sz_neg (of_decide_eq_true h) (by first | omega | (simp only [sz_prod, sz_int, sz_bool]; omega)) hp.1), fun h => ?_⟩
  exact R_eq (congrArg (m_szN · _) (by first | rfl | omega | (simp only [sz_prod, sz_int, sz_bool]; omega)))

theorem l_szStage_ok : TRowOk Try.prog l_szStage_row := rowOk fun x h => l_szStage_h x.1 x.2.1 h

def l_szStageS_R (t : Int) : TRes := ⟨(.c TI t), [], [], false⟩
def l_szStageS_row : TRow := mkRow 166 [(.c (.sl ctStage)), (.c TI)] fun x => (some (p_sz (α := List TStage) x.1 x.2.1), l_szStageS_R (m_sz (α := List TStage) x.1 x.2.1))
def l_szStageS_C : Prop := ∀ (x0 : List TStage) (x1 : Int), (p_sz (α := List TStage) x0 x1) → TCon Try.prog 166 [(.c (.sl ctStage) x0), (.c TI x1)] (l_szStageS_R (m_sz (α := List TStage) x0 x1))

/-! laws.szStageS -/
def l_szStageS_G : List TRow := [l_szStage_row]
def l_szStageS_b2 : TCode :=
  (.seq (.seq (.reg [.op (some 12) (.mov (.s 5)),
     .op (some 13) (.mov (.s 0)),
     .op (some 14) (.len (.s 13)),
     .op (some 15) (.bin .lss (.s 12) (.s 14))])
  (.cond (.s 15) .skip (.exit 0)))
 (.seq (.block 1 (.seq (.reg [.op (some 18) (.mov (.s 0)),
       .op (some 19) (.mov (.s 5)),
       .op (some 20) (.iad (.s 18) (.s 19) ctStage),
       .op (some 21) (.load (.s 20) 14 true),
       .op (some 22) (.mov (.s 1)),
       .op (some 23) (.call 76 [(.s 21), (.s 22)]),
       .op (some 1) (.mov (.s 23))])
    (.seq (.reg [.op (some 24) (.mov (.s 1)),
        .op (some 25) (.bin .lss (.s 24) (.k (.c TI (0 : Int))))])
     (.cond (.s 25) (.seq (.reg [.op (some 4) (.mov (.k (.c TI (-1 : Int))))])
       .ret) .skip))))
  (.reg [.op (some 16) (.mov (.s 5)),
     .op (some 17) (.bin .add (.s 16) (.k (.c TI (1 : Int)))),
     .op (some 5) (.mov (.s 17))])))
def l_szStageS_L2 : List (Nat × Md) := [(0, .one .d), (1, .one .d), (5, .one .d)]
def l_szStageS_y1 : TCode :=
  (.seq (.reg [.op (some 26) (.mov (.s 1)),
    .op (some 4) (.mov (.s 26))])
 .ret)
def l_szStageS_c : TCode :=
  (.seq (.reg [.op (some 4) (.mov (.k (.c TI (0 : Int))))])
 (.seq (.reg [.op (some 6) (.mov (.s 1)),
     .op (some 7) (.mov (.s 0)),
     .op (some 8) (.len (.s 7)),
     .op (some 9) (.bin .sub (.s 6) (.s 8)),
     .op (some 1) (.mov (.s 9))])
  (.seq (.seq (.reg [.op (some 10) (.mov (.s 1)),
       .op (some 11) (.bin .lss (.s 10) (.k (.c TI (0 : Int))))])
    (.cond (.s 11) (.seq (.reg [.op (some 4) (.mov (.k (.c TI (-1 : Int))))])
      .ret) .skip))
   (.seq (.seq (.reg [.op (some 5) (.mov (.k (.c TI (0 : Int))))])
     (.block 0 (.loop l_szStageS_L2 l_szStageS_b2)))
    l_szStageS_y1))))
def l_szStageS_rs : List (ARv × Md) := [(.t 4, .one .d)]
theorem l_szStageS_st : compF Try.prog 166 = some (l_szStageS_c.er, l_szStageS_rs.map Prod.fst, 27) := by kernel_rfl
def l_szStageS_Q (K : TRes → Prop) : TPost := TQ 0 l_szStageS_rs K
def l_szStageS_q1 (K : TRes → Prop) : TPost := Qseq (tawp l_szStageS_G 0 l_szStageS_y1 (l_szStageS_Q K)) (l_szStageS_Q K)
def l_szStageS_q2 (K : TRes → Prop) : TPost := Qblk 0 (l_szStageS_q1 K)
def l_szStageS_A2 (K : TRes → Prop) (a : List TStage) (left1 : Int) (i : Int) : Prop := Loop l_szStageS_G 0 l_szStageS_L2 l_szStageS_b2 (l_szStageS_q2 K) ⟨[(0, (.c (.sl ctStage) a)), (1, (.c TI left1)), (5, (.c TI i))], [], 0⟩
theorem l_szStageS_v2 (K : TRes → Prop) (a : List TStage) (left1 : Int) (i : Int) (h :
  (((decide (i < (a.length : Int))) = true → ((((0 : Int) ≤ i ∧ Int.toNat i < a.length) ∧ (p_sz (α := TStage) (gtd dStage a (Int.toNat i)) left1)) ∧ (((decide ((m_sz (α := TStage) (gtd dStage a (Int.toNat i)) left1) < (0 : Int))) = true → K (l_szStageS_R (-1 : Int))) ∧ ((decide ((m_sz (α := TStage) (gtd dStage a (Int.toNat i)) left1) < (0 : Int))) = false → (l_szStageS_A2 K a (m_sz (α := TStage) (gtd dStage a (Int.toNat i)) left1) (w64 (i + (1 : Int)))))))) ∧ ((decide (i < (a.length : Int))) = false → K (l_szStageS_R left1)))) : l_szStageS_A2 K a left1 i :=
  Loop.of (by kernel_rfl) h
theorem l_szStageS_v0 (K : TRes → Prop) (a : List TStage) (left : Int) (h :
  (((decide ((w64 (left - (a.length : Int))) < (0 : Int))) = true → K (l_szStageS_R (-1 : Int))) ∧ ((decide ((w64 (left - (a.length : Int))) < (0 : Int))) = false → (l_szStageS_A2 K a (w64 (left - (a.length : Int))) (0 : Int))))) : Hold (tawp l_szStageS_G 0 l_szStageS_c (TQ 0 l_szStageS_rs K) (tstart [(.c (.sl ctStage) a), (.c TI left)])) :=
  Hold.of (by kernel_rfl) h
theorem l_szStageS_t (a : List TStage) (left : Int) (r : TRes) (h : Hold (tawp l_szStageS_G 0 l_szStageS_c (TQ 0 l_szStageS_rs fun r' => r' = r) (tstart [(.c (.sl ctStage) a), (.c TI left)]))) : TCon Try.prog 166 [(.c (.sl ctStage) a), (.c TI left)] r :=
  tcon_gen (sg := [(.c (.sl ctStage)), (.c TI)]) mixed (TOk.cons l_szStage_ok TOk.nil) l_szStageS_st (by kernel_rfl) (by kernel_rfl) (by kernel_rfl) h
theorem l_szStageS_h : l_szStageS_C := by
  intro a left hp
  refine tcon_bd rfl fun hb => l_szStageS_t a left _ (l_szStageS_v0 _ a left ?_)
  exact szLoop (Q := fun x => l_szStageS_R x = l_szStageS_R (m_sz (α := List TStage) a left)) dStage hp hb.1.1 (fun l i h => l_szStageS_v2 _ a l i h) rfl

theorem l_szStageS_ok : TRowOk Try.prog l_szStageS_row := rowOk fun x h => l_szStageS_h x.1 x.2.1 h

def l_toStage_R (t : TStage) : TRes := ⟨(.a (Tup.cells ctStage t)), [], [], true⟩
def l_toStage_row : TRow := mkRow 78 [(.a ctStage)] fun x => (some (p_to (α := TStage) x.1), l_toStage_R (id (α := TStage) x.1))
def l_toStage_C : Prop := ∀ (x0 : TStage), (p_to (α := TStage) x0) → TCon Try.prog 78 [(.a (Tup.cells ctStage x0))] (l_toStage_R (id (α := TStage) x0))

/-! laws.toStage -/
def l_toStage_G : List TRow := [l_toInsS_row, l_toOpS_row, l_toSavedS_row, l_toRowS_row, l_toIntS_row, l_toGrads_row]
def l_toStage_c : TCode :=
  (.seq (.reg [.op (some 1) (.box 93 (.s 0) 14),
    .op (some 2) (.new 100 [(.c TI (0 : Int)), (.n ctIns), (.n ctOp), (.c .bool false), (.c .bool false), (.n ctSaved), (.n [(.sl [TI])]), (.n [TI]), (.n [TI]), (.n [TI]), (.n [TI]), (.n [(.sl [TI])]), (.c TI (0 : Int)), (.c .bool false)])])
 (.seq (.reg [.op (some 3) (.new 100 [(.c TI (0 : Int)), (.n ctIns), (.n ctOp), (.c .bool false), (.c .bool false), (.n ctSaved), (.n [(.sl [TI])]), (.n [TI]), (.n [TI]), (.n [TI]), (.n [TI]), (.n [(.sl [TI])]), (.c TI (0 : Int)), (.c .bool false)])])
  (.seq (.reg [.op (some 4) (.fad (.s 1) 0),
      .op (some 5) (.load (.s 4) 1 false),
      .op (some 6) (.fad (.s 3) 0),
      .op none (.store (.s 6) (.s 5) 1)])
   (.seq (.reg [.op (some 7) (.fad (.s 1) 1),
       .op (some 8) (.load (.s 7) 1 false),
       .op (some 9) (.call 37 [(.s 8)]),
       .op (some 10) (.fad (.s 3) 1),
       .op none (.store (.s 10) (.s 9) 1)])
    (.seq (.reg [.op (some 11) (.fad (.s 1) 2),
        .op (some 12) (.load (.s 11) 1 false),
        .op (some 13) (.call 133 [(.s 12)]),
        .op (some 14) (.fad (.s 3) 2),
        .op none (.store (.s 14) (.s 13) 1)])
     (.seq (.reg [.op (some 15) (.fad (.s 1) 3),
         .op (some 16) (.load (.s 15) 1 false),
         .op (some 17) (.fad (.s 3) 3),
         .op none (.store (.s 17) (.s 16) 1)])
      (.seq (.reg [.op (some 18) (.fad (.s 1) 4),
          .op (some 19) (.load (.s 18) 1 false),
          .op (some 20) (.fad (.s 3) 4),
          .op none (.store (.s 20) (.s 19) 1)])
       (.seq (.reg [.op (some 21) (.fad (.s 1) 5),
           .op (some 22) (.load (.s 21) 1 false),
           .op (some 23) (.call 32 [(.s 22)]),
           .op (some 24) (.fad (.s 3) 5),
           .op none (.store (.s 24) (.s 23) 1)])
        (.seq (.reg [.op (some 25) (.fad (.s 1) 6),
            .op (some 26) (.load (.s 25) 1 false),
            .op (some 27) (.call 145 [(.s 26)]),
            .op (some 28) (.fad (.s 3) 6),
            .op none (.store (.s 28) (.s 27) 1)])
         (.seq (.reg [.op (some 29) (.fad (.s 1) 7),
             .op (some 30) (.load (.s 29) 1 false),
             .op (some 31) (.call 57 [(.s 30)]),
             .op (some 32) (.fad (.s 3) 7),
             .op none (.store (.s 32) (.s 31) 1)])
          (.seq (.reg [.op (some 33) (.fad (.s 1) 8),
              .op (some 34) (.load (.s 33) 1 false),
              .op (some 35) (.call 57 [(.s 34)]),
              .op (some 36) (.fad (.s 3) 8),
              .op none (.store (.s 36) (.s 35) 1)])
           (.seq (.reg [.op (some 37) (.fad (.s 1) 9),
               .op (some 38) (.load (.s 37) 1 false),
               .op (some 39) (.call 57 [(.s 38)]),
               .op (some 40) (.fad (.s 3) 9),
               .op none (.store (.s 40) (.s 39) 1)])
            (.seq (.reg [.op (some 41) (.fad (.s 1) 10),
                .op (some 42) (.load (.s 41) 1 false),
                .op (some 43) (.call 57 [(.s 42)]),
                .op (some 44) (.fad (.s 3) 10),
                .op none (.store (.s 44) (.s 43) 1)])
             (.seq (.reg [.op (some 45) (.fad (.s 1) 11),
                 .op (some 46) (.load (.s 45) 3 true),
                 .op (some 47) (.call 146 [(.s 46)]),
                 .op (some 48) (.fad (.s 3) 11),
                 .op none (.store (.s 48) (.s 47) 3)])
              (.seq (.reg [.op (some 49) (.load (.s 3) 14 true),
                  .op none (.store (.s 2) (.s 49) 14)])
               .ret)))))))))))))))
def l_toStage_rs : List (ARv × Md) := [(.l 2 14 true, .b [.d, .d, .d, .d, .d, .d, .d, .d, .d, .d, .d, .d, .d, .d])]
theorem l_toStage_st : compF Try.prog 78 = some (l_toStage_c.er, l_toStage_rs.map Prod.fst, 50) := by kernel_rfl
def l_toStage_Q (K : TRes → Prop) : TPost := TQ 0 l_toStage_rs K
theorem l_toStage_v0 (K : TRes → Prop) (a : TStage) (h :
  ((p_to (α := List TIns) a.2.1) ∧ ((p_to (α := List TOp') a.2.2.1) ∧ ((p_to (α := List TSaved) a.2.2.2.2.2.1) ∧ ((p_to (α := List (List Int)) a.2.2.2.2.2.2.1) ∧ ((p_to (α := List Int) a.2.2.2.2.2.2.2.1) ∧ ((p_to (α := List Int) a.2.2.2.2.2.2.2.2.1) ∧ ((p_to (α := List Int) a.2.2.2.2.2.2.2.2.2.1) ∧ ((p_to (α := List Int) a.2.2.2.2.2.2.2.2.2.2.1) ∧ ((p_to (α := TGrads) a.2.2.2.2.2.2.2.2.2.2.2) ∧ K (l_toStage_R (a.1, (id (α := List TIns) a.2.1), (id (α := List TOp') a.2.2.1), a.2.2.2.1, a.2.2.2.2.1, (id (α := List TSaved) a.2.2.2.2.2.1), (id (α := List (List Int)) a.2.2.2.2.2.2.1), (id (α := List Int) a.2.2.2.2.2.2.2.1), (id (α := List Int) a.2.2.2.2.2.2.2.2.1), (id (α := List Int) a.2.2.2.2.2.2.2.2.2.1), (id (α := List Int) a.2.2.2.2.2.2.2.2.2.2.1), (id (α := TGrads) a.2.2.2.2.2.2.2.2.2.2.2).1, (id (α := TGrads) a.2.2.2.2.2.2.2.2.2.2.2).2.1, (id (α := TGrads) a.2.2.2.2.2.2.2.2.2.2.2).2.2)))))))))))) : Hold (tawp l_toStage_G 0 l_toStage_c (TQ 0 l_toStage_rs K) (tstart [(.a (Tup.cells ctStage a))])) :=
  Hold.of (by kernel_rfl) h
theorem l_toStage_t (a : TStage) (r : TRes) (h : Hold (tawp l_toStage_G 0 l_toStage_c (TQ 0 l_toStage_rs fun r' => r' = r) (tstart [(.a (Tup.cells ctStage a))]))) : TCon Try.prog 78 [(.a (Tup.cells ctStage a))] r :=
  tcon_gen (sg := [(.a ctStage)]) mixed (TOk.cons l_toInsS_ok (TOk.cons l_toOpS_ok (TOk.cons l_toSavedS_ok (TOk.cons l_toRowS_ok (TOk.cons l_toIntS_ok (TOk.cons l_toGrads_ok TOk.nil)))))) l_toStage_st (by kernel_rfl) (by kernel_rfl) (by kernel_rfl) h
theorem l_toStage_h : l_toStage_C := by
  intro a hp
  refine tcon_bd rfl fun hb => l_toStage_t a _ (l_toStage_v0 _ a ?_)
  repeat' (first | exact rfl | refine And.intro ?_ ?_)
  all_goals (simp only [p_to, sz_prod, sz_int, sz_bool] at hp ⊢; omega)

theorem l_toStage_ok : TRowOk Try.prog l_toStage_row := rowOk fun x h => l_toStage_h x.1 h

def l_toStageS_R (t : (List TStage)) : TRes := ⟨(.c (.sl ctStage) t), [], [], true⟩
def l_toStageS_row : TRow := mkRow 168 [(.c (.sl ctStage))] fun x => (some (p_to (α := List TStage) x.1), l_toStageS_R (id (α := List TStage) x.1))
def l_toStageS_C : Prop := ∀ (x0 : List TStage), (p_to (α := List TStage) x0) → TCon Try.prog 168 [(.c (.sl ctStage) x0)] (l_toStageS_R (id (α := List TStage) x0))

/-! laws.toStageS -/
def l_toStageS_G : List TRow := [l_toStage_row]
def l_toStageS_b2 : TCode :=
  (.seq (.seq (.reg [.op (some 8) (.mov (.s 4)),
     .op (some 9) (.mov (.s 0)),
     .op (some 10) (.len (.s 9)),
     .op (some 11) (.bin .lss (.s 8) (.s 10))])
  (.cond (.s 11) .skip (.exit 0)))
 (.seq (.block 1 (.reg [.op (some 14) (.mov (.s 3)),
      .op (some 15) (.mov (.s 4)),
      .op (some 16) (.mov (.s 0)),
      .op (some 17) (.mov (.s 4)),
      .op (some 18) (.iad (.s 16) (.s 17) ctStage),
      .op (some 19) (.load (.s 18) 14 true),
      .op (some 20) (.call 78 [(.s 19)]),
      .op (some 21) (.iad (.s 14) (.s 15) ctStage),
      .op none (.store (.s 21) (.s 20) 14)]))
  (.reg [.op (some 12) (.mov (.s 4)),
     .op (some 13) (.bin .add (.s 12) (.k (.c TI (1 : Int)))),
     .op (some 4) (.mov (.s 13))])))
def l_toStageS_L2 : List (Nat × Md) := [(0, .one .d), (3, .one .f), (4, .one .d)]
def l_toStageS_y1 : TCode :=
  (.seq (.reg [.op (some 22) (.mov (.s 3)),
    .op (some 2) (.mov (.s 22))])
 .ret)
def l_toStageS_c : TCode :=
  (.seq (.reg [.op (some 2) (.mov (.k (.n ctStage)))])
 (.seq (.reg [.op (some 5) (.mov (.s 0)),
     .op (some 6) (.len (.s 5)),
     .op (some 7) (.mk 100 ctStage [(.c TI (0 : Int)), (.n ctIns), (.n ctOp), (.c .bool false), (.c .bool false), (.n ctSaved), (.n [(.sl [TI])]), (.n [TI]), (.n [TI]), (.n [TI]), (.n [TI]), (.n [(.sl [TI])]), (.c TI (0 : Int)), (.c .bool false)] (.s 6)),
     .op (some 3) (.mov (.s 7))])
  (.seq (.seq (.reg [.op (some 4) (.mov (.k (.c TI (0 : Int))))])
    (.block 0 (.loop l_toStageS_L2 l_toStageS_b2)))
   l_toStageS_y1)))
def l_toStageS_rs : List (ARv × Md) := [(.t 2, .one .d)]
theorem l_toStageS_st : compF Try.prog 168 = some (l_toStageS_c.er, l_toStageS_rs.map Prod.fst, 23) := by kernel_rfl
def l_toStageS_Q (K : TRes → Prop) : TPost := TQ 0 l_toStageS_rs K
def l_toStageS_q1 (K : TRes → Prop) : TPost := Qseq (tawp l_toStageS_G 0 l_toStageS_y1 (l_toStageS_Q K)) (l_toStageS_Q K)
def l_toStageS_q2 (K : TRes → Prop) : TPost := Qblk 0 (l_toStageS_q1 K)
def l_toStageS_A2 (K : TRes → Prop) (a : List TStage) (i : Int) (out : List TStage) : Prop := Loop l_toStageS_G 0 l_toStageS_L2 l_toStageS_b2 (l_toStageS_q2 K) ⟨[(0, (.c (.sl ctStage) a)), (3, (.r ctStage 0 0 out.length)), (4, (.c TI i))], [(0, (.sl 100 ctStage true out))], 1⟩
theorem l_toStageS_v2 (K : TRes → Prop) (a : List TStage) (i : Int) (out : List TStage) (h :
  (((decide (i < (a.length : Int))) = true → ((((0 : Int) ≤ i ∧ Int.toNat i < a.length) ∧ ((p_to (α := TStage) (gtd dStage a (Int.toNat i))) ∧ (((0 : Int) ≤ i ∧ Int.toNat i < out.length) ∧ ((0 + (Int.toNat i)) < out.length)))) ∧ (l_toStageS_A2 K a (w64 (i + (1 : Int))) (List.take out.length ((out).set (0 + (Int.toNat i)) (id (α := TStage) (gtd dStage a (Int.toNat i)))))))) ∧ ((decide (i < (a.length : Int))) = false → K (l_toStageS_R (List.take out.length (List.drop 0 out)))))) : l_toStageS_A2 K a i out :=
  Loop.of (by kernel_rfl) h
theorem l_toStageS_v0 (K : TRes → Prop) (a : List TStage) (h :
  (((0 : Int) ≤ (a.length : Int) ∧ (a.length : Int) ≤ big) ∧ (l_toStageS_A2 K a (0 : Int) (List.take (Int.toNat (a.length : Int)) (List.replicate (Int.toNat (a.length : Int)) ((0 : Int), [], [], false, false, [], [], [], [], [], [], [], (0 : Int), false)))))) : Hold (tawp l_toStageS_G 0 l_toStageS_c (TQ 0 l_toStageS_rs K) (tstart [(.c (.sl ctStage) a)])) :=
  Hold.of (by kernel_rfl) h
theorem l_toStageS_t (a : List TStage) (r : TRes) (h : Hold (tawp l_toStageS_G 0 l_toStageS_c (TQ 0 l_toStageS_rs fun r' => r' = r) (tstart [(.c (.sl ctStage) a)]))) : TCon Try.prog 168 [(.c (.sl ctStage) a)] r :=
  tcon_gen (sg := [(.c (.sl ctStage))]) mixed (TOk.cons l_toStage_ok TOk.nil) l_toStageS_st (by kernel_rfl) (by kernel_rfl) (by kernel_rfl) h
theorem l_toStageS_h : l_toStageS_C := by
  intro a hp
  refine tcon_bd rfl fun hb => l_toStageS_t a _ (l_toStageS_v0 _ a ?_)
  exact toLoop (Q := fun x => l_toStageS_R x = l_toStageS_R (id (α := List TStage) a)) dStage hp (fun i out h => l_toStageS_v2 _ a i out h) rfl

theorem l_toStageS_ok : TRowOk Try.prog l_toStageS_row := rowOk fun x h => l_toStageS_h x.1 h

def l_eqStage_R (t : Bool) : TRes := ⟨(.c .bool t), [], [], false⟩
def l_eqStage_row : TRow := mkRow 80 [(.a ctStage), (.a ctStage)] fun x => (none, l_eqStage_R (m_eq (α := TStage) x.1 x.2.1))
def l_eqStage_C : Prop := ∀ (x0 : TStage) (x1 : TStage), TCon Try.prog 80 [(.a (Tup.cells ctStage x0)), (.a (Tup.cells ctStage x1))] (l_eqStage_R (m_eq (α := TStage) x0 x1))

/-! laws.eqStage -/
def l_eqStage_G : List TRow := [l_eqInsS_row, l_eqOpS_row, l_eqSavedS_row, l_eqRowS_row, l_eqIntS_row, l_eqGrads_row]
def l_eqStage_c : TCode :=
  (.seq (.reg [.op (some 2) (.box 100 (.s 0) 14),
    .op (some 3) (.box 100 (.s 1) 14),
    .op (some 4) (.mov (.k (.c .bool false)))])
 (.seq (.seq (.reg [.op (some 5) (.fad (.s 2) 0),
      .op (some 6) (.load (.s 5) 1 false),
      .op (some 7) (.fad (.s 3) 0),
      .op (some 8) (.load (.s 7) 1 false),
      .op (some 9) (.bin .neq (.s 6) (.s 8))])
   (.cond (.s 9) (.seq (.reg [.op (some 4) (.mov (.k (.c .bool false)))])
     .ret) .skip))
  (.seq (.seq (.reg [.op (some 10) (.fad (.s 2) 1),
       .op (some 11) (.load (.s 10) 1 false),
       .op (some 12) (.fad (.s 3) 1),
       .op (some 13) (.load (.s 12) 1 false),
       .op (some 14) (.call 39 [(.s 11), (.s 13)]),
       .op (some 15) (.not (.s 14))])
    (.cond (.s 15) (.seq (.reg [.op (some 4) (.mov (.k (.c .bool false)))])
      .ret) .skip))
   (.seq (.seq (.reg [.op (some 16) (.fad (.s 2) 2),
        .op (some 17) (.load (.s 16) 1 false),
        .op (some 18) (.fad (.s 3) 2),
        .op (some 19) (.load (.s 18) 1 false),
        .op (some 20) (.call 135 [(.s 17), (.s 19)]),
        .op (some 21) (.not (.s 20))])
     (.cond (.s 21) (.seq (.reg [.op (some 4) (.mov (.k (.c .bool false)))])
       .ret) .skip))
    (.seq (.seq (.reg [.op (some 22) (.fad (.s 2) 3),
         .op (some 23) (.load (.s 22) 1 false),
         .op (some 24) (.fad (.s 3) 3),
         .op (some 25) (.load (.s 24) 1 false),
         .op (some 26) (.eqb true (.s 23) (.s 25))])
      (.cond (.s 26) (.seq (.reg [.op (some 4) (.mov (.k (.c .bool false)))])
        .ret) .skip))
     (.seq (.seq (.reg [.op (some 27) (.fad (.s 2) 4),
          .op (some 28) (.load (.s 27) 1 false),
          .op (some 29) (.fad (.s 3) 4),
          .op (some 30) (.load (.s 29) 1 false),
          .op (some 31) (.eqb true (.s 28) (.s 30))])
       (.cond (.s 31) (.seq (.reg [.op (some 4) (.mov (.k (.c .bool false)))])
         .ret) .skip))
      (.seq (.seq (.reg [.op (some 32) (.fad (.s 2) 5),
           .op (some 33) (.load (.s 32) 1 false),
           .op (some 34) (.fad (.s 3) 5),
           .op (some 35) (.load (.s 34) 1 false),
           .op (some 36) (.call 34 [(.s 33), (.s 35)]),
           .op (some 37) (.not (.s 36))])
        (.cond (.s 37) (.seq (.reg [.op (some 4) (.mov (.k (.c .bool false)))])
          .ret) .skip))
       (.seq (.seq (.reg [.op (some 38) (.fad (.s 2) 6),
            .op (some 39) (.load (.s 38) 1 false),
            .op (some 40) (.fad (.s 3) 6),
            .op (some 41) (.load (.s 40) 1 false),
            .op (some 42) (.call 148 [(.s 39), (.s 41)]),
            .op (some 43) (.not (.s 42))])
         (.cond (.s 43) (.seq (.reg [.op (some 4) (.mov (.k (.c .bool false)))])
           .ret) .skip))
        (.seq (.seq (.reg [.op (some 44) (.fad (.s 2) 7),
             .op (some 45) (.load (.s 44) 1 false),
             .op (some 46) (.fad (.s 3) 7),
             .op (some 47) (.load (.s 46) 1 false),
             .op (some 48) (.call 60 [(.s 45), (.s 47)]),
             .op (some 49) (.not (.s 48))])
          (.cond (.s 49) (.seq (.reg [.op (some 4) (.mov (.k (.c .bool false)))])
            .ret) .skip))
         (.seq (.seq (.reg [.op (some 50) (.fad (.s 2) 8),
              .op (some 51) (.load (.s 50) 1 false),
              .op (some 52) (.fad (.s 3) 8),
              .op (some 53) (.load (.s 52) 1 false),
              .op (some 54) (.call 60 [(.s 51), (.s 53)]),
              .op (some 55) (.not (.s 54))])
           (.cond (.s 55) (.seq (.reg [.op (some 4) (.mov (.k (.c .bool false)))])
             .ret) .skip))
          (.seq (.seq (.reg [.op (some 56) (.fad (.s 2) 9),
               .op (some 57) (.load (.s 56) 1 false),
               .op (some 58) (.fad (.s 3) 9),
               .op (some 59) (.load (.s 58) 1 false),
               .op (some 60) (.call 60 [(.s 57), (.s 59)]),
               .op (some 61) (.not (.s 60))])
            (.cond (.s 61) (.seq (.reg [.op (some 4) (.mov (.k (.c .bool false)))])
              .ret) .skip))
           (.seq (.seq (.reg [.op (some 62) (.fad (.s 2) 10),
                .op (some 63) (.load (.s 62) 1 false),
                .op (some 64) (.fad (.s 3) 10),
                .op (some 65) (.load (.s 64) 1 false),
                .op (some 66) (.call 60 [(.s 63), (.s 65)]),
                .op (some 67) (.not (.s 66))])
             (.cond (.s 67) (.seq (.reg [.op (some 4) (.mov (.k (.c .bool false)))])
               .ret) .skip))
            (.seq (.seq (.reg [.op (some 68) (.fad (.s 2) 11),
                 .op (some 69) (.load (.s 68) 3 true),
                 .op (some 70) (.fad (.s 3) 11),
                 .op (some 71) (.load (.s 70) 3 true),
                 .op (some 72) (.call 149 [(.s 69), (.s 71)]),
                 .op (some 73) (.not (.s 72))])
              (.cond (.s 73) (.seq (.reg [.op (some 4) (.mov (.k (.c .bool false)))])
                .ret) .skip))
             (.seq (.reg [.op (some 4) (.mov (.k (.c .bool true)))])
              .ret))))))))))))))
def l_eqStage_rs : List (ARv × Md) := [(.t 4, .one .d)]
theorem l_eqStage_st : compF Try.prog 80 = some (l_eqStage_c.er, l_eqStage_rs.map Prod.fst, 74) := by kernel_rfl
def l_eqStage_Q (K : TRes → Prop) : TPost := TQ 0 l_eqStage_rs K
theorem l_eqStage_v0 (K : TRes → Prop) (a : TStage) (b : TStage) (h :
  (((a.1 != b.1) = true → K (l_eqStage_R false)) ∧ ((a.1 != b.1) = false → (((!(m_eq (α := List TIns) a.2.1 b.2.1)) = true → K (l_eqStage_R false)) ∧ ((!(m_eq (α := List TIns) a.2.1 b.2.1)) = false → (((!(m_eq (α := List TOp') a.2.2.1 b.2.2.1)) = true → K (l_eqStage_R false)) ∧ ((!(m_eq (α := List TOp') a.2.2.1 b.2.2.1)) = false → (((!(a.2.2.2.1 == b.2.2.2.1)) = true → K (l_eqStage_R false)) ∧ ((!(a.2.2.2.1 == b.2.2.2.1)) = false → (((!(a.2.2.2.2.1 == b.2.2.2.2.1)) = true → K (l_eqStage_R false)) ∧ ((!(a.2.2.2.2.1 == b.2.2.2.2.1)) = false → (((!(m_eq (α := List TSaved) a.2.2.2.2.2.1 b.2.2.2.2.2.1)) = true → K (l_eqStage_R false)) ∧ ((!(m_eq (α := List TSaved) a.2.2.2.2.2.1 b.2.2.2.2.2.1)) = false → (((!(m_eq (α := List (List Int)) a.2.2.2.2.2.2.1 b.2.2.2.2.2.2.1)) = true → K (l_eqStage_R false)) ∧ ((!(m_eq (α := List (List Int)) a.2.2.2.2.2.2.1 b.2.2.2.2.2.2.1)) = false → (((!(m_eq (α := List Int) a.2.2.2.2.2.2.2.1 b.2.2.2.2.2.2.2.1)) = true → K (l_eqStage_R false)) ∧ ((!(m_eq (α := List Int) a.2.2.2.2.2.2.2.1 b.2.2.2.2.2.2.2.1)) = false → (((!(m_eq (α := List Int) a.2.2.2.2.2.2.2.2.1 b.2.2.2.2.2.2.2.2.1)) = true → K (l_eqStage_R false)) ∧ ((!(m_eq (α := List Int) a.2.2.2.2.2.2.2.2.1 b.2.2.2.2.2.2.2.2.1)) = false → (((!(m_eq (α := List Int) a.2.2.2.2.2.2.2.2.2.1 b.2.2.2.2.2.2.2.2.2.1)) = true → K (l_eqStage_R false)) ∧ ((!(m_eq (α := List Int) a.2.2.2.2.2.2.2.2.2.1 b.2.2.2.2.2.2.2.2.2.1)) = false → (((!(m_eq (α := List Int) a.2.2.2.2.2.2.2.2.2.2.1 b.2.2.2.2.2.2.2.2.2.2.1)) = true → K (l_eqStage_R false)) ∧ ((!(m_eq (α := List Int) a.2.2.2.2.2.2.2.2.2.2.1 b.2.2.2.2.2.2.2.2.2.2.1)) = false → (((!(m_eq (α := TGrads) a.2.2.2.2.2.2.2.2.2.2.2 b.2.2.2.2.2.2.2.2.2.2.2)) = true → K (l_eqStage_R false)) ∧ ((!(m_eq (α := TGrads) a.2.2.2.2.2.2.2.2.2.2.2 b.2.2.2.2.2.2.2.2.2.2.2)) = false → K (l_eqStage_R true)))))))))))))))))))))))))) : Hold (tawp l_eqStage_G 0 l_eqStage_c (TQ 0 l_eqStage_rs K) (tstart [(.a (Tup.cells ctStage a)), (.a (Tup.cells ctStage b))])) :=
  Hold.of (by kernel_rfl) h
theorem l_eqStage_t (a : TStage) (b : TStage) (r : TRes) (h : Hold (tawp l_eqStage_G 0 l_eqStage_c (TQ 0 l_eqStage_rs fun r' => r' = r) (tstart [(.a (Tup.cells ctStage a)), (.a (Tup.cells ctStage b))]))) : TCon Try.prog 80 [(.a (Tup.cells ctStage a)), (.a (Tup.cells ctStage b))] r :=
  tcon_gen (sg := [(.a ctStage), (.a ctStage)]) mixed (TOk.cons l_eqInsS_ok (TOk.cons l_eqOpS_ok (TOk.cons l_eqSavedS_ok (TOk.cons l_eqRowS_ok (TOk.cons l_eqIntS_ok (TOk.cons l_eqGrads_ok TOk.nil)))))) l_eqStage_st (by kernel_rfl) (by kernel_rfl) (by kernel_rfl) h
theorem l_eqStage_h : l_eqStage_C := by
  intro a b
  refine tcon_bd rfl fun hb => l_eqStage_t a b _ (l_eqStage_v0 _ a b ?_)
  refine ⟨fun h => R_eq (Eq.symm (decide_eq_false (by rintro rfl; simp [m_eq] at h))), fun h0 => ?_⟩
  refine ⟨fun h => R_eq (Eq.symm (decide_eq_false (by rintro rfl; simp [m_eq] at h))), fun h1 => ?_⟩
  refine ⟨fun h => R_eq (Eq.symm (decide_eq_false (by rintro rfl; simp [m_eq] at h))), fun h2 => ?_⟩
  refine ⟨fun h => R_eq (Eq.symm (decide_eq_false (by rintro rfl; simp [m_eq] at h))), fun h3 => ?_⟩
  refine ⟨fun h => R_eq (Eq.symm (decide_eq_false (by rintro rfl; simp [m_eq] at h))), fun h4 => ?_⟩
  refine ⟨fun h => R_eq (Eq.symm (decide_eq_false (by rintro rfl; simp [m_eq] at h))), fun h5 => ?_⟩
  refine ⟨fun h => R_eq (Eq.symm (decide_eq_false (by rintro rfl; simp [m_eq] at h))), fun h6 => ?_⟩
  refine ⟨fun h => R_eq (Eq.symm (decide_eq_false (by rintro rfl; simp [m_eq] at h))), fun h7 => ?_⟩
  refine ⟨fun h => R_eq (Eq.symm (decide_eq_false (by rintro rfl; simp [m_eq] at h))), fun h8 => ?_⟩
  refine ⟨fun h => R_eq (Eq.symm (decide_eq_false (by rintro rfl; simp [m_eq] at h))), fun h9 => ?_⟩
  refine ⟨fun h => R_eq (Eq.symm (decide_eq_false (by rintro rfl; simp [m_eq] at h))), fun h10 => ?_⟩
  refine ⟨fun h => R_eq (Eq.symm (decide_eq_false (by rintro rfl; simp [m_eq] at h))), fun h11 => ?_⟩
  refine R_eq (Eq.symm (decide_eq_true ?_))
  simp [m_eq] at h0 h1 h2 h3 h4 h5 h6 h7 h8 h9 h10 h11
  simp [Prod.ext_iff, *]

theorem l_eqStage_ok : TRowOk Try.prog l_eqStage_row := rowOk fun x _ => l_eqStage_h x.1 x.2.1

def l_eqStageS_R (t : Bool) : TRes := ⟨(.c .bool t), [], [], false⟩
def l_eqStageS_row : TRow := mkRow 170 [(.c (.sl ctStage)), (.c (.sl ctStage))] fun x => (none, l_eqStageS_R (m_eq (α := List TStage) x.1 x.2.1))
def l_eqStageS_C : Prop := ∀ (x0 : List TStage) (x1 : List TStage), TCon Try.prog 170 [(.c (.sl ctStage) x0), (.c (.sl ctStage) x1)] (l_eqStageS_R (m_eq (α := List TStage) x0 x1))

/-! laws.eqStageS -/
def l_eqStageS_G : List TRow := [l_eqStage_row]
def l_eqStageS_b2 : TCode :=
  (.seq (.seq (.reg [.op (some 11) (.mov (.s 5)),
     .op (some 12) (.mov (.s 0)),
     .op (some 13) (.len (.s 12)),
     .op (some 14) (.bin .lss (.s 11) (.s 13))])
  (.cond (.s 14) .skip (.exit 0)))
 (.seq (.block 1 (.seq (.draw [.op (some 17) (.mov (.s 0)),
       .op (some 18) (.mov (.s 5)),
       .op (some 19) (.iad (.s 17) (.s 18) ctStage),
       .op (some 20) (.load (.s 19) 14 true),
       .op (some 21) (.mov (.s 1)),
       .op (some 22) (.mov (.s 5)),
       .op (some 23) (.iad (.s 21) (.s 22) ctStage),
       .op (some 24) (.load (.s 23) 14 true),
       .op (some 25) (.call 80 [(.s 20), (.s 24)]),
       .op (some 26) (.not (.s 25))] [])
    (.cond (.s 26) (.seq (.reg [.op (some 4) (.mov (.k (.c .bool false)))])
      .ret) .skip)))
  (.reg [.op (some 15) (.mov (.s 5)),
     .op (some 16) (.bin .add (.s 15) (.k (.c TI (1 : Int)))),
     .op (some 5) (.mov (.s 16))])))
def l_eqStageS_L2 : List (Nat × Md) := [(0, .one .d), (1, .one .d), (5, .one .d)]
def l_eqStageS_y1 : TCode :=
  (.seq (.reg [.op (some 4) (.mov (.k (.c .bool true)))])
 .ret)
def l_eqStageS_c : TCode :=
  (.seq (.reg [.op (some 4) (.mov (.k (.c .bool false)))])
 (.seq (.seq (.reg [.op (some 6) (.mov (.s 0)),
      .op (some 7) (.len (.s 6)),
      .op (some 8) (.mov (.s 1)),
      .op (some 9) (.len (.s 8)),
      .op (some 10) (.bin .neq (.s 7) (.s 9))])
   (.cond (.s 10) (.seq (.reg [.op (some 4) (.mov (.k (.c .bool false)))])
     .ret) .skip))
  (.seq (.seq (.reg [.op (some 5) (.mov (.k (.c TI (0 : Int))))])
    (.block 0 (.loop l_eqStageS_L2 l_eqStageS_b2)))
   l_eqStageS_y1)))
def l_eqStageS_rs : List (ARv × Md) := [(.t 4, .one .d)]
theorem l_eqStageS_st : compF Try.prog 170 = some (l_eqStageS_c.er, l_eqStageS_rs.map Prod.fst, 27) := by kernel_rfl
def l_eqStageS_Q (K : TRes → Prop) : TPost := TQ 0 l_eqStageS_rs K
def l_eqStageS_q1 (K : TRes → Prop) : TPost := Qseq (tawp l_eqStageS_G 0 l_eqStageS_y1 (l_eqStageS_Q K)) (l_eqStageS_Q K)
def l_eqStageS_q2 (K : TRes → Prop) : TPost := Qblk 0 (l_eqStageS_q1 K)
def l_eqStageS_A2 (K : TRes → Prop) (a : List TStage) (b : List TStage) (i : Int) : Prop := Loop l_eqStageS_G 0 l_eqStageS_L2 l_eqStageS_b2 (l_eqStageS_q2 K) ⟨[(0, (.c (.sl ctStage) a)), (1, (.c (.sl ctStage) b)), (5, (.c TI i))], [], 0⟩
theorem l_eqStageS_v2 (K : TRes → Prop) (a : List TStage) (b : List TStage) (i : Int) (h :
  (((decide (i < (a.length : Int))) = true → ((((0 : Int) ≤ i ∧ Int.toNat i < a.length) ∧ ((0 : Int) ≤ i ∧ Int.toNat i < b.length)) ∧ (((!(m_eq (α := TStage) (gtd dStage a (Int.toNat i)) (gtd dStage b (Int.toNat i)))) = true → K (l_eqStageS_R false)) ∧ ((!(m_eq (α := TStage) (gtd dStage a (Int.toNat i)) (gtd dStage b (Int.toNat i)))) = false → (l_eqStageS_A2 K a b (w64 (i + (1 : Int)))))))) ∧ ((decide (i < (a.length : Int))) = false → K (l_eqStageS_R true)))) : l_eqStageS_A2 K a b i :=
  Loop.of (by kernel_rfl) h
theorem l_eqStageS_v0 (K : TRes → Prop) (a : List TStage) (b : List TStage) (h :
  ((((a.length : Int) != (b.length : Int)) = true → K (l_eqStageS_R false)) ∧ (((a.length : Int) != (b.length : Int)) = false → (l_eqStageS_A2 K a b (0 : Int))))) : Hold (tawp l_eqStageS_G 0 l_eqStageS_c (TQ 0 l_eqStageS_rs K) (tstart [(.c (.sl ctStage) a), (.c (.sl ctStage) b)])) :=
  Hold.of (by kernel_rfl) h
theorem l_eqStageS_t (a : List TStage) (b : List TStage) (r : TRes) (h : Hold (tawp l_eqStageS_G 0 l_eqStageS_c (TQ 0 l_eqStageS_rs fun r' => r' = r) (tstart [(.c (.sl ctStage) a), (.c (.sl ctStage) b)]))) : TCon Try.prog 170 [(.c (.sl ctStage) a), (.c (.sl ctStage) b)] r :=
  tcon_gen (sg := [(.c (.sl ctStage)), (.c (.sl ctStage))]) mixed (TOk.cons l_eqStage_ok TOk.nil) l_eqStageS_st (by kernel_rfl) (by kernel_rfl) (by kernel_rfl) h
theorem l_eqStageS_h : l_eqStageS_C := by
  intro a b
  refine tcon_bd rfl fun hb => l_eqStageS_t a b _ (l_eqStageS_v0 _ a b ?_)
  exact eqLoopG dStage (E := m_eq) (fun _ _ => rfl) hb.1.1 (fun i h => l_eqStageS_v2 _ a b i h) (Q := fun x => l_eqStageS_R x = l_eqStageS_R (m_eq (α := List TStage) a b)) rfl

theorem l_eqStageS_ok : TRowOk Try.prog l_eqStageS_row := rowOk fun x _ => l_eqStageS_h x.1 x.2.1

end
end Go.Proofs.Ytpnblnkggeopkaa.Am
