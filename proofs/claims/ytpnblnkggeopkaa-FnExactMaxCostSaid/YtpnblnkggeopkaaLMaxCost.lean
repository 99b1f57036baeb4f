/-
  Written by program: the code of functions, what it asks, and that it comes to what the models say.
-/
import Derived.Test.YtpnblnkggeopkaaH2
import Derived.Test.YtpnblnkggeopkaaH1
import Derived.Test.YtpnblnkggeopkaaP5
namespace Go.Proofs.Ytpnblnkggeopkaa.Am
open Go Go.RowKit Go.Proofs.Ytpnblnkggeopkaa
set_option linter.unusedVariables false
set_option linter.unusedSimpArgs false
noncomputable section

def l_FnExactMaxCost_R (t : Bool) : TRes := ⟨(.c .bool t), [], [], false⟩
def l_FnExactMaxCost_row : TRow := mkRow 12 [(.a [(.sl ctOp)]), (.c (.sl [TI]))] fun x => (none, l_FnExactMaxCost_R (mTrue2 x.1 x.2.1))
def l_FnExactMaxCost_C : Prop := ∀ (x0 : List TOp') (x1 : List Int), TCon Try.prog 12 [(.a [(.c (.sl ctOp) x0)]), (.c (.sl [TI]) x1)] (l_FnExactMaxCost_R (mTrue2 x0 x1))

/-! laws.FnExactMaxCost -/
def l_FnExactMaxCost_G : List TRow := [l_szModel_row, l_toModel_row, l_toIntS_row, s_MaxCost_row, i_MaxCost_row, l_eqModel_row, l_eqIntS_row]
def l_FnExactMaxCost_c : TCode :=
  (.seq (.reg [.op (some 2) (.box 61 (.s 0) 1),
    .op (some 4) (.mov (.k (.c .bool false)))])
 (.seq (.seq (.reg [.op (some 10) (.mov (.s 1)),
      .op (some 11) (.len (.s 10)),
      .op (some 12) (.bin .gtr (.s 11) (.k (.c TI (1048576 : Int))))])
   (.cond (.s 12) (.seq (.reg [.op (some 4) (.mov (.k (.c .bool true)))])
     .ret) .skip))
  (.seq (.reg [.op (some 5) (.mov (.k (.c TI (1048576 : Int))))])
   (.seq (.reg [.op (some 13) (.load (.s 2) 1 true),
       .op (some 14) (.mov (.s 5)),
       .op (some 15) (.call 54 [(.s 13), (.s 14)]),
       .op (some 5) (.mov (.s 15))])
    (.seq (.seq (.reg [.op (some 16) (.mov (.s 5)),
         .op (some 17) (.bin .lss (.s 16) (.k (.c TI (0 : Int))))])
      (.cond (.s 17) (.seq (.reg [.op (some 4) (.mov (.k (.c .bool true)))])
        .ret) .skip))
     (.seq (.reg [.op (some 18) (.load (.s 2) 1 true),
         .op (some 19) (.call 56 [(.s 18)]),
         .op (some 20) (.mov (.s 1)),
         .op (some 21) (.call 57 [(.s 20)]),
         .op (some 22) (.call 65 [(.s 19), (.s 21)]),
         .op (some 6) (.mov (.s 22))])
      (.seq (.reg [.op (some 23) (.load (.s 2) 1 true),
          .op (some 24) (.call 56 [(.s 23)]),
          .op (some 7) (.new 66 [(.n ctOp)]),
          .op none (.store (.s 7) (.s 24) 1)])
       (.seq (.reg [.op (some 25) (.mov (.s 1)),
           .op (some 26) (.call 57 [(.s 25)]),
           .op (some 8) (.mov (.s 26))])
        (.seq (.reg [.op (some 27) (.load (.s 7) 1 true),
            .op (some 28) (.mov (.s 8)),
            .op (some 29) (.call 66 [(.s 27), (.s 28)]),
            .op (some 9) (.mov (.s 29))])
         (.seq (.seq (.reg [.op (some 30) (.mov (.s 9)),
              .op (some 31) (.mov (.s 6)),
              .op (some 32) (.bin .neq (.s 30) (.s 31))])
           (.cond (.s 32) (.seq (.reg [.op (some 4) (.mov (.k (.c .bool false)))])
             .ret) .skip))
          (.seq (.seq (.draw [.op (some 33) (.load (.s 7) 1 true),
               .op (some 34) (.load (.s 2) 1 true),
               .op (some 35) (.call 56 [(.s 34)]),
               .op (some 36) (.call 59 [(.s 33), (.s 35)]),
               .op (some 37) (.not (.s 36))] [(0, 2)])
            (.cond (.s 37) (.seq (.reg [.op (some 4) (.mov (.k (.c .bool false)))])
              .ret) .skip))
           (.seq (.seq (.reg [.op (some 38) (.mov (.s 8)),
                .op (some 39) (.mov (.s 1)),
                .op (some 40) (.call 57 [(.s 39)]),
                .op (some 41) (.call 60 [(.s 38), (.s 40)]),
                .op (some 42) (.not (.s 41))])
             (.cond (.s 42) (.seq (.reg [.op (some 4) (.mov (.k (.c .bool false)))])
               .ret) .skip))
            (.seq (.reg [.op (some 4) (.mov (.k (.c .bool true)))])
             .ret)))))))))))))
def l_FnExactMaxCost_rs : List (ARv × Md) := [(.t 4, .one .d)]
theorem l_FnExactMaxCost_st : compF Try.prog 12 = some (l_FnExactMaxCost_c.er, l_FnExactMaxCost_rs.map Prod.fst, 43) := by kernel_rfl
def l_FnExactMaxCost_Q (K : TRes → Prop) : TPost := TQ 0 l_FnExactMaxCost_rs K
theorem l_FnExactMaxCost_v0 (K : TRes → Prop) (aM : List TOp') (aCuts : List Int) (h :
  (((decide ((aCuts.length : Int) > (1048576 : Int))) = true → K (l_FnExactMaxCost_R true)) ∧ ((decide ((aCuts.length : Int) > (1048576 : Int))) = false → ((p_sz (α := List TOp') aM (1048576 : Int)) ∧ (((decide ((m_sz (α := List TOp') aM (1048576 : Int)) < (0 : Int))) = true → K (l_FnExactMaxCost_R true)) ∧ ((decide ((m_sz (α := List TOp') aM (1048576 : Int)) < (0 : Int))) = false → (((p_to (α := List TOp') aM) ∧ (p_to (α := List Int) aCuts)) ∧ ((p_to (α := List TOp') aM) ∧ ((p_to (α := List Int) aCuts) ∧ ((((m_maxCost (id (α := List TOp') aM) (id (α := List Int) aCuts)) != (m_maxCost (id (α := List TOp') aM) (id (α := List Int) aCuts))) = true → K (l_FnExactMaxCost_R false)) ∧ (((m_maxCost (id (α := List TOp') aM) (id (α := List Int) aCuts)) != (m_maxCost (id (α := List TOp') aM) (id (α := List Int) aCuts))) = false → ((p_to (α := List TOp') aM) ∧ (((!(m_eq (α := List TOp') (id (α := List TOp') aM) (id (α := List TOp') aM))) = true → K (l_FnExactMaxCost_R false)) ∧ ((!(m_eq (α := List TOp') (id (α := List TOp') aM) (id (α := List TOp') aM))) = false → ((p_to (α := List Int) aCuts) ∧ (((!(m_eq (α := List Int) (id (α := List Int) aCuts) (id (α := List Int) aCuts))) = true → K (l_FnExactMaxCost_R false)) ∧ ((!(m_eq (α := List Int) (id (α := List Int) aCuts) (id (α := List Int) aCuts))) = false → K (l_FnExactMaxCost_R true)))))))))))))))))) : Hold (tawp l_FnExactMaxCost_G 0 l_FnExactMaxCost_c (TQ 0 l_FnExactMaxCost_rs K) (tstart [(.a [(.c (.sl ctOp) aM)]), (.c (.sl [TI]) aCuts)])) :=
  Hold.of (by kernel_rfl) h
theorem l_FnExactMaxCost_t (aM : List TOp') (aCuts : List Int) (r : TRes) (h : Hold (tawp l_FnExactMaxCost_G 0 l_FnExactMaxCost_c (TQ 0 l_FnExactMaxCost_rs fun r' => r' = r) (tstart [(.a [(.c (.sl ctOp) aM)]), (.c (.sl [TI]) aCuts)]))) : TCon Try.prog 12 [(.a [(.c (.sl ctOp) aM)]), (.c (.sl [TI]) aCuts)] r :=
  tcon_gen (sg := [(.a [(.sl ctOp)]), (.c (.sl [TI]))]) mixed (TOk.cons l_szModel_ok (TOk.cons l_toModel_ok (TOk.cons l_toIntS_ok (TOk.cons s_MaxCost_ok (TOk.cons i_MaxCost_ok (TOk.cons l_eqModel_ok (TOk.cons l_eqIntS_ok TOk.nil))))))) l_FnExactMaxCost_st (by kernel_rfl) (by kernel_rfl) (by kernel_rfl) h
theorem l_FnExactMaxCost_h : l_FnExactMaxCost_C := by
  intro aM aCuts
  refine tcon_bd rfl fun hb => l_FnExactMaxCost_t aM aCuts _ (l_FnExactMaxCost_v0 _ aM aCuts ?_)
  refine ⟨fun _ => rfl, fun g_aCuts => ?_⟩
  have q_aCuts := law_ints (of_decide_eq_false g_aCuts)
  refine ⟨pl_0, fun _ => rfl, fun g_aM => ?_⟩
  have q_aM := law_p (of_decide_eq_false g_aM) (Int.le_refl _)
  simp [m_eq, mTrue, mTrue2, mTrue3, mTrue4, mTrue5, q_aCuts, q_aM]

theorem l_FnExactMaxCost_ok : TRowOk Try.prog l_FnExactMaxCost_row := rowOk fun x _ => l_FnExactMaxCost_h x.1 x.2.1

end
end Go.Proofs.Ytpnblnkggeopkaa.Am
