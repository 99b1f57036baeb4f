/-
  Written by program: the code of functions, what it asks, and that it comes to what the models say.
-/
import Derived.Test.YtpnblnkggeopkaaH7
import Derived.Test.YtpnblnkggeopkaaH6
import Derived.Test.YtpnblnkggeopkaaPD
namespace Go.Proofs.Ytpnblnkggeopkaa.Am
open Go Go.RowKit Go.Proofs.Ytpnblnkggeopkaa
set_option linter.unusedVariables false
set_option linter.unusedSimpArgs false
noncomputable section

def l_FnExactWithinLimits_R (t : Bool) : TRes := ⟨(.c .bool t), [], [], false⟩
def l_FnExactWithinLimits_row : TRow := mkRow 29 [(.a ctConfig), (.a ctPipe)] fun x => (none, l_FnExactWithinLimits_R (mTrue2 x.1 x.2.1))
def l_FnExactWithinLimits_C : Prop := ∀ (x0 : TConfig) (x1 : TPipe), TCon Try.prog 29 [(.a (Tup.cells ctConfig x0)), (.a (Tup.cells ctPipe x1))] (l_FnExactWithinLimits_R (mTrue2 x0 x1))

/-! laws.FnExactWithinLimits -/
def l_FnExactWithinLimits_G : List TRow := [l_szConfig_row, l_szPipe_row, l_toConfig_row, l_toPipe_row, s_WithinLimits_row, i_WithinLimits_row, l_eqConfig_row, l_eqPipe_row]
def l_FnExactWithinLimits_c : TCode :=
  (.seq (.reg [.op (some 2) (.box 79 (.s 0) 6),
    .op (some 3) (.box 117 (.s 1) 4),
    .op (some 4) (.mov (.k (.c .bool false)))])
 (.seq (.reg [.op (some 5) (.mov (.k (.c TI (1048576 : Int))))])
  (.seq (.reg [.op (some 10) (.load (.s 2) 6 true),
      .op (some 11) (.mov (.s 5)),
      .op (some 12) (.call 67 [(.s 10), (.s 11)]),
      .op (some 5) (.mov (.s 12))])
   (.seq (.seq (.reg [.op (some 13) (.mov (.s 5)),
        .op (some 14) (.bin .lss (.s 13) (.k (.c TI (0 : Int))))])
     (.cond (.s 14) (.seq (.reg [.op (some 4) (.mov (.k (.c .bool true)))])
       .ret) .skip))
    (.seq (.reg [.op (some 15) (.load (.s 3) 4 true),
        .op (some 16) (.mov (.s 5)),
        .op (some 17) (.call 92 [(.s 15), (.s 16)]),
        .op (some 5) (.mov (.s 17))])
     (.seq (.seq (.reg [.op (some 18) (.mov (.s 5)),
          .op (some 19) (.bin .lss (.s 18) (.k (.c TI (0 : Int))))])
       (.cond (.s 19) (.seq (.reg [.op (some 4) (.mov (.k (.c .bool true)))])
         .ret) .skip))
      (.seq (.draw [.op (some 20) (.load (.s 2) 6 true),
          .op (some 21) (.call 69 [(.s 20)]),
          .op (some 22) (.load (.s 3) 4 true),
          .op (some 23) (.call 94 [(.s 22)]),
          .op (some 24) (.call 112 [(.s 21), (.s 23)]),
          .op (some 6) (.mov (.s 24))] [(1, 2)])
       (.seq (.reg [.op (some 25) (.load (.s 2) 6 true),
           .op (some 26) (.call 69 [(.s 25)]),
           .op (some 7) (.new 83 [(.n ctOp), (.n [TI]), (.c TI (0 : Int)), (.n [.bool]), (.n [TI]), (.n [TI])]),
           .op none (.store (.s 7) (.s 26) 6)])
        (.seq (.reg [.op (some 27) (.load (.s 3) 4 true),
            .op (some 28) (.call 94 [(.s 27)]),
            .op (some 8) (.new 123 [(.n ctPair), (.n ctStage), (.n ctQueue), (.n ctQueue)]),
            .op none (.store (.s 8) (.s 28) 4)])
         (.seq (.reg [.op (some 29) (.load (.s 7) 6 true),
             .op (some 30) (.load (.s 8) 4 true),
             .op (some 31) (.call 113 [(.s 29), (.s 30)]),
             .op (some 9) (.mov (.s 31))])
          (.seq (.seq (.reg [.op (some 32) (.mov (.s 9)),
               .op (some 33) (.mov (.s 6)),
               .op (some 34) (.eqb true (.s 32) (.s 33))])
            (.cond (.s 34) (.seq (.reg [.op (some 4) (.mov (.k (.c .bool false)))])
              .ret) .skip))
           (.seq (.seq (.draw [.op (some 35) (.load (.s 7) 6 true),
                .op (some 36) (.load (.s 2) 6 true),
                .op (some 37) (.call 69 [(.s 36)]),
                .op (some 38) (.call 71 [(.s 35), (.s 37)]),
                .op (some 39) (.not (.s 38))] [(0, 2)])
             (.cond (.s 39) (.seq (.reg [.op (some 4) (.mov (.k (.c .bool false)))])
               .ret) .skip))
            (.seq (.seq (.draw [.op (some 40) (.load (.s 8) 4 true),
                 .op (some 41) (.load (.s 3) 4 true),
                 .op (some 42) (.call 94 [(.s 41)]),
                 .op (some 43) (.call 96 [(.s 40), (.s 42)]),
                 .op (some 44) (.not (.s 43))] [(0, 2)])
              (.cond (.s 44) (.seq (.reg [.op (some 4) (.mov (.k (.c .bool false)))])
                .ret) .skip))
             (.seq (.reg [.op (some 4) (.mov (.k (.c .bool true)))])
              .ret))))))))))))))
def l_FnExactWithinLimits_rs : List (ARv × Md) := [(.t 4, .one .d)]
theorem l_FnExactWithinLimits_st : compF Try.prog 29 = some (l_FnExactWithinLimits_c.er, l_FnExactWithinLimits_rs.map Prod.fst, 45) := by kernel_rfl
def l_FnExactWithinLimits_Q (K : TRes → Prop) : TPost := TQ 0 l_FnExactWithinLimits_rs K
theorem l_FnExactWithinLimits_v0 (K : TRes → Prop) (aC : TConfig) (aP : TPipe) (h :
  ((p_sz (α := TConfig) aC (1048576 : Int)) ∧ (((decide ((m_sz (α := TConfig) aC (1048576 : Int)) < (0 : Int))) = true → K (l_FnExactWithinLimits_R true)) ∧ ((decide ((m_sz (α := TConfig) aC (1048576 : Int)) < (0 : Int))) = false → ((p_sz (α := TPipe) aP (m_sz (α := TConfig) aC (1048576 : Int))) ∧ (((decide ((m_sz (α := TPipe) aP (m_sz (α := TConfig) aC (1048576 : Int))) < (0 : Int))) = true → K (l_FnExactWithinLimits_R true)) ∧ ((decide ((m_sz (α := TPipe) aP (m_sz (α := TConfig) aC (1048576 : Int))) < (0 : Int))) = false → (((p_to (α := TConfig) aC) ∧ (p_to (α := TPipe) aP)) ∧ ((p_to (α := TConfig) aC) ∧ ((p_to (α := TPipe) aP) ∧ (((!((m_withinLimits (id (α := TConfig) aC) (id (α := TPipe) aP)) == (m_withinLimits (id (α := TConfig) aC) (id (α := TPipe) aP)))) = true → K (l_FnExactWithinLimits_R false)) ∧ ((!((m_withinLimits (id (α := TConfig) aC) (id (α := TPipe) aP)) == (m_withinLimits (id (α := TConfig) aC) (id (α := TPipe) aP)))) = false → ((p_to (α := TConfig) aC) ∧ (((!(m_eq (α := TConfig) (id (α := TConfig) aC) (id (α := TConfig) aC))) = true → K (l_FnExactWithinLimits_R false)) ∧ ((!(m_eq (α := TConfig) (id (α := TConfig) aC) (id (α := TConfig) aC))) = false → ((p_to (α := TPipe) aP) ∧ (((!(m_eq (α := TPipe) (id (α := TPipe) aP) (id (α := TPipe) aP))) = true → K (l_FnExactWithinLimits_R false)) ∧ ((!(m_eq (α := TPipe) (id (α := TPipe) aP) (id (α := TPipe) aP))) = false → K (l_FnExactWithinLimits_R true))))))))))))))))))) : Hold (tawp l_FnExactWithinLimits_G 0 l_FnExactWithinLimits_c (TQ 0 l_FnExactWithinLimits_rs K) (tstart [(.a (Tup.cells ctConfig aC)), (.a (Tup.cells ctPipe aP))])) :=
  Hold.of (by kernel_rfl) h
theorem l_FnExactWithinLimits_t (aC : TConfig) (aP : TPipe) (r : TRes) (h : Hold (tawp l_FnExactWithinLimits_G 0 l_FnExactWithinLimits_c (TQ 0 l_FnExactWithinLimits_rs fun r' => r' = r) (tstart [(.a (Tup.cells ctConfig aC)), (.a (Tup.cells ctPipe aP))]))) : TCon Try.prog 29 [(.a (Tup.cells ctConfig aC)), (.a (Tup.cells ctPipe aP))] r :=
  tcon_gen (sg := [(.a ctConfig), (.a ctPipe)]) mixed (TOk.cons l_szConfig_ok (TOk.cons l_szPipe_ok (TOk.cons l_toConfig_ok (TOk.cons l_toPipe_ok (TOk.cons s_WithinLimits_ok (TOk.cons i_WithinLimits_ok (TOk.cons l_eqConfig_ok (TOk.cons l_eqPipe_ok TOk.nil)))))))) l_FnExactWithinLimits_st (by kernel_rfl) (by kernel_rfl) (by kernel_rfl) h
theorem l_FnExactWithinLimits_h : l_FnExactWithinLimits_C := by
  intro aC aP
  refine tcon_bd rfl fun hb => l_FnExactWithinLimits_t aC aP _ (l_FnExactWithinLimits_v0 _ aC aP ?_)
  refine ⟨pl_0, fun _ => rfl, fun g_aC => ?_⟩
  have q_aC := law_p (of_decide_eq_false g_aC) (Int.le_refl _)
  refine ⟨pl_szN (pl_0), fun _ => rfl, fun g_aP => ?_⟩
  have q_aP := law_p (of_decide_eq_false g_aP) (sz_le (of_decide_eq_false g_aC) (Int.le_refl _))
  simp [m_eq, mTrue, mTrue2, mTrue3, mTrue4, mTrue5, q_aC, q_aP]

theorem l_FnExactWithinLimits_ok : TRowOk Try.prog l_FnExactWithinLimits_row := rowOk fun x _ => l_FnExactWithinLimits_h x.1 x.2.1

end
end Go.Proofs.Ytpnblnkggeopkaa.Am
