/-
  Written by program: the code of functions, what it asks, and that it comes to what the models say.
-/
import Derived.Test.YtpnblnkggeopkaaH7
import Derived.Test.YtpnblnkggeopkaaP6
namespace Go.Proofs.Ytpnblnkggeopkaa.Am
open Go Go.RowKit Go.Proofs.Ytpnblnkggeopkaa
set_option linter.unusedVariables false
set_option linter.unusedSimpArgs false
noncomputable section

def l_FnExactPeakOf_R (t : Bool) : TRes := ⟨(.c .bool t), [], [], false⟩
def l_FnExactPeakOf_row : TRow := mkRow 17 [(.a ctConfig), (.c TI), (.c TI)] fun x => (none, l_FnExactPeakOf_R (mTrue3 x.1 x.2.1 x.2.2.1))
def l_FnExactPeakOf_C : Prop := ∀ (x0 : TConfig) (x1 : Int) (x2 : Int), TCon Try.prog 17 [(.a (Tup.cells ctConfig x0)), (.c TI x1), (.c TI x2)] (l_FnExactPeakOf_R (mTrue3 x0 x1 x2))

/-! laws.FnExactPeakOf -/
def l_FnExactPeakOf_G : List TRow := [l_szConfig_row, l_toConfig_row, s_PeakOf_row, i_PeakOf_row, l_eqConfig_row]
def l_FnExactPeakOf_c : TCode :=
  (.seq (.reg [.op (some 3) (.box 79 (.s 0) 6),
    .op (some 6) (.mov (.k (.c .bool false)))])
 (.seq (.reg [.op (some 7) (.mov (.k (.c TI (1048576 : Int))))])
  (.seq (.reg [.op (some 11) (.load (.s 3) 6 true),
      .op (some 12) (.mov (.s 7)),
      .op (some 13) (.call 67 [(.s 11), (.s 12)]),
      .op (some 7) (.mov (.s 13))])
   (.seq (.seq (.reg [.op (some 14) (.mov (.s 7)),
        .op (some 15) (.bin .lss (.s 14) (.k (.c TI (0 : Int))))])
     (.cond (.s 15) (.seq (.reg [.op (some 6) (.mov (.k (.c .bool true)))])
       .ret) .skip))
    (.seq (.reg [.op (some 16) (.load (.s 3) 6 true),
        .op (some 17) (.call 69 [(.s 16)]),
        .op (some 18) (.mov (.s 1)),
        .op (some 19) (.mov (.s 2)),
        .op (some 20) (.call 81 [(.s 17), (.s 18), (.s 19)]),
        .op (some 8) (.mov (.s 20))])
     (.seq (.reg [.op (some 21) (.load (.s 3) 6 true),
         .op (some 22) (.call 69 [(.s 21)]),
         .op (some 9) (.new 83 [(.n ctOp), (.n [TI]), (.c TI (0 : Int)), (.n [.bool]), (.n [TI]), (.n [TI])]),
         .op none (.store (.s 9) (.s 22) 6)])
      (.seq (.reg [.op (some 23) (.load (.s 9) 6 true),
          .op (some 24) (.mov (.s 1)),
          .op (some 25) (.mov (.s 2)),
          .op (some 26) (.call 82 [(.s 23), (.s 24), (.s 25)]),
          .op (some 10) (.mov (.s 26))])
       (.seq (.seq (.reg [.op (some 27) (.mov (.s 10)),
            .op (some 28) (.mov (.s 8)),
            .op (some 29) (.bin .neq (.s 27) (.s 28))])
         (.cond (.s 29) (.seq (.reg [.op (some 6) (.mov (.k (.c .bool false)))])
           .ret) .skip))
        (.seq (.seq (.draw [.op (some 30) (.load (.s 9) 6 true),
             .op (some 31) (.load (.s 3) 6 true),
             .op (some 32) (.call 69 [(.s 31)]),
             .op (some 33) (.call 71 [(.s 30), (.s 32)]),
             .op (some 34) (.not (.s 33))] [(0, 2)])
          (.cond (.s 34) (.seq (.reg [.op (some 6) (.mov (.k (.c .bool false)))])
            .ret) .skip))
         (.seq (.reg [.op (some 6) (.mov (.k (.c .bool true)))])
          .ret))))))))))
def l_FnExactPeakOf_rs : List (ARv × Md) := [(.t 6, .one .d)]
theorem l_FnExactPeakOf_st : compF Try.prog 17 = some (l_FnExactPeakOf_c.er, l_FnExactPeakOf_rs.map Prod.fst, 35) := by kernel_rfl
def l_FnExactPeakOf_Q (K : TRes → Prop) : TPost := TQ 0 l_FnExactPeakOf_rs K
theorem l_FnExactPeakOf_v0 (K : TRes → Prop) (aC : TConfig) (aS : Int) (aMicro : Int) (h :
  ((p_sz (α := TConfig) aC (1048576 : Int)) ∧ (((decide ((m_sz (α := TConfig) aC (1048576 : Int)) < (0 : Int))) = true → K (l_FnExactPeakOf_R true)) ∧ ((decide ((m_sz (α := TConfig) aC (1048576 : Int)) < (0 : Int))) = false → ((p_to (α := TConfig) aC) ∧ ((p_to (α := TConfig) aC) ∧ ((((m_peakOf (id (α := TConfig) aC) aS aMicro) != (m_peakOf (id (α := TConfig) aC) aS aMicro)) = true → K (l_FnExactPeakOf_R false)) ∧ (((m_peakOf (id (α := TConfig) aC) aS aMicro) != (m_peakOf (id (α := TConfig) aC) aS aMicro)) = false → ((p_to (α := TConfig) aC) ∧ (((!(m_eq (α := TConfig) (id (α := TConfig) aC) (id (α := TConfig) aC))) = true → K (l_FnExactPeakOf_R false)) ∧ ((!(m_eq (α := TConfig) (id (α := TConfig) aC) (id (α := TConfig) aC))) = false → K (l_FnExactPeakOf_R true)))))))))))) : Hold (tawp l_FnExactPeakOf_G 0 l_FnExactPeakOf_c (TQ 0 l_FnExactPeakOf_rs K) (tstart [(.a (Tup.cells ctConfig aC)), (.c TI aS), (.c TI aMicro)])) :=
  Hold.of (by kernel_rfl) h
theorem l_FnExactPeakOf_t (aC : TConfig) (aS : Int) (aMicro : Int) (r : TRes) (h : Hold (tawp l_FnExactPeakOf_G 0 l_FnExactPeakOf_c (TQ 0 l_FnExactPeakOf_rs fun r' => r' = r) (tstart [(.a (Tup.cells ctConfig aC)), (.c TI aS), (.c TI aMicro)]))) : TCon Try.prog 17 [(.a (Tup.cells ctConfig aC)), (.c TI aS), (.c TI aMicro)] r :=
  tcon_gen (sg := [(.a ctConfig), (.c TI), (.c TI)]) mixed (TOk.cons l_szConfig_ok (TOk.cons l_toConfig_ok (TOk.cons s_PeakOf_ok (TOk.cons i_PeakOf_ok (TOk.cons l_eqConfig_ok TOk.nil))))) l_FnExactPeakOf_st (by kernel_rfl) (by kernel_rfl) (by kernel_rfl) h
theorem l_FnExactPeakOf_h : l_FnExactPeakOf_C := by
  intro aC aS aMicro
  refine tcon_bd rfl fun hb => l_FnExactPeakOf_t aC aS aMicro _ (l_FnExactPeakOf_v0 _ aC aS aMicro ?_)
  refine ⟨pl_0, fun _ => rfl, fun g_aC => ?_⟩
  have q_aC := law_p (of_decide_eq_false g_aC) (Int.le_refl _)
  simp [m_eq, mTrue, mTrue2, mTrue3, mTrue4, mTrue5, q_aC]

theorem l_FnExactPeakOf_ok : TRowOk Try.prog l_FnExactPeakOf_row := rowOk fun x _ => l_FnExactPeakOf_h x.1 x.2.1 x.2.2.1

end
end Go.Proofs.Ytpnblnkggeopkaa.Am
