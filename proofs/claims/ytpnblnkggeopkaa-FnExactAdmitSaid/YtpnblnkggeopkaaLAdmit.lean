/-
  Written by program: the code of functions, what it asks, and that it comes to what the models say.
-/
import Derived.Test.YtpnblnkggeopkaaH7
import Derived.Test.YtpnblnkggeopkaaH1
import Derived.Test.YtpnblnkggeopkaaP7
namespace Go.Proofs.Ytpnblnkggeopkaa.Am
open Go Go.RowKit Go.Proofs.Ytpnblnkggeopkaa
set_option linter.unusedVariables false
set_option linter.unusedSimpArgs false
noncomputable section

def l_FnExactAdmit_R (t : Bool) : TRes := ⟨(.c .bool t), [], [], false⟩
def l_FnExactAdmit_row : TRow := mkRow 20 [(.a ctConfig), (.c (.sl ctPair))] fun x => (none, l_FnExactAdmit_R (mTrue2 x.1 x.2.1))
def l_FnExactAdmit_C : Prop := ∀ (x0 : TConfig) (x1 : List TPair), TCon Try.prog 20 [(.a (Tup.cells ctConfig x0)), (.c (.sl ctPair) x1)] (l_FnExactAdmit_R (mTrue2 x0 x1))

/-! laws.FnExactAdmit -/
def l_FnExactAdmit_G : List TRow := [l_szConfig_row, l_szPairS_row, l_toConfig_row, l_toPairS_row, s_Admit_row, i_Admit_row, l_eqConfig_row, l_eqPairS_row]
def l_FnExactAdmit_c : TCode :=
  (.seq (.reg [.op (some 2) (.box 79 (.s 0) 6),
    .op (some 4) (.mov (.k (.c .bool false)))])
 (.seq (.reg [.op (some 5) (.mov (.k (.c TI (1048576 : Int))))])
  (.seq (.reg [.op (some 10) (.load (.s 2) 6 true),
      .op (some 11) (.mov (.s 5)),
      .op (some 12) (.call 67 [(.s 10), (.s 11)]),
      .op (some 5) (.mov (.s 12))])
   (.seq (.seq (.reg [.op (some 13) (.mov (.s 5)),
        .op (some 14) (.bin .lss (.s 13) (.k (.c TI (0 : Int))))])
     (.cond (.s 14) (.seq (.reg [.op (some 4) (.mov (.k (.c .bool true)))])
       .ret) .skip))
    (.seq (.reg [.op (some 15) (.mov (.s 1)),
        .op (some 16) (.mov (.s 5)),
        .op (some 17) (.call 87 [(.s 15), (.s 16)]),
        .op (some 5) (.mov (.s 17))])
     (.seq (.seq (.reg [.op (some 18) (.mov (.s 5)),
          .op (some 19) (.bin .lss (.s 18) (.k (.c TI (0 : Int))))])
       (.cond (.s 19) (.seq (.reg [.op (some 4) (.mov (.k (.c .bool true)))])
         .ret) .skip))
      (.seq (.reg [.op (some 20) (.load (.s 2) 6 true),
          .op (some 21) (.call 69 [(.s 20)]),
          .op (some 22) (.mov (.s 1)),
          .op (some 23) (.call 89 [(.s 22)]),
          .op (some 24) (.call 88 [(.s 21), (.s 23)]),
          .op (some 6) (.mov (.s 24))])
       (.seq (.reg [.op (some 25) (.load (.s 2) 6 true),
           .op (some 26) (.call 69 [(.s 25)]),
           .op (some 7) (.new 83 [(.n ctOp), (.n [TI]), (.c TI (0 : Int)), (.n [.bool]), (.n [TI]), (.n [TI])]),
           .op none (.store (.s 7) (.s 26) 6)])
        (.seq (.reg [.op (some 27) (.mov (.s 1)),
            .op (some 28) (.call 89 [(.s 27)]),
            .op (some 8) (.mov (.s 28))])
         (.seq (.reg [.op (some 29) (.load (.s 7) 6 true),
             .op (some 30) (.mov (.s 8)),
             .op (some 31) (.call 90 [(.s 29), (.s 30)]),
             .op (some 9) (.mov (.s 31))])
          (.seq (.seq (.reg [.op (some 32) (.mov (.s 9)),
               .op (some 33) (.mov (.s 6)),
               .op (some 34) (.bin .neq (.s 32) (.s 33))])
            (.cond (.s 34) (.seq (.reg [.op (some 4) (.mov (.k (.c .bool false)))])
              .ret) .skip))
           (.seq (.seq (.draw [.op (some 35) (.load (.s 7) 6 true),
                .op (some 36) (.load (.s 2) 6 true),
                .op (some 37) (.call 69 [(.s 36)]),
                .op (some 38) (.call 71 [(.s 35), (.s 37)]),
                .op (some 39) (.not (.s 38))] [(0, 2)])
             (.cond (.s 39) (.seq (.reg [.op (some 4) (.mov (.k (.c .bool false)))])
               .ret) .skip))
            (.seq (.seq (.reg [.op (some 40) (.mov (.s 8)),
                 .op (some 41) (.mov (.s 1)),
                 .op (some 42) (.call 89 [(.s 41)]),
                 .op (some 43) (.call 91 [(.s 40), (.s 42)]),
                 .op (some 44) (.not (.s 43))])
              (.cond (.s 44) (.seq (.reg [.op (some 4) (.mov (.k (.c .bool false)))])
                .ret) .skip))
             (.seq (.reg [.op (some 4) (.mov (.k (.c .bool true)))])
              .ret))))))))))))))
def l_FnExactAdmit_rs : List (ARv × Md) := [(.t 4, .one .d)]
theorem l_FnExactAdmit_st : compF Try.prog 20 = some (l_FnExactAdmit_c.er, l_FnExactAdmit_rs.map Prod.fst, 45) := by kernel_rfl
def l_FnExactAdmit_Q (K : TRes → Prop) : TPost := TQ 0 l_FnExactAdmit_rs K
theorem l_FnExactAdmit_v0 (K : TRes → Prop) (aC : TConfig) (aB : List TPair) (h :
  ((p_sz (α := TConfig) aC (1048576 : Int)) ∧ (((decide ((m_sz (α := TConfig) aC (1048576 : Int)) < (0 : Int))) = true → K (l_FnExactAdmit_R true)) ∧ ((decide ((m_sz (α := TConfig) aC (1048576 : Int)) < (0 : Int))) = false → ((p_sz (α := List TPair) aB (m_sz (α := TConfig) aC (1048576 : Int))) ∧ (((decide ((m_sz (α := List TPair) aB (m_sz (α := TConfig) aC (1048576 : Int))) < (0 : Int))) = true → K (l_FnExactAdmit_R true)) ∧ ((decide ((m_sz (α := List TPair) aB (m_sz (α := TConfig) aC (1048576 : Int))) < (0 : Int))) = false → (((p_to (α := TConfig) aC) ∧ (p_to (α := List TPair) aB)) ∧ ((p_to (α := TConfig) aC) ∧ ((p_to (α := List TPair) aB) ∧ ((((m_admit (id (α := TConfig) aC) (id (α := List TPair) aB)) != (m_admit (id (α := TConfig) aC) (id (α := List TPair) aB))) = true → K (l_FnExactAdmit_R false)) ∧ (((m_admit (id (α := TConfig) aC) (id (α := List TPair) aB)) != (m_admit (id (α := TConfig) aC) (id (α := List TPair) aB))) = false → ((p_to (α := TConfig) aC) ∧ (((!(m_eq (α := TConfig) (id (α := TConfig) aC) (id (α := TConfig) aC))) = true → K (l_FnExactAdmit_R false)) ∧ ((!(m_eq (α := TConfig) (id (α := TConfig) aC) (id (α := TConfig) aC))) = false → ((p_to (α := List TPair) aB) ∧ (((!(m_eq (α := List TPair) (id (α := List TPair) aB) (id (α := List TPair) aB))) = true → K (l_FnExactAdmit_R false)) ∧ ((!(m_eq (α := List TPair) (id (α := List TPair) aB) (id (α := List TPair) aB))) = false → K (l_FnExactAdmit_R true))))))))))))))))))) : Hold (tawp l_FnExactAdmit_G 0 l_FnExactAdmit_c (TQ 0 l_FnExactAdmit_rs K) (tstart [(.a (Tup.cells ctConfig aC)), (.c (.sl ctPair) aB)])) :=
  Hold.of (by kernel_rfl) h
theorem l_FnExactAdmit_t (aC : TConfig) (aB : List TPair) (r : TRes) (h : Hold (tawp l_FnExactAdmit_G 0 l_FnExactAdmit_c (TQ 0 l_FnExactAdmit_rs fun r' => r' = r) (tstart [(.a (Tup.cells ctConfig aC)), (.c (.sl ctPair) aB)]))) : TCon Try.prog 20 [(.a (Tup.cells ctConfig aC)), (.c (.sl ctPair) aB)] r :=
  tcon_gen (sg := [(.a ctConfig), (.c (.sl ctPair))]) mixed (TOk.cons l_szConfig_ok (TOk.cons l_szPairS_ok (TOk.cons l_toConfig_ok (TOk.cons l_toPairS_ok (TOk.cons s_Admit_ok (TOk.cons i_Admit_ok (TOk.cons l_eqConfig_ok (TOk.cons l_eqPairS_ok TOk.nil)))))))) l_FnExactAdmit_st (by kernel_rfl) (by kernel_rfl) (by kernel_rfl) h
theorem l_FnExactAdmit_h : l_FnExactAdmit_C := by
  intro aC aB
  refine tcon_bd rfl fun hb => l_FnExactAdmit_t aC aB _ (l_FnExactAdmit_v0 _ aC aB ?_)
  refine ⟨pl_0, fun _ => rfl, fun g_aC => ?_⟩
  have q_aC := law_p (of_decide_eq_false g_aC) (Int.le_refl _)
  refine ⟨pl_szN (pl_0), fun _ => rfl, fun g_aB => ?_⟩
  have q_aB := law_p (of_decide_eq_false g_aB) (sz_le (of_decide_eq_false g_aC) (Int.le_refl _))
  simp [m_eq, mTrue, mTrue2, mTrue3, mTrue4, mTrue5, q_aC, q_aB]

theorem l_FnExactAdmit_ok : TRowOk Try.prog l_FnExactAdmit_row := rowOk fun x _ => l_FnExactAdmit_h x.1 x.2.1

end
end Go.Proofs.Ytpnblnkggeopkaa.Am
