/-
  Written by program: the code of functions, what it asks, and that it comes to what the models say.
-/
import Derived.Test.YtephkbajoofeoaaH7
import Derived.Test.YtephkbajoofeoaaPM
namespace Go.Proofs.Ytephkbajoofeoaa.Am
open Go Go.RowKit Go.Proofs.Ytephkbajoofeoaa
set_option linter.unusedVariables false
set_option linter.unusedSimpArgs false
noncomputable section

def l_FnExactTotal_R (t : Bool) : TRes := ⟨(.c .bool t), [], [], false, []⟩
def l_FnExactTotal_row : TRow := mkRow 13 [(.a ctConfig), (.c TI)] fun x => (none, l_FnExactTotal_R (mTrue2 x.1 x.2.1))
def l_FnExactTotal_C : Prop := ∀ (x0 : TConfig) (x1 : Int), TCon Try.prog 13 [(.a (Tup.cells ctConfig x0)), (.c TI x1)] (l_FnExactTotal_R (mTrue2 x0 x1))

/-! laws.FnExactTotal -/
def l_FnExactTotal_G : List TRow := [l_szConfig_row, l_toConfig_row, s_Total_row, i_Total_row, l_eqConfig_row]
def l_FnExactTotal_c : TCode :=
  (.seq (.reg [.op (some 2) (.box 111 (.s 0) 6),
    .op (some 4) (.mov (.k (.c .bool false)))])
 (.seq (.reg [.op (some 5) (.mov (.k (.c TI (1048576 : Int))))])
  (.seq (.reg [.op (some 9) (.load (.s 2) 6 true),
      .op (some 10) (.mov (.s 5)),
      .op (some 11) (.call 77 [(.s 9), (.s 10)]),
      .op (some 5) (.mov (.s 11))])
   (.seq (.seq (.reg [.op (some 12) (.mov (.s 5)),
        .op (some 13) (.bin .lss (.s 12) (.k (.c TI (0 : Int))))])
     (.cond (.s 13) (.seq (.reg [.op (some 4) (.mov (.k (.c .bool true)))])
       .ret) .skip))
    (.seq (.reg [.op (some 14) (.load (.s 2) 6 true),
        .op (some 15) (.call 79 [(.s 14)]),
        .op (some 16) (.mov (.s 1)),
        .op (some 17) (.call 78 [(.s 15), (.s 16)]),
        .op (some 6) (.mov (.s 17))])
     (.seq (.reg [.op (some 18) (.load (.s 2) 6 true),
         .op (some 19) (.call 79 [(.s 18)]),
         .op (some 7) (.new 103 [(.n ctOp), (.n [TI]), (.c TI (0 : Int)), (.n [.bool]), (.n [TI]), (.n [TI])]),
         .op none (.store (.s 7) (.s 19) 6)])
      (.seq (.reg [.op (some 20) (.load (.s 7) 6 true),
          .op (some 21) (.mov (.s 1)),
          .op (some 22) (.call 80 [(.s 20), (.s 21)]),
          .op (some 8) (.mov (.s 22))])
       (.seq (.seq (.reg [.op (some 23) (.mov (.s 8)),
            .op (some 24) (.mov (.s 6)),
            .op (some 25) (.bin .neq (.s 23) (.s 24))])
         (.cond (.s 25) (.seq (.reg [.op (some 4) (.mov (.k (.c .bool false)))])
           .ret) .skip))
        (.seq (.seq (.draw [.op (some 26) (.load (.s 7) 6 true),
             .op (some 27) (.load (.s 2) 6 true),
             .op (some 28) (.call 79 [(.s 27)]),
             .op (some 29) (.call 81 [(.s 26), (.s 28)]),
             .op (some 30) (.not (.s 29))] [(0, 2)])
          (.cond (.s 30) (.seq (.reg [.op (some 4) (.mov (.k (.c .bool false)))])
            .ret) .skip))
         (.seq (.reg [.op (some 4) (.mov (.k (.c .bool true)))])
          .ret))))))))))
def l_FnExactTotal_rs : List (ARv × Md) := [(.t 4, .one .d)]
theorem l_FnExactTotal_st : compF Try.prog 13 = some (l_FnExactTotal_c.er, l_FnExactTotal_rs.map Prod.fst, 31) := by kernel_rfl
def l_FnExactTotal_Q (K : TRes → Prop) : TPost := TQ 0 0 l_FnExactTotal_rs K
theorem l_FnExactTotal_v0 (K : TRes → Prop) (aC : TConfig) (aMicro : Int) (h :
  ((p_sz (α := TConfig) aC (1048576 : Int)) ∧ (((decide ((m_sz (α := TConfig) aC (1048576 : Int)) < (0 : Int))) = true → K (l_FnExactTotal_R true)) ∧ ((decide ((m_sz (α := TConfig) aC (1048576 : Int)) < (0 : Int))) = false → ((p_to (α := TConfig) aC) ∧ ((p_to (α := TConfig) aC) ∧ ((((m_total (id (α := TConfig) aC) aMicro) != (m_total (id (α := TConfig) aC) aMicro)) = true → K (l_FnExactTotal_R false)) ∧ (((m_total (id (α := TConfig) aC) aMicro) != (m_total (id (α := TConfig) aC) aMicro)) = false → ((p_to (α := TConfig) aC) ∧ (((!(m_eq (α := TConfig) (id (α := TConfig) aC) (id (α := TConfig) aC))) = true → K (l_FnExactTotal_R false)) ∧ ((!(m_eq (α := TConfig) (id (α := TConfig) aC) (id (α := TConfig) aC))) = false → K (l_FnExactTotal_R true)))))))))))) : Hold (tawp l_FnExactTotal_G (0 + 0) l_FnExactTotal_c (TQ 0 0 l_FnExactTotal_rs K) (tstart [(.a (Tup.cells ctConfig aC)), (.c TI aMicro)])) :=
  Hold.of (by kernel_rfl) h
theorem l_FnExactTotal_t (aC : TConfig) (aMicro : Int) (r : TRes) (h : Hold (tawp l_FnExactTotal_G (0 + 0) l_FnExactTotal_c (TQ 0 0 l_FnExactTotal_rs fun r' => r' = r) (tstart [(.a (Tup.cells ctConfig aC)), (.c TI aMicro)]))) : TCon Try.prog 13 [(.a (Tup.cells ctConfig aC)), (.c TI aMicro)] r :=
  tcon_gen (sg := [(.a ctConfig), (.c TI)]) mixed (TOk.cons l_szConfig_ok (TOk.cons l_toConfig_ok (TOk.cons s_Total_ok (TOk.cons i_Total_ok (TOk.cons l_eqConfig_ok TOk.nil))))) l_FnExactTotal_st (by kernel_rfl) (by kernel_rfl) (by kernel_rfl) (by kernel_rfl) h
theorem l_FnExactTotal_h : l_FnExactTotal_C := by
  intro aC aMicro
  refine tcon_bd rfl fun hb => l_FnExactTotal_t aC aMicro _ (l_FnExactTotal_v0 _ aC aMicro ?_)
  refine ⟨pl_0, fun _ => rfl, fun g_aC => ?_⟩
  have q_aC := law_p (of_decide_eq_false g_aC) (Int.le_refl _)
  simp [m_eq, mTrue, mTrue2, mTrue3, mTrue4, mTrue5, q_aC]

theorem l_FnExactTotal_ok : TRowOk Try.prog l_FnExactTotal_row := rowOk fun x _ => l_FnExactTotal_h x.1 x.2.1

end
end Go.Proofs.Ytephkbajoofeoaa.Am
