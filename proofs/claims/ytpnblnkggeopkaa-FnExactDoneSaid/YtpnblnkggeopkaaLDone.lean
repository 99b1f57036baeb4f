/-
  Written by program: the code of functions, what it asks, and that it comes to what the models say.
-/
import Derived.Test.YtpnblnkggeopkaaH6
import Derived.Test.YtpnblnkggeopkaaPB
namespace Go.Proofs.Ytpnblnkggeopkaa.Am
open Go Go.RowKit Go.Proofs.Ytpnblnkggeopkaa
set_option linter.unusedVariables false
set_option linter.unusedSimpArgs false
noncomputable section

def l_FnExactDone_R (t : Bool) : TRes := ⟨(.c .bool t), [], [], false⟩
def l_FnExactDone_row : TRow := mkRow 22 [(.a ctPipe)] fun x => (some (p_left x.1), l_FnExactDone_R (mTrue x.1))
def l_FnExactDone_C : Prop := ∀ (x0 : TPipe), (p_left x0) → TCon Try.prog 22 [(.a (Tup.cells ctPipe x0))] (l_FnExactDone_R (mTrue x0))

/-! laws.FnExactDone -/
def l_FnExactDone_G : List TRow := [l_szPipe_row, l_toPipe_row, s_Done_row, i_Done_row, l_eqPipe_row]
def l_FnExactDone_c : TCode :=
  (.seq (.reg [.op (some 1) (.box 117 (.s 0) 4),
    .op (some 2) (.mov (.k (.c .bool false)))])
 (.seq (.reg [.op (some 3) (.mov (.k (.c TI (1048576 : Int))))])
  (.seq (.reg [.op (some 7) (.load (.s 1) 4 true),
      .op (some 8) (.mov (.s 3)),
      .op (some 9) (.call 92 [(.s 7), (.s 8)]),
      .op (some 3) (.mov (.s 9))])
   (.seq (.seq (.reg [.op (some 10) (.mov (.s 3)),
        .op (some 11) (.bin .lss (.s 10) (.k (.c TI (0 : Int))))])
     (.cond (.s 11) (.seq (.reg [.op (some 2) (.mov (.k (.c .bool true)))])
       .ret) .skip))
    (.seq (.reg [.op (some 12) (.load (.s 1) 4 true),
        .op (some 13) (.call 94 [(.s 12)]),
        .op (some 14) (.call 97 [(.s 13)]),
        .op (some 4) (.mov (.s 14))])
     (.seq (.reg [.op (some 15) (.load (.s 1) 4 true),
         .op (some 16) (.call 94 [(.s 15)]),
         .op (some 5) (.new 123 [(.n ctPair), (.n ctStage), (.n ctQueue), (.n ctQueue)]),
         .op none (.store (.s 5) (.s 16) 4)])
      (.seq (.reg [.op (some 17) (.load (.s 5) 4 true),
          .op (some 18) (.call 98 [(.s 17)]),
          .op (some 6) (.mov (.s 18))])
       (.seq (.seq (.reg [.op (some 19) (.mov (.s 6)),
            .op (some 20) (.mov (.s 4)),
            .op (some 21) (.eqb true (.s 19) (.s 20))])
         (.cond (.s 21) (.seq (.reg [.op (some 2) (.mov (.k (.c .bool false)))])
           .ret) .skip))
        (.seq (.seq (.draw [.op (some 22) (.load (.s 5) 4 true),
             .op (some 23) (.load (.s 1) 4 true),
             .op (some 24) (.call 94 [(.s 23)]),
             .op (some 25) (.call 96 [(.s 22), (.s 24)]),
             .op (some 26) (.not (.s 25))] [(0, 2)])
          (.cond (.s 26) (.seq (.reg [.op (some 2) (.mov (.k (.c .bool false)))])
            .ret) .skip))
         (.seq (.reg [.op (some 2) (.mov (.k (.c .bool true)))])
          .ret))))))))))
def l_FnExactDone_rs : List (ARv × Md) := [(.t 2, .one .d)]
theorem l_FnExactDone_st : compF Try.prog 22 = some (l_FnExactDone_c.er, l_FnExactDone_rs.map Prod.fst, 27) := by kernel_rfl
def l_FnExactDone_Q (K : TRes → Prop) : TPost := TQ 0 l_FnExactDone_rs K
theorem l_FnExactDone_v0 (K : TRes → Prop) (aP : TPipe) (h :
  ((p_sz (α := TPipe) aP (1048576 : Int)) ∧ (((decide ((m_sz (α := TPipe) aP (1048576 : Int)) < (0 : Int))) = true → K (l_FnExactDone_R true)) ∧ ((decide ((m_sz (α := TPipe) aP (1048576 : Int)) < (0 : Int))) = false → (((p_to (α := TPipe) aP) ∧ (p_left (id (α := TPipe) aP))) ∧ ((p_to (α := TPipe) aP) ∧ (((!((m_done (id (α := TPipe) aP)) == (m_done (id (α := TPipe) aP)))) = true → K (l_FnExactDone_R false)) ∧ ((!((m_done (id (α := TPipe) aP)) == (m_done (id (α := TPipe) aP)))) = false → ((p_to (α := TPipe) aP) ∧ (((!(m_eq (α := TPipe) (id (α := TPipe) aP) (id (α := TPipe) aP))) = true → K (l_FnExactDone_R false)) ∧ ((!(m_eq (α := TPipe) (id (α := TPipe) aP) (id (α := TPipe) aP))) = false → K (l_FnExactDone_R true)))))))))))) : Hold (tawp l_FnExactDone_G 0 l_FnExactDone_c (TQ 0 l_FnExactDone_rs K) (tstart [(.a (Tup.cells ctPipe aP))])) :=
  Hold.of (by kernel_rfl) h
theorem l_FnExactDone_t (aP : TPipe) (r : TRes) (h : Hold (tawp l_FnExactDone_G 0 l_FnExactDone_c (TQ 0 l_FnExactDone_rs fun r' => r' = r) (tstart [(.a (Tup.cells ctPipe aP))]))) : TCon Try.prog 22 [(.a (Tup.cells ctPipe aP))] r :=
  tcon_gen (sg := [(.a ctPipe)]) mixed (TOk.cons l_szPipe_ok (TOk.cons l_toPipe_ok (TOk.cons s_Done_ok (TOk.cons i_Done_ok (TOk.cons l_eqPipe_ok TOk.nil))))) l_FnExactDone_st (by kernel_rfl) (by kernel_rfl) (by kernel_rfl) h
theorem l_FnExactDone_h : l_FnExactDone_C := by
  intro aP hp
  refine tcon_bd rfl fun hb => l_FnExactDone_t aP _ (l_FnExactDone_v0 _ aP ?_)
  refine ⟨pl_0, fun _ => rfl, fun g_aP => ?_⟩
  have q_aP := law_p (of_decide_eq_false g_aP) (Int.le_refl _)
  simp [m_eq, mTrue, mTrue2, mTrue3, mTrue4, mTrue5, hp, q_aP]

theorem l_FnExactDone_ok : TRowOk Try.prog l_FnExactDone_row := rowOk fun x h => l_FnExactDone_h x.1 h

end
end Go.Proofs.Ytpnblnkggeopkaa.Am
