/-
  Written by program: the code of functions, what it asks, and that it comes to what the models say.
-/
import Derived.Test.YtpnblnkggeopkaaH3
import Derived.Test.YtpnblnkggeopkaaP2
namespace Go.Proofs.Ytpnblnkggeopkaa.Am
open Go Go.RowKit Go.Proofs.Ytpnblnkggeopkaa
set_option linter.unusedVariables false
set_option linter.unusedSimpArgs false
noncomputable section

def l_FnExactQueueWords_R (t : Bool) : TRes := ⟨(.c .bool t), [], [], false⟩
def l_FnExactQueueWords_row : TRow := mkRow 7 [(.a ctQueue)] fun x => (none, l_FnExactQueueWords_R (mTrue x.1))
def l_FnExactQueueWords_C : Prop := ∀ (x0 : TQueue), TCon Try.prog 7 [(.a [(.c TI x0.1), (.c (.sl ctItem) x0.2)])] (l_FnExactQueueWords_R (mTrue x0))

/-! laws.FnExactQueueWords -/
def l_FnExactQueueWords_G : List TRow := [l_szQueue_row, l_toQueue_row, s_QueueWords_row, i_QueueWords_row, l_eqQueue_row]
def l_FnExactQueueWords_c : TCode :=
  (.seq (.reg [.op (some 1) (.box 47 (.s 0) 2),
    .op (some 2) (.mov (.k (.c .bool false)))])
 (.seq (.reg [.op (some 3) (.mov (.k (.c TI (1048576 : Int))))])
  (.seq (.reg [.op (some 7) (.load (.s 1) 2 true),
      .op (some 8) (.mov (.s 3)),
      .op (some 9) (.call 45 [(.s 7), (.s 8)]),
      .op (some 3) (.mov (.s 9))])
   (.seq (.seq (.reg [.op (some 10) (.mov (.s 3)),
        .op (some 11) (.bin .lss (.s 10) (.k (.c TI (0 : Int))))])
     (.cond (.s 11) (.seq (.reg [.op (some 2) (.mov (.k (.c .bool true)))])
       .ret) .skip))
    (.seq (.reg [.op (some 12) (.load (.s 1) 2 true),
        .op (some 13) (.call 47 [(.s 12)]),
        .op (some 14) (.call 50 [(.s 13)]),
        .op (some 4) (.mov (.s 14))])
     (.seq (.reg [.op (some 15) (.load (.s 1) 2 true),
         .op (some 16) (.call 47 [(.s 15)]),
         .op (some 5) (.new 52 [(.c TI (0 : Int)), (.n ctItem)]),
         .op none (.store (.s 5) (.s 16) 2)])
      (.seq (.reg [.op (some 17) (.load (.s 5) 2 true),
          .op (some 18) (.call 51 [(.s 17)]),
          .op (some 6) (.mov (.s 18))])
       (.seq (.seq (.reg [.op (some 19) (.mov (.s 6)),
            .op (some 20) (.mov (.s 4)),
            .op (some 21) (.bin .neq (.s 19) (.s 20))])
         (.cond (.s 21) (.seq (.reg [.op (some 2) (.mov (.k (.c .bool false)))])
           .ret) .skip))
        (.seq (.seq (.draw [.op (some 22) (.load (.s 5) 2 true),
             .op (some 23) (.load (.s 1) 2 true),
             .op (some 24) (.call 47 [(.s 23)]),
             .op (some 25) (.call 49 [(.s 22), (.s 24)]),
             .op (some 26) (.not (.s 25))] [(0, 2)])
          (.cond (.s 26) (.seq (.reg [.op (some 2) (.mov (.k (.c .bool false)))])
            .ret) .skip))
         (.seq (.reg [.op (some 2) (.mov (.k (.c .bool true)))])
          .ret))))))))))
def l_FnExactQueueWords_rs : List (ARv × Md) := [(.t 2, .one .d)]
theorem l_FnExactQueueWords_st : compF Try.prog 7 = some (l_FnExactQueueWords_c.er, l_FnExactQueueWords_rs.map Prod.fst, 27) := by kernel_rfl
def l_FnExactQueueWords_Q (K : TRes → Prop) : TPost := TQ 0 l_FnExactQueueWords_rs K
theorem l_FnExactQueueWords_v0 (K : TRes → Prop) (aQ : TQueue) (h :
  ((p_sz (α := TQueue) aQ (1048576 : Int)) ∧ (((decide ((m_sz (α := TQueue) aQ (1048576 : Int)) < (0 : Int))) = true → K (l_FnExactQueueWords_R true)) ∧ ((decide ((m_sz (α := TQueue) aQ (1048576 : Int)) < (0 : Int))) = false → ((p_to (α := TQueue) aQ) ∧ ((p_to (α := TQueue) aQ) ∧ ((((m_queueWords (id (α := TQueue) aQ)) != (m_queueWords (id (α := TQueue) aQ))) = true → K (l_FnExactQueueWords_R false)) ∧ (((m_queueWords (id (α := TQueue) aQ)) != (m_queueWords (id (α := TQueue) aQ))) = false → ((p_to (α := TQueue) aQ) ∧ (((!(m_eq (α := TQueue) (id (α := TQueue) aQ) (id (α := TQueue) aQ))) = true → K (l_FnExactQueueWords_R false)) ∧ ((!(m_eq (α := TQueue) (id (α := TQueue) aQ) (id (α := TQueue) aQ))) = false → K (l_FnExactQueueWords_R true)))))))))))) : Hold (tawp l_FnExactQueueWords_G 0 l_FnExactQueueWords_c (TQ 0 l_FnExactQueueWords_rs K) (tstart [(.a [(.c TI aQ.1), (.c (.sl ctItem) aQ.2)])])) :=
  Hold.of (by kernel_rfl) h
theorem l_FnExactQueueWords_t (aQ : TQueue) (r : TRes) (h : Hold (tawp l_FnExactQueueWords_G 0 l_FnExactQueueWords_c (TQ 0 l_FnExactQueueWords_rs fun r' => r' = r) (tstart [(.a [(.c TI aQ.1), (.c (.sl ctItem) aQ.2)])]))) : TCon Try.prog 7 [(.a [(.c TI aQ.1), (.c (.sl ctItem) aQ.2)])] r :=
  tcon_gen (sg := [(.a ctQueue)]) mixed (TOk.cons l_szQueue_ok (TOk.cons l_toQueue_ok (TOk.cons s_QueueWords_ok (TOk.cons i_QueueWords_ok (TOk.cons l_eqQueue_ok TOk.nil))))) l_FnExactQueueWords_st (by kernel_rfl) (by kernel_rfl) (by kernel_rfl) h
theorem l_FnExactQueueWords_h : l_FnExactQueueWords_C := by
  intro aQ
  refine tcon_bd rfl fun hb => l_FnExactQueueWords_t aQ _ (l_FnExactQueueWords_v0 _ aQ ?_)
  refine ⟨pl_0, fun _ => rfl, fun g_aQ => ?_⟩
  have q_aQ := law_p (of_decide_eq_false g_aQ) (Int.le_refl _)
  simp [m_eq, mTrue, mTrue2, mTrue3, mTrue4, mTrue5, q_aQ]

theorem l_FnExactQueueWords_ok : TRowOk Try.prog l_FnExactQueueWords_row := rowOk fun x _ => l_FnExactQueueWords_h x.1

end
end Go.Proofs.Ytpnblnkggeopkaa.Am
