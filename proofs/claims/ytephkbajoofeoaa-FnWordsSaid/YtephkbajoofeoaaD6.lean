/-
  Written by program: the code of functions, what it asks, and that it comes to what the models say.
-/
import Derived.Test.YtephkbajoofeoaaD1
import Derived.Test.YtephkbajoofeoaaP4
import Derived.Test.YtephkbajoofeoaaD2
import Derived.Test.YtephkbajoofeoaaD4
import Derived.Test.YtephkbajoofeoaaP6
import Derived.Test.YtephkbajoofeoaaM9
namespace Go.Proofs.Ytephkbajoofeoaa.Am
open Go Go.RowKit Go.Proofs.Ytephkbajoofeoaa
set_option linter.unusedVariables false
set_option linter.unusedSimpArgs false
set_option maxHeartbeats 2000000
noncomputable section

def s_l6Batch_R (t : (List TPair) × (((List Int) × Int × Int))) : TRes := ⟨(.r ctPair 0 0 ((t.1).length)), [(.sl 230 ctPair true t.1)], [[(.c (.sl [(.int .u8)]) t.2.1), (.c TI t.2.2.1), (.c TI t.2.2.2)]], true, []⟩
def e_batch (x0 : ((List Int) × Int × Int)) (x1 : List TOp') : (List TPair) × (((List Int) × Int × Int)) := Classical.epsilon fun t : (List TPair) × (((List Int) × Int × Int)) => (q_bat x0 x1 t) ∧ TCon Try.prog 207 [(.bx [(.c (.sl [(.int .u8)]) x0.1), (.c TI x0.2.1), (.c TI x0.2.2)]), (.a [(.c (.sl ctOp) x1)])] (s_l6Batch_R t)
def s_l6Batch_row : TRow := mkRow 207 [(.b [(.sl [(.int .u8)]), TI, TI]), (.a [(.sl ctOp)])] fun x => (some (p_cur2 x.1 x.2.1), s_l6Batch_R (e_batch x.1 x.2.1))
def s_l6Batch_C : Prop := ∀ (x0 : ((List Int) × Int × Int)) (x1 : List TOp'), (p_cur2 x0 x1) → TCon Try.prog 207 [(.bx [(.c (.sl [(.int .u8)]) x0.1), (.c TI x0.2.1), (.c TI x0.2.2)]), (.a [(.c (.sl ctOp) x1)])] (s_l6Batch_R (e_batch x0 x1))

/-! spec.l6Batch -/
def s_l6Batch_G : List TRow := [s_l1Below_row, s_InOf_row, s_l3Vec_row, s_OutOf_row]
def s_l6Batch_b2 : TCode :=
  (.seq (.seq (.reg [.op (some 11) (.mov (.s 6)),
     .op (some 12) (.bin .gtr (.s 11) (.k (.c TI (0 : Int))))])
  (.cond (.s 12) .skip (.exit 0)))
 (.seq (.block 1 (.draw [.op (some 15) (.mov (.s 5)),
      .op (some 16) (.mov (.s 0)),
      .op (some 17) (.load (.s 3) 1 true),
      .op (some 18) (.call 214 [(.s 17)]),
      .op (some 19) (.call 181 [(.s 16), (.s 18)]),
      .op (some 20) (.mov (.s 0)),
      .op (some 21) (.load (.s 3) 1 true),
      .op (some 22) (.call 215 [(.s 21)]),
      .op (some 23) (.call 181 [(.s 20), (.s 22)]),
      .op (some 24) (.build [(.n [TI]), (.n [TI])] [(0, 1, (.s 19)), (1, 1, (.s 23))]),
      .op (some 25) (.bsl 230 ctPair [(.s 24)]),
      .op (some 26) (.app (.s 15) (.s 25) 230 ctPair),
      .op (some 5) (.mov (.s 26))] [(3, 6), (4, 6)]))
  (.reg [.op (some 13) (.mov (.s 6)),
     .op (some 14) (.bin .sub (.s 13) (.k (.c TI (1 : Int)))),
     .op (some 6) (.mov (.s 14))])))
def s_l6Batch_L2 : List (Nat × Md) := [(0, .b [.d, .d, .d]), (3, .b [.d]), (5, .one .f), (6, .one .d)]
def s_l6Batch_y1 : TCode :=
  (.seq (.reg [.op (some 27) (.mov (.s 5)),
    .op (some 4) (.mov (.s 27))])
 .ret)
def s_l6Batch_c : TCode :=
  (.seq (.reg [.op (some 3) (.box 66 (.s 1) 1),
    .op (some 4) (.mov (.k (.n ctPair)))])
 (.seq (.reg [.op (some 7) (.bsl 230 ctPair []),
     .op (some 5) (.mov (.s 7))])
  (.seq (.seq (.reg [.op (some 8) (.mov (.s 0)),
       .op (some 9) (.call 116 [(.s 8), (.k (.c TI (4 : Int)))]),
       .op (some 10) (.bin .add (.k (.c TI (1 : Int))) (.s 9)),
       .op (some 6) (.mov (.s 10))])
    (.block 0 (.loop s_l6Batch_L2 s_l6Batch_b2)))
   s_l6Batch_y1)))
def s_l6Batch_rs : List (ARv × Md) := [(.t 4, .one (.o 230))]
theorem s_l6Batch_st : compF Try.prog 207 = some (s_l6Batch_c.er, s_l6Batch_rs.map Prod.fst, 28) := by kernel_rfl
def s_l6Batch_Q (K : TRes → Prop) : TPost := TQ 1 0 s_l6Batch_rs K
def s_l6Batch_q1 (K : TRes → Prop) : TPost := Qseq (tawp s_l6Batch_G 1 s_l6Batch_y1 (s_l6Batch_Q K)) (s_l6Batch_Q K)
def s_l6Batch_q2 (K : TRes → Prop) : TPost := Qblk 0 (s_l6Batch_q1 K)
def s_l6Batch_A2 (K : TRes → Prop) (m : List TOp') (n : Int) (c0 : List Int) (c1 : Int) (c2 : Int) (b : List TPair) : Prop := Loop s_l6Batch_G 1 s_l6Batch_L2 s_l6Batch_b2 (s_l6Batch_q2 K) ⟨[(0, (.p 0 0 0)), (3, (.p 1 0 0)), (5, (.r ctPair 2 0 b.length)), (6, (.c TI n))], [(0, (.box [(.c (.sl [(.int .u8)]) c0), (.c TI c1), (.c TI c2)])), (1, (.box [(.c (.sl ctOp) m)])), (2, (.sl 230 ctPair true b))], 3⟩
theorem s_l6Batch_v2 (K : TRes → Prop) (m : List TOp') (n : Int) (c0 : List Int) (c1 : Int) (c2 : Int) (b : List TPair) (h :
  (((decide (n > (0 : Int))) = true → (((p_vec (c0, c1, c2) (m_inOf m)) ∧ ((p_vec ((e_vec (c0, c1, c2) (m_inOf m)).2) (m_outOf m)) ∧ ((b.length = b.length ∨ b.length + 1 ≤ b.length) ∧ b.length + 1 ≤ big))) ∧ (s_l6Batch_A2 K m (w64 (n - (1 : Int))) (((e_vec ((e_vec (c0, c1, c2) (m_inOf m)).2) (m_outOf m)).2).1) (((e_vec ((e_vec (c0, c1, c2) (m_inOf m)).2) (m_outOf m)).2).2.1) (((e_vec ((e_vec (c0, c1, c2) (m_inOf m)).2) (m_outOf m)).2).2.2) (List.take (b.length + 1) ((List.take b.length b) ++ ([((List.take (((e_vec (c0, c1, c2) (m_inOf m)).1).length) (List.drop 0 ((e_vec (c0, c1, c2) (m_inOf m)).1))), (List.take (((e_vec ((e_vec (c0, c1, c2) (m_inOf m)).2) (m_outOf m)).1).length) (List.drop 0 ((e_vec ((e_vec (c0, c1, c2) (m_inOf m)).2) (m_outOf m)).1))))])))))) ∧ ((decide (n > (0 : Int))) = false → K (s_l6Batch_R ((List.take b.length b), (c0, c1, c2)))))) : s_l6Batch_A2 K m n c0 c1 c2 b :=
  Loop.of (by kernel_rfl) h
theorem s_l6Batch_v0 (K : TRes → Prop) (c : ((List Int) × Int × Int)) (m : List TOp') (h :
  ((p_cur2 c (4 : Int)) ∧ (s_l6Batch_A2 K m (w64 ((1 : Int) + ((e_below c (4 : Int)).1))) (((e_below c (4 : Int)).2).1) (((e_below c (4 : Int)).2).2.1) (((e_below c (4 : Int)).2).2.2) ([] : List TPair)))) : Hold (tawp s_l6Batch_G (1 + 0) s_l6Batch_c (TQ 1 0 s_l6Batch_rs K) (tstart [(.bx [(.c (.sl [(.int .u8)]) c.1), (.c TI c.2.1), (.c TI c.2.2)]), (.a [(.c (.sl ctOp) m)])])) :=
  Hold.of (by kernel_rfl) h
theorem s_l6Batch_t (c : ((List Int) × Int × Int)) (m : List TOp') (K : TRes → Prop) (h : Hold (tawp s_l6Batch_G (1 + 0) s_l6Batch_c (TQ 1 0 s_l6Batch_rs K) (tstart [(.bx [(.c (.sl [(.int .u8)]) c.1), (.c TI c.2.1), (.c TI c.2.2)]), (.a [(.c (.sl ctOp) m)])]))) : ∃ r, K r ∧ TCon Try.prog 207 [(.bx [(.c (.sl [(.int .u8)]) c.1), (.c TI c.2.1), (.c TI c.2.2)]), (.a [(.c (.sl ctOp) m)])] r :=
  tcon_gen_ex (sg := [(.b [(.sl [(.int .u8)]), TI, TI]), (.a [(.sl ctOp)])]) mixed (TOk.cons s_l1Below_ok (TOk.cons s_InOf_ok (TOk.cons s_l3Vec_ok (TOk.cons s_OutOf_ok TOk.nil)))) s_l6Batch_st (by kernel_rfl) (by kernel_rfl) (by kernel_rfl) (by kernel_rfl) h
theorem s_l6Batch_ex (c : ((List Int) × Int × Int)) (m : List TOp') (hp : p_cur2 c m) : ∃ t : (List TPair) × (((List Int) × Int × Int)), (q_bat c m t) ∧ TCon Try.prog 207 [(.bx [(.c (.sl [(.int .u8)]) c.1), (.c TI c.2.1), (.c TI c.2.2)]), (.a [(.c (.sl ctOp) m)])] (s_l6Batch_R t) := by
  refine tex_of (s_l6Batch_t c m _ (s_l6Batch_v0 (fun r' => ∃ t, (q_bat c m t) ∧ r' = s_l6Batch_R t) c m ?_))
  have hc : p_cur c := hp
  have b1 := s_l1Below_post c 4 hc
  have h1 := b1.1
  have h2 := b1.2.1 (by omega)
  rw [w64_ok (x := 1 + _) (by omega) (by omega)]
  have hi : m_inOf m ≤ 6 := by
    unfold m_inOf
    split
    · rename_i hm
      exact (opOk_in (mod_ops hm (by have := mod_len hm; omega))).2.1
    · omega
  have ho : m_outOf m ≤ 6 := by
    unfold m_outOf
    split
    · rename_i hm
      exact (opOk_in (mod_ops hm (by have := mod_len hm; omega))).2.2.2
    · omega
  refine ⟨hc, ?_⟩
  have key : ∀ (k : Nat) (t : TCur) (b : List TPair), p_cur t → b.length + k ≤ 4 → 1 ≤ b.length + k → s_l6Batch_A2 (fun r' => ∃ t, (q_bat c m t) ∧ r' = s_l6Batch_R t) m (k : Int) t.1 t.2.1 t.2.2 b := by
    intro k
    induction k with
    | zero =>
      intro t b hc k1 k2
      refine s_l6Batch_v2 (fun r' => ∃ t, (q_bat c m t) ∧ r' = s_l6Batch_R t) m _ _ _ _ _ ⟨fun h => by simp at h, fun _ => leafP ⟨?_, ?_, hc⟩⟩
      · simp only [List.take_length]; omega
      · simp only [List.take_length]; omega
    | succ k ih =>
      intro t b hc k1 k2
      have hv : p_vec t (m_inOf m) := ⟨hc, by omega⟩
      have b2 := s_l3Vec_post _ _ hv
      have hv2 : p_vec (e_vec t (m_inOf m)).2 (m_outOf m) := ⟨b2.2.2, by omega⟩
      have b3 := s_l3Vec_post _ _ hv2
      refine s_l6Batch_v2 (fun r' => ∃ t, (q_bat c m t) ∧ r' = s_l6Batch_R t) m _ _ _ _ _ ⟨fun _ => ⟨⟨hv, hv2, ⟨.inl rfl, by rw [big_eq]; omega⟩⟩, ?_⟩, fun h => by simp at h <;> omega⟩
      rw [take_app1, w64_ok (x := ((k + 1 : Nat) : Int) - 1) (by omega) (by omega), show ((k + 1 : Nat) : Int) - 1 = k by omega]
      exact ih _ _ b3.2.2 (by simp; omega) (by simp; omega)
  have h := key (1 + (e_below c 4).1).toNat (e_below c 4).2 [] b1.2.2.2 (by simp; omega) (by simp; omega)
  rw [Int.toNat_of_nonneg (by omega)] at h
  exact h
theorem s_l6Batch_post (c : ((List Int) × Int × Int)) (m : List TOp') (hp : p_cur2 c m) : q_bat c m (e_batch c m) := (Classical.epsilon_spec (s_l6Batch_ex c m hp)).1
theorem s_l6Batch_h : s_l6Batch_C := by
  intro c m hp
  exact (Classical.epsilon_spec (s_l6Batch_ex c m hp)).2

theorem s_l6Batch_ok : TRowOk Try.prog s_l6Batch_row := rowOk fun x h => s_l6Batch_h x.1 x.2.1 h

def s_l6AnyBatch_R (t : (List TPair) × (((List Int) × Int × Int))) : TRes := ⟨(.c (.sl ctPair) t.1), [], [[(.c (.sl [(.int .u8)]) t.2.1), (.c TI t.2.2.1), (.c TI t.2.2.2)]], true, []⟩
def e_anyBatch (x0 : ((List Int) × Int × Int)) (x1 : List TOp') : (List TPair) × (((List Int) × Int × Int)) := Classical.epsilon fun t : (List TPair) × (((List Int) × Int × Int)) => (q_anyBat x0 x1 t) ∧ TCon Try.prog 194 [(.bx [(.c (.sl [(.int .u8)]) x0.1), (.c TI x0.2.1), (.c TI x0.2.2)]), (.a [(.c (.sl ctOp) x1)])] (s_l6AnyBatch_R t)
def s_l6AnyBatch_row : TRow := mkRow 194 [(.b [(.sl [(.int .u8)]), TI, TI]), (.a [(.sl ctOp)])] fun x => (some (p_cur2 x.1 x.2.1), s_l6AnyBatch_R (e_anyBatch x.1 x.2.1))
def s_l6AnyBatch_C : Prop := ∀ (x0 : ((List Int) × Int × Int)) (x1 : List TOp'), (p_cur2 x0 x1) → TCon Try.prog 194 [(.bx [(.c (.sl [(.int .u8)]) x0.1), (.c TI x0.2.1), (.c TI x0.2.2)]), (.a [(.c (.sl ctOp) x1)])] (s_l6AnyBatch_R (e_anyBatch x0 x1))

/-! spec.l6AnyBatch -/
def s_l6AnyBatch_G : List TRow := [s_l6Batch_row, s_l1Below_row, s_l3Any_row]
def s_l6AnyBatch_b2 : TCode :=
  (.seq (.seq (.reg [.op (some 23) (.mov (.s 5)),
     .op (some 24) (.len (.s 23)),
     .op (some 25) (.mov (.s 0)),
     .op (some 26) (.call 116 [(.s 25), (.k (.c TI (2 : Int)))]),
     .op (some 27) (.bin .add (.k (.c TI (5 : Int))) (.s 26)),
     .op (some 28) (.bin .lss (.s 24) (.s 27))])
  (.cond (.s 28) .skip (.exit 1)))
 (.block 2 (.reg [.op (some 29) (.mov (.s 5)),
     .op (some 30) (.mov (.s 5)),
     .op (some 31) (.iad (.s 30) (.k (.c TI (0 : Int))) ctPair),
     .op (some 32) (.load (.s 31) 2 true),
     .op (some 33) (.bsl 230 ctPair [(.s 32)]),
     .op (some 34) (.app (.s 29) (.s 33) 230 ctPair),
     .op (some 5) (.mov (.s 34))])))
def s_l6AnyBatch_L2 : List (Nat × Md) := [(0, .b [.d, .d, .d]), (5, .one .f)]
def s_l6AnyBatch_y1 : TCode :=
  (.seq (.reg [.op (some 35) (.mov (.s 5)),
    .op (some 4) (.mov (.s 35))])
 .ret)
def s_l6AnyBatch_c : TCode :=
  (.seq (.reg [.op (some 3) (.box 66 (.s 1) 1),
    .op (some 4) (.mov (.k (.n ctPair)))])
 (.seq (.reg [.op (some 6) (.mov (.s 0)),
     .op (some 7) (.load (.s 3) 1 true),
     .op (some 8) (.call 207 [(.s 6), (.s 7)]),
     .op (some 5) (.mov (.s 8))])
  (.seq (.seq (.reg [.op (some 9) (.mov (.s 0)),
       .op (some 10) (.call 116 [(.s 9), (.k (.c TI (16 : Int)))])])
    (.block 0 (.seq (.reg [.op (some 12) (.bin .eql (.s 10) (.k (.c TI (0 : Int)))),
         .op (some 11) (.mov (.s 12))])
      (.cond (.s 11) (.seq (.reg [.op (some 13) (.bsl 230 ctPair []),
           .op (some 4) (.mov (.s 13))])
        .ret) (.seq (.reg [.op (some 15) (.bin .eql (.s 10) (.k (.c TI (1 : Int)))),
           .op (some 14) (.mov (.s 15))])
        (.cond (.s 14) (.reg [.op (some 16) (.mov (.s 5)),
            .op (some 17) (.mov (.s 0)),
            .op (some 18) (.call 117 [(.s 17)]),
            .op (some 19) (.iad (.s 16) (.k (.c TI (0 : Int))) ctPair),
            .op (some 20) (.fad (.s 19) 0),
            .op none (.store (.s 20) (.s 18) 1)]) (.seq (.reg [.op (some 22) (.bin .eql (.s 10) (.k (.c TI (2 : Int)))),
             .op (some 21) (.mov (.s 22))])
          (.cond (.s 21) (.block 1 (.loop s_l6AnyBatch_L2 s_l6AnyBatch_b2)) .skip))))))))
   s_l6AnyBatch_y1)))
def s_l6AnyBatch_rs : List (ARv × Md) := [(.t 4, .one .d)]
theorem s_l6AnyBatch_st : compF Try.prog 194 = some (s_l6AnyBatch_c.er, s_l6AnyBatch_rs.map Prod.fst, 36) := by kernel_rfl
def s_l6AnyBatch_Q (K : TRes → Prop) : TPost := TQ 1 0 s_l6AnyBatch_rs K
def s_l6AnyBatch_q1 (K : TRes → Prop) : TPost := Qseq (tawp s_l6AnyBatch_G 1 s_l6AnyBatch_y1 (s_l6AnyBatch_Q K)) (s_l6AnyBatch_Q K)
def s_l6AnyBatch_q2 (K : TRes → Prop) : TPost := Qblk 0 (s_l6AnyBatch_q1 K)
def s_l6AnyBatch_q3 (K : TRes → Prop) : TPost := Qblk 1 (s_l6AnyBatch_q2 K)
def s_l6AnyBatch_A2 (K : TRes → Prop) (c0 : List Int) (c1 : Int) (c2 : Int) (b : List TPair) : Prop := Loop s_l6AnyBatch_G 1 s_l6AnyBatch_L2 s_l6AnyBatch_b2 (s_l6AnyBatch_q3 K) ⟨[(0, (.p 0 0 0)), (5, (.r ctPair 1 0 b.length))], [(0, (.box [(.c (.sl [(.int .u8)]) c0), (.c TI c1), (.c TI c2)])), (1, (.sl 230 ctPair true b))], 2⟩
theorem s_l6AnyBatch_v2 (K : TRes → Prop) (c0 : List Int) (c1 : Int) (c2 : Int) (b : List TPair) (h :
  ((p_cur2 (c0, c1, c2) (2 : Int)) ∧ (((decide (((b.length : Nat) : Int) < (w64 ((5 : Int) + ((e_below (c0, c1, c2) (2 : Int)).1))))) = true → ((((0 : Int) ≤ (0 : Int) ∧ Int.toNat (0 : Int) < b.length) ∧ (((0 + (Int.toNat (0 : Int))) < b.length) ∧ ((b.length = b.length ∨ b.length + 1 ≤ b.length) ∧ b.length + 1 ≤ big))) ∧ (s_l6AnyBatch_A2 K (((e_below (c0, c1, c2) (2 : Int)).2).1) (((e_below (c0, c1, c2) (2 : Int)).2).2.1) (((e_below (c0, c1, c2) (2 : Int)).2).2.2) (List.take (b.length + 1) ((List.take b.length b) ++ ([(gtd dPair b (0 + (Int.toNat (0 : Int))))])))))) ∧ ((decide (((b.length : Nat) : Int) < (w64 ((5 : Int) + ((e_below (c0, c1, c2) (2 : Int)).1))))) = false → K (s_l6AnyBatch_R ((List.take b.length (List.drop 0 b)), ((e_below (c0, c1, c2) (2 : Int)).2))))))) : s_l6AnyBatch_A2 K c0 c1 c2 b :=
  Loop.of (by kernel_rfl) h
theorem s_l6AnyBatch_v0 (K : TRes → Prop) (c : ((List Int) × Int × Int)) (m : List TOp') (h :
  ((p_cur2 c m) ∧ ((p_cur2 ((e_batch c m).2) (16 : Int)) ∧ (((((e_below ((e_batch c m).2) (16 : Int)).1) == (0 : Int)) = true → K (s_l6AnyBatch_R (([] : List TPair), ((e_below ((e_batch c m).2) (16 : Int)).2)))) ∧ ((((e_below ((e_batch c m).2) (16 : Int)).1) == (0 : Int)) = false → (((((e_below ((e_batch c m).2) (16 : Int)).1) == (1 : Int)) = true → (((p_cur ((e_below ((e_batch c m).2) (16 : Int)).2)) ∧ (((0 : Int) ≤ (0 : Int) ∧ Int.toNat (0 : Int) < ((e_batch c m).1).length) ∧ ((0 + (Int.toNat (0 : Int))) < ((e_batch c m).1).length))) ∧ K (s_l6AnyBatch_R ((List.take (((e_batch c m).1).length) (List.drop 0 (((e_batch c m).1).set (0 + (Int.toNat (0 : Int))) ((e_any3 ((e_below ((e_batch c m).2) (16 : Int)).2)).1, (gtd dPair ((e_batch c m).1) (0 + (Int.toNat (0 : Int)))).2)))), ((e_any3 ((e_below ((e_batch c m).2) (16 : Int)).2)).2))))) ∧ ((((e_below ((e_batch c m).2) (16 : Int)).1) == (1 : Int)) = false → (((((e_below ((e_batch c m).2) (16 : Int)).1) == (2 : Int)) = true → (s_l6AnyBatch_A2 K (((e_below ((e_batch c m).2) (16 : Int)).2).1) (((e_below ((e_batch c m).2) (16 : Int)).2).2.1) (((e_below ((e_batch c m).2) (16 : Int)).2).2.2) (List.take (((e_batch c m).1).length) ((e_batch c m).1)))) ∧ ((((e_below ((e_batch c m).2) (16 : Int)).1) == (2 : Int)) = false → K (s_l6AnyBatch_R ((List.take (((e_batch c m).1).length) (List.drop 0 ((e_batch c m).1))), ((e_below ((e_batch c m).2) (16 : Int)).2)))))))))))) : Hold (tawp s_l6AnyBatch_G (1 + 0) s_l6AnyBatch_c (TQ 1 0 s_l6AnyBatch_rs K) (tstart [(.bx [(.c (.sl [(.int .u8)]) c.1), (.c TI c.2.1), (.c TI c.2.2)]), (.a [(.c (.sl ctOp) m)])])) :=
  Hold.of (by kernel_rfl) h
theorem s_l6AnyBatch_t (c : ((List Int) × Int × Int)) (m : List TOp') (K : TRes → Prop) (h : Hold (tawp s_l6AnyBatch_G (1 + 0) s_l6AnyBatch_c (TQ 1 0 s_l6AnyBatch_rs K) (tstart [(.bx [(.c (.sl [(.int .u8)]) c.1), (.c TI c.2.1), (.c TI c.2.2)]), (.a [(.c (.sl ctOp) m)])]))) : ∃ r, K r ∧ TCon Try.prog 194 [(.bx [(.c (.sl [(.int .u8)]) c.1), (.c TI c.2.1), (.c TI c.2.2)]), (.a [(.c (.sl ctOp) m)])] r :=
  tcon_gen_ex (sg := [(.b [(.sl [(.int .u8)]), TI, TI]), (.a [(.sl ctOp)])]) mixed (TOk.cons s_l6Batch_ok (TOk.cons s_l1Below_ok (TOk.cons s_l3Any_ok TOk.nil))) s_l6AnyBatch_st (by kernel_rfl) (by kernel_rfl) (by kernel_rfl) (by kernel_rfl) h
theorem s_l6AnyBatch_ex (c : ((List Int) × Int × Int)) (m : List TOp') (hp : p_cur2 c m) : ∃ t : (List TPair) × (((List Int) × Int × Int)), (q_anyBat c m t) ∧ TCon Try.prog 194 [(.bx [(.c (.sl [(.int .u8)]) c.1), (.c TI c.2.1), (.c TI c.2.2)]), (.a [(.c (.sl ctOp) m)])] (s_l6AnyBatch_R t) := by
  refine tex_of (s_l6AnyBatch_t c m _ (s_l6AnyBatch_v0 (fun r' => ∃ t, (q_anyBat c m t) ∧ r' = s_l6AnyBatch_R t) c m ?_))
  have hc : p_cur c := hp
  have b1 := s_l6Batch_post c m hc
  generalize e_batch c m = r1 at b1 ⊢
  obtain ⟨k1, k2, k3⟩ := b1
  have b3 := (s_l1Below_post r1.2 16 k3).2.2.2
  generalize e_below r1.2 16 = r3 at b3 ⊢
  refine ⟨hc, k3, fun _ => leafP ⟨by simp, b3⟩, fun _ => ⟨fun _ => ⟨⟨b3, ⟨by omega, by simp; omega⟩, by simp; omega⟩, leafP ⟨by simp; omega, (s_l3Any_post _ b3).2⟩⟩, fun _ => ⟨fun _ => ?_, fun _ => leafP ⟨by simp; omega, b3⟩⟩⟩⟩
  rw [List.take_length]
  have key : ∀ (k : Nat) (t : TCur) (b : List TPair), p_cur t → 1 ≤ b.length → b.length + k = 6 → s_l6AnyBatch_A2 (fun r' => ∃ t, (q_anyBat c m t) ∧ r' = s_l6AnyBatch_R t) t.1 t.2.1 t.2.2 b := by
    intro k
    induction k with
    | zero =>
      intro t b hc q1 q2
      have b2 := s_l1Below_post t 2 hc
      have q3 := b2.1
      have q4 := b2.2.1 (by omega)
      have hw : w64 (5 + (e_below t 2).1) = 5 + (e_below t 2).1 := w64_ok (by omega) (by omega)
      refine s_l6AnyBatch_v2 (fun r' => ∃ t, (q_anyBat c m t) ∧ r' = s_l6AnyBatch_R t) _ _ _ _ ⟨hc, fun h => ?_, fun _ => leafP ⟨by simp; omega, b2.2.2.2⟩⟩
      have h := of_decide_eq_true h
      have h' : (b.length : Int) < w64 (5 + (e_below t 2).1) := h
      rw [hw] at h'
      omega
    | succ k ih =>
      intro t b hc q1 q2
      have b2 := s_l1Below_post t 2 hc
      refine s_l6AnyBatch_v2 (fun r' => ∃ t, (q_anyBat c m t) ∧ r' = s_l6AnyBatch_R t) _ _ _ _ ⟨hc, fun _ => ?_, fun _ => leafP ⟨by simp; omega, b2.2.2.2⟩⟩
      refine ⟨⟨⟨by omega, by simp; omega⟩, by simp; omega, .inl rfl, by rw [big_eq]; omega⟩, ?_⟩
      rw [take_app1]
      exact ih _ _ b2.2.2.2 (by simp) (by simp; omega)
  exact key (6 - r1.1.length) _ _ b3 k1 (by omega)
theorem s_l6AnyBatch_post (c : ((List Int) × Int × Int)) (m : List TOp') (hp : p_cur2 c m) : q_anyBat c m (e_anyBatch c m) := (Classical.epsilon_spec (s_l6AnyBatch_ex c m hp)).1
theorem s_l6AnyBatch_h : s_l6AnyBatch_C := by
  intro c m hp
  exact (Classical.epsilon_spec (s_l6AnyBatch_ex c m hp)).2

theorem s_l6AnyBatch_ok : TRowOk Try.prog s_l6AnyBatch_row := rowOk fun x h => s_l6AnyBatch_h x.1 x.2.1 h

def s_l12Config_R (t : TConfig × (List TPair) × (((List Int) × Int × Int))) : TRes := ⟨(.tp [(.a [(.c (.sl ctOp) t.1.1), (.r [TI] 0 0 ((t.1.2.1).length)), (.c TI t.1.2.2.1), (.r [.bool] 1 0 ((t.1.2.2.2.1).length)), (.r [TI] 2 0 ((t.1.2.2.2.2.1).length)), (.r [TI] 3 0 ((t.1.2.2.2.2.2).length))]), (.c (.sl ctPair) t.2.1)]), [(.sl 3 [TI] true t.1.2.1), (.sl 4 [.bool] true t.1.2.2.2.1), (.sl 3 [TI] true t.1.2.2.2.2.1), (.sl 3 [TI] true t.1.2.2.2.2.2)], [[(.c (.sl [(.int .u8)]) t.2.2.1), (.c TI t.2.2.2.1), (.c TI t.2.2.2.2)]], true, []⟩
def e_config (x0 : ((List Int) × Int × Int)) : TConfig × (List TPair) × (((List Int) × Int × Int)) := Classical.epsilon fun t : TConfig × (List TPair) × (((List Int) × Int × Int)) => (q_config x0 t) ∧ TCon Try.prog 193 [(.bx [(.c (.sl [(.int .u8)]) x0.1), (.c TI x0.2.1), (.c TI x0.2.2)])] (s_l12Config_R t)
def s_l12Config_row : TRow := mkRow 193 [(.b [(.sl [(.int .u8)]), TI, TI])] fun x => (some (p_cur x.1), s_l12Config_R (e_config x.1))
def s_l12Config_C : Prop := ∀ (x0 : ((List Int) × Int × Int)), (p_cur x0) → TCon Try.prog 193 [(.bx [(.c (.sl [(.int .u8)]) x0.1), (.c TI x0.2.1), (.c TI x0.2.2)])] (s_l12Config_R (e_config x0))

/-! spec.l12Config -/
def s_l12Config_G : List TRow := [s_l6Model_row, s_l8Cuts_row, s_l1Below_row, s_l6Batch_row, s_l1Once_row, s_PeakOf_row, s_l1PickInt_row]
def s_l12Config_b2 : TCode :=
  (.seq (.seq (.reg [.op (some 22) (.mov (.s 7)),
     .op (some 23) (.fad (.s 5) 1),
     .op (some 24) (.load (.s 23) 1 false),
     .op (some 25) (.len (.s 24)),
     .op (some 26) (.bin .leq (.s 22) (.s 25))])
  (.cond (.s 26) .skip (.exit 0)))
 (.seq (.block 1 (.seq (.draw [.op (some 29) (.fad (.s 5) 3),
       .op (some 30) (.load (.s 29) 1 false),
       .op (some 31) (.mov (.s 0)),
       .op (some 32) (.call 136 [(.s 31), (.k (.c TI (3 : Int)))]),
       .op (some 33) (.bsl 4 [.bool] [(.s 32)]),
       .op (some 34) (.app (.s 30) (.s 33) 4 [.bool]),
       .op (some 35) (.fad (.s 5) 3),
       .op none (.store (.s 35) (.s 34) 1)] [(0, 3), (1, 3), (0, 4), (1, 4)])
    (.seq (.reg [.op (some 36) (.mov (.s 7)),
        .op (some 37) (.bin .gtr (.s 36) (.k (.c TI (0 : Int))))])
     (.cond (.s 37) (.draw [.op (some 38) (.fad (.s 5) 4),
         .op (some 39) (.load (.s 38) 1 false),
         .op (some 40) (.mov (.s 0)),
         .op (some 41) (.call 116 [(.s 40), (.k (.c TI (3 : Int)))]),
         .op (some 42) (.bin .add (.k (.c TI (1 : Int))) (.s 41)),
         .op (some 43) (.bsl 3 [TI] [(.s 42)]),
         .op (some 44) (.app (.s 39) (.s 43) 3 [TI]),
         .op (some 45) (.fad (.s 5) 4),
         .op none (.store (.s 45) (.s 44) 1)] [(0, 3), (1, 3), (0, 5), (1, 5)]) .skip))))
  (.reg [.op (some 27) (.mov (.s 7)),
     .op (some 28) (.bin .add (.s 27) (.k (.c TI (1 : Int)))),
     .op (some 7) (.mov (.s 28))])))
def s_l12Config_L2 : List (Nat × Md) := [(0, .b [.d, .d, .d]), (2, .b [.d, .d, .d, .d, .d, .d]), (5, .b [.d, .f, .d, .o 4, .o 3, .o 3]), (6, .one .d), (7, .one .d)]
def s_l12Config_b4 : TCode :=
  (.seq (.seq (.reg [.op (some 46) (.mov (.s 8)),
     .op (some 47) (.fad (.s 5) 1),
     .op (some 48) (.load (.s 47) 1 false),
     .op (some 49) (.len (.s 48)),
     .op (some 50) (.bin .leq (.s 46) (.s 49))])
  (.cond (.s 50) .skip (.exit 2)))
 (.seq (.block 3 (.draw [.op (some 53) (.fad (.s 5) 5),
      .op (some 54) (.load (.s 53) 1 false),
      .op (some 55) (.load (.s 5) 6 true),
      .op (some 56) (.mov (.s 8)),
      .op (some 57) (.mov (.s 6)),
      .op (some 58) (.len (.s 57)),
      .op (some 59) (.call 76 [(.s 55), (.s 56), (.s 58)]),
      .op (some 60) (.mov (.s 0)),
      .op (some 61) (.bsl 3 [TI] [(.k (.c TI (0 : Int))), (.k (.c TI (0 : Int))), (.k (.c TI (7 : Int)))]),
      .op (some 62) (.call 182 [(.s 60), (.s 61)]),
      .op (some 63) (.bin .add (.s 59) (.s 62)),
      .op (some 64) (.bsl 3 [TI] [(.s 63)]),
      .op (some 65) (.app (.s 54) (.s 64) 3 [TI]),
      .op (some 66) (.fad (.s 5) 5),
      .op none (.store (.s 66) (.s 65) 1)] [(0, 6), (1, 6), (0, 8), (1, 8), (2, 8), (5, 8), (6, 8), (0, 9), (1, 9), (0, 11), (1, 11)]))
  (.reg [.op (some 51) (.mov (.s 8)),
     .op (some 52) (.bin .add (.s 51) (.k (.c TI (1 : Int)))),
     .op (some 8) (.mov (.s 52))])))
def s_l12Config_L4 : List (Nat × Md) := [(0, .b [.d, .d, .d]), (2, .b [.d, .d, .d, .d, .d, .d]), (5, .b [.d, .f, .d, .f, .f, .f]), (6, .one .d), (8, .one .d)]
def s_l12Config_y3 : TCode :=
  (.seq (.reg [.op (some 67) (.load (.s 5) 6 true),
    .op (some 68) (.mov (.s 6)),
    .op none (.store (.s 2) (.s 67) 6),
    .op (some 3) (.mov (.s 68))])
 .ret)
def s_l12Config_y1 : TCode :=
  (.seq (.seq (.reg [.op (some 8) (.mov (.k (.c TI (0 : Int))))])
  (.block 2 (.loop s_l12Config_L4 s_l12Config_b4)))
 s_l12Config_y3)
def s_l12Config_c : TCode :=
  (.seq (.reg [.op (some 2) (.new 103 [(.n ctOp), (.n [TI]), (.c TI (0 : Int)), (.n [.bool]), (.n [TI]), (.n [TI])]),
    .op (some 3) (.mov (.k (.n ctPair)))])
 (.seq (.reg [.op (some 9) (.mov (.s 0)),
     .op (some 10) (.call 186 [(.s 9)]),
     .op (some 4) (.new 66 [(.n ctOp)]),
     .op none (.store (.s 4) (.s 10) 1)])
  (.seq (.draw [.op (some 11) (.load (.s 4) 1 true),
      .op (some 12) (.mov (.s 0)),
      .op (some 13) (.load (.s 4) 1 true),
      .op (some 14) (.call 188 [(.s 12), (.s 13)]),
      .op (some 15) (.mov (.s 0)),
      .op (some 16) (.call 116 [(.s 15), (.k (.c TI (2 : Int)))]),
      .op (some 17) (.bin .add (.k (.c TI (1 : Int))) (.s 16)),
      .op (some 18) (.build [(.n ctOp), (.n [TI]), (.c TI (0 : Int)), (.n [.bool]), (.n [TI]), (.n [TI])] [(0, 1, (.s 11)), (1, 1, (.s 14)), (2, 1, (.s 17))]),
      .op (some 5) (.new 103 [(.n ctOp), (.n [TI]), (.c TI (0 : Int)), (.n [.bool]), (.n [TI]), (.n [TI])]),
      .op none (.store (.s 5) (.s 18) 6)] [(0, 3), (0, 5), (0, 8), (2, 8), (3, 8), (5, 8)])
   (.seq (.reg [.op (some 19) (.mov (.s 0)),
       .op (some 20) (.load (.s 4) 1 true),
       .op (some 21) (.call 207 [(.s 19), (.s 20)]),
       .op (some 6) (.mov (.s 21))])
    (.seq (.seq (.reg [.op (some 7) (.mov (.k (.c TI (0 : Int))))])
      (.block 0 (.loop s_l12Config_L2 s_l12Config_b2)))
     s_l12Config_y1)))))
def s_l12Config_rs : List (ARv × Md) := [(.l 2 6 true, .b [.d, .o 3, .d, .o 4, .o 3, .o 3]), (.t 3, .one .d)]
theorem s_l12Config_st : compF Try.prog 193 = some (s_l12Config_c.er, s_l12Config_rs.map Prod.fst, 69) := by kernel_rfl
def s_l12Config_Q (K : TRes → Prop) : TPost := TQ 1 0 s_l12Config_rs K
def s_l12Config_q1 (K : TRes → Prop) : TPost := Qseq (tawp s_l12Config_G 1 s_l12Config_y3 (s_l12Config_Q K)) (s_l12Config_Q K)
def s_l12Config_q2 (K : TRes → Prop) : TPost := Qblk 2 (s_l12Config_q1 K)
def s_l12Config_A4 (K : TRes → Prop) (c : ((List Int) × Int × Int)) (s1 : Int) (c01 : List Int) (c11 : Int) (c21 : Int) (x11 : List Int) (x31 : List Bool) (x41 : List Int) (x5 : List Int) : Prop := Loop s_l12Config_G 1 s_l12Config_L4 s_l12Config_b4 (s_l12Config_q2 K) ⟨[(0, (.p 0 0 0)), (2, (.p 1 0 0)), (5, (.p 6 0 0)), (6, (.c (.sl ctPair) (List.take (((e_batch ((e_below ((e_cuts ((e_model c).2) (List.take (((e_model c).1).length) (List.drop 0 ((e_model c).1)))).2) (2 : Int)).2) (List.take (((e_model c).1).length) (List.drop 0 ((e_model c).1)))).1).length) (List.drop 0 ((e_batch ((e_below ((e_cuts ((e_model c).2) (List.take (((e_model c).1).length) (List.drop 0 ((e_model c).1)))).2) (2 : Int)).2) (List.take (((e_model c).1).length) (List.drop 0 ((e_model c).1)))).1))))), (8, (.c TI s1))], [(0, (.box [(.c (.sl [(.int .u8)]) c01), (.c TI c11), (.c TI c21)])), (1, (.box [(.c (.sl ctOp) ([])), (.c (.sl [TI]) ([])), (.c TI (0 : Int)), (.c (.sl [.bool]) ([])), (.c (.sl [TI]) ([])), (.c (.sl [TI]) ([]))])), (2, (.sl 3 [TI] true x11)), (3, (.sl 4 [.bool] true x31)), (4, (.sl 3 [TI] true x41)), (5, (.sl 3 [TI] true x5)), (6, (.box [(.c (.sl ctOp) (List.take (((e_model c).1).length) (List.drop 0 ((e_model c).1)))), (.r [TI] 2 0 x11.length), (.c TI (w64 ((1 : Int) + ((e_below ((e_cuts ((e_model c).2) (List.take (((e_model c).1).length) (List.drop 0 ((e_model c).1)))).2) (2 : Int)).1)))), (.r [.bool] 3 0 x31.length), (.r [TI] 4 0 x41.length), (.r [TI] 5 0 x5.length)]))], 7⟩
def s_l12Config_q3 (K : TRes → Prop) : TPost := Qseq (tawp s_l12Config_G 1 s_l12Config_y1 (s_l12Config_Q K)) (s_l12Config_Q K)
def s_l12Config_q4 (K : TRes → Prop) : TPost := Qblk 0 (s_l12Config_q3 K)
def s_l12Config_A2 (K : TRes → Prop) (c : ((List Int) × Int × Int)) (s : Int) (c0 : List Int) (c1 : Int) (c2 : Int) (x1 : List Int) (x3 : List Bool) (x4 : List Int) : Prop := Loop s_l12Config_G 1 s_l12Config_L2 s_l12Config_b2 (s_l12Config_q4 K) ⟨[(0, (.p 0 0 0)), (2, (.p 1 0 0)), (5, (.p 6 0 0)), (6, (.c (.sl ctPair) (List.take (((e_batch ((e_below ((e_cuts ((e_model c).2) (List.take (((e_model c).1).length) (List.drop 0 ((e_model c).1)))).2) (2 : Int)).2) (List.take (((e_model c).1).length) (List.drop 0 ((e_model c).1)))).1).length) (List.drop 0 ((e_batch ((e_below ((e_cuts ((e_model c).2) (List.take (((e_model c).1).length) (List.drop 0 ((e_model c).1)))).2) (2 : Int)).2) (List.take (((e_model c).1).length) (List.drop 0 ((e_model c).1)))).1))))), (7, (.c TI s))], [(0, (.box [(.c (.sl [(.int .u8)]) c0), (.c TI c1), (.c TI c2)])), (1, (.box [(.c (.sl ctOp) ([])), (.c (.sl [TI]) ([])), (.c TI (0 : Int)), (.c (.sl [.bool]) ([])), (.c (.sl [TI]) ([])), (.c (.sl [TI]) ([]))])), (2, (.sl 3 [TI] true x1)), (3, (.sl 4 [.bool] true x3)), (4, (.sl 3 [TI] true x4)), (5, (.sl 3 [TI] true ([] : List Int))), (6, (.box [(.c (.sl ctOp) (List.take (((e_model c).1).length) (List.drop 0 ((e_model c).1)))), (.r [TI] 2 0 x1.length), (.c TI (w64 ((1 : Int) + ((e_below ((e_cuts ((e_model c).2) (List.take (((e_model c).1).length) (List.drop 0 ((e_model c).1)))).2) (2 : Int)).1)))), (.r [.bool] 3 0 x3.length), (.r [TI] 4 0 x4.length), (.r [TI] 5 0 0)]))], 7⟩
theorem s_l12Config_v4 (K : TRes → Prop) (c : ((List Int) × Int × Int)) (s1 : Int) (c01 : List Int) (c11 : Int) (c21 : Int) (x11 : List Int) (x31 : List Bool) (x41 : List Int) (x5 : List Int) (h :
  (((decide (s1 ≤ ((x11.length : Nat) : Int))) = true → (((p_pickInt (c01, c11, c21) ([(0 : Int), (0 : Int), (7 : Int)])) ∧ ((x5.length = x5.length ∨ x5.length + 1 ≤ x5.length) ∧ x5.length + 1 ≤ big)) ∧ (s_l12Config_A4 K c (w64 (s1 + (1 : Int))) (((e_pickInt (c01, c11, c21) ([(0 : Int), (0 : Int), (7 : Int)])).2).1) (((e_pickInt (c01, c11, c21) ([(0 : Int), (0 : Int), (7 : Int)])).2).2.1) (((e_pickInt (c01, c11, c21) ([(0 : Int), (0 : Int), (7 : Int)])).2).2.2) (List.take x11.length x11) (List.take x31.length x31) (List.take x41.length x41) (List.take (x5.length + 1) ((List.take x5.length x5) ++ ([w64 ((m_peakOf ((List.take (((e_model c).1).length) (List.drop 0 ((e_model c).1))), (List.take x11.length (List.drop 0 x11)), w64 ((1 : Int) + ((e_below ((e_cuts ((e_model c).2) (List.take (((e_model c).1).length) (List.drop 0 ((e_model c).1)))).2) (2 : Int)).1)), (List.take x31.length (List.drop 0 x31)), (List.take x41.length (List.drop 0 x41)), (List.take x5.length (List.drop 0 x5))) s1 ((List.take (((e_batch ((e_below ((e_cuts ((e_model c).2) (List.take (((e_model c).1).length) (List.drop 0 ((e_model c).1)))).2) (2 : Int)).2) (List.take (((e_model c).1).length) (List.drop 0 ((e_model c).1)))).1).length) (List.drop 0 ((e_batch ((e_below ((e_cuts ((e_model c).2) (List.take (((e_model c).1).length) (List.drop 0 ((e_model c).1)))).2) (2 : Int)).2) (List.take (((e_model c).1).length) (List.drop 0 ((e_model c).1)))).1))).length : Int)) + ((e_pickInt (c01, c11, c21) ([(0 : Int), (0 : Int), (7 : Int)])).1))])))))) ∧ ((decide (s1 ≤ ((x11.length : Nat) : Int))) = false → K (s_l12Config_R (((List.take (((e_model c).1).length) (List.drop 0 ((e_model c).1))), (List.take x11.length x11), w64 ((1 : Int) + ((e_below ((e_cuts ((e_model c).2) (List.take (((e_model c).1).length) (List.drop 0 ((e_model c).1)))).2) (2 : Int)).1)), (List.take x31.length x31), (List.take x41.length x41), (List.take x5.length x5)), (List.take (((e_batch ((e_below ((e_cuts ((e_model c).2) (List.take (((e_model c).1).length) (List.drop 0 ((e_model c).1)))).2) (2 : Int)).2) (List.take (((e_model c).1).length) (List.drop 0 ((e_model c).1)))).1).length) (List.drop 0 ((e_batch ((e_below ((e_cuts ((e_model c).2) (List.take (((e_model c).1).length) (List.drop 0 ((e_model c).1)))).2) (2 : Int)).2) (List.take (((e_model c).1).length) (List.drop 0 ((e_model c).1)))).1))), (c01, c11, c21)))))) : s_l12Config_A4 K c s1 c01 c11 c21 x11 x31 x41 x5 :=
  Loop.of (by kernel_rfl) h
theorem s_l12Config_v2 (K : TRes → Prop) (c : ((List Int) × Int × Int)) (s : Int) (c0 : List Int) (c1 : Int) (c2 : Int) (x1 : List Int) (x3 : List Bool) (x4 : List Int) (h :
  (((decide (s ≤ ((x1.length : Nat) : Int))) = true → (((p_cur2 (c0, c1, c2) (3 : Int)) ∧ ((x3.length = x3.length ∨ x3.length + 1 ≤ x3.length) ∧ x3.length + 1 ≤ big)) ∧ (((decide (s > (0 : Int))) = true → (((p_cur2 ((e_once (c0, c1, c2) (3 : Int)).2) (3 : Int)) ∧ ((x4.length = x4.length ∨ x4.length + 1 ≤ x4.length) ∧ x4.length + 1 ≤ big)) ∧ (s_l12Config_A2 K c (w64 (s + (1 : Int))) (((e_below ((e_once (c0, c1, c2) (3 : Int)).2) (3 : Int)).2).1) (((e_below ((e_once (c0, c1, c2) (3 : Int)).2) (3 : Int)).2).2.1) (((e_below ((e_once (c0, c1, c2) (3 : Int)).2) (3 : Int)).2).2.2) (List.take x1.length x1) (List.take (x3.length + 1) ((List.take x3.length x3) ++ ([(e_once (c0, c1, c2) (3 : Int)).1]))) (List.take (x4.length + 1) ((List.take x4.length x4) ++ ([w64 ((1 : Int) + ((e_below ((e_once (c0, c1, c2) (3 : Int)).2) (3 : Int)).1))])))))) ∧ ((decide (s > (0 : Int))) = false → (s_l12Config_A2 K c (w64 (s + (1 : Int))) (((e_once (c0, c1, c2) (3 : Int)).2).1) (((e_once (c0, c1, c2) (3 : Int)).2).2.1) (((e_once (c0, c1, c2) (3 : Int)).2).2.2) (List.take x1.length x1) (List.take (x3.length + 1) ((List.take x3.length x3) ++ ([(e_once (c0, c1, c2) (3 : Int)).1]))) (List.take x4.length x4)))))) ∧ ((decide (s ≤ ((x1.length : Nat) : Int))) = false → (s_l12Config_A4 K c (0 : Int) c0 c1 c2 (List.take x1.length x1) (List.take x3.length x3) (List.take x4.length x4) ([] : List Int))))) : s_l12Config_A2 K c s c0 c1 c2 x1 x3 x4 :=
  Loop.of (by kernel_rfl) h
theorem s_l12Config_v0 (K : TRes → Prop) (c : ((List Int) × Int × Int)) (h :
  ((p_cur c) ∧ (((p_cuts ((e_model c).2) (List.take (((e_model c).1).length) (List.drop 0 ((e_model c).1)))) ∧ (p_cur2 ((e_cuts ((e_model c).2) (List.take (((e_model c).1).length) (List.drop 0 ((e_model c).1)))).2) (2 : Int))) ∧ ((p_cur2 ((e_below ((e_cuts ((e_model c).2) (List.take (((e_model c).1).length) (List.drop 0 ((e_model c).1)))).2) (2 : Int)).2) (List.take (((e_model c).1).length) (List.drop 0 ((e_model c).1)))) ∧ (s_l12Config_A2 K c (0 : Int) (((e_batch ((e_below ((e_cuts ((e_model c).2) (List.take (((e_model c).1).length) (List.drop 0 ((e_model c).1)))).2) (2 : Int)).2) (List.take (((e_model c).1).length) (List.drop 0 ((e_model c).1)))).2).1) (((e_batch ((e_below ((e_cuts ((e_model c).2) (List.take (((e_model c).1).length) (List.drop 0 ((e_model c).1)))).2) (2 : Int)).2) (List.take (((e_model c).1).length) (List.drop 0 ((e_model c).1)))).2).2.1) (((e_batch ((e_below ((e_cuts ((e_model c).2) (List.take (((e_model c).1).length) (List.drop 0 ((e_model c).1)))).2) (2 : Int)).2) (List.take (((e_model c).1).length) (List.drop 0 ((e_model c).1)))).2).2.2) (List.take (((e_cuts ((e_model c).2) (List.take (((e_model c).1).length) (List.drop 0 ((e_model c).1)))).1).length) ((e_cuts ((e_model c).2) (List.take (((e_model c).1).length) (List.drop 0 ((e_model c).1)))).1)) ([] : List Bool) ([] : List Int)))))) : Hold (tawp s_l12Config_G (1 + 0) s_l12Config_c (TQ 1 0 s_l12Config_rs K) (tstart [(.bx [(.c (.sl [(.int .u8)]) c.1), (.c TI c.2.1), (.c TI c.2.2)])])) :=
  Hold.of (by kernel_rfl) h
theorem s_l12Config_t (c : ((List Int) × Int × Int)) (K : TRes → Prop) (h : Hold (tawp s_l12Config_G (1 + 0) s_l12Config_c (TQ 1 0 s_l12Config_rs K) (tstart [(.bx [(.c (.sl [(.int .u8)]) c.1), (.c TI c.2.1), (.c TI c.2.2)])]))) : ∃ r, K r ∧ TCon Try.prog 193 [(.bx [(.c (.sl [(.int .u8)]) c.1), (.c TI c.2.1), (.c TI c.2.2)])] r :=
  tcon_gen_ex (sg := [(.b [(.sl [(.int .u8)]), TI, TI])]) mixed (TOk.cons s_l6Model_ok (TOk.cons s_l8Cuts_ok (TOk.cons s_l1Below_ok (TOk.cons s_l6Batch_ok (TOk.cons s_l1Once_ok (TOk.cons s_PeakOf_ok (TOk.cons s_l1PickInt_ok TOk.nil))))))) s_l12Config_st (by kernel_rfl) (by kernel_rfl) (by kernel_rfl) (by kernel_rfl) h
theorem s_l12Config_ex (c : ((List Int) × Int × Int)) (hp : p_cur c) : ∃ t : TConfig × (List TPair) × (((List Int) × Int × Int)), (q_config c t) ∧ TCon Try.prog 193 [(.bx [(.c (.sl [(.int .u8)]) c.1), (.c TI c.2.1), (.c TI c.2.2)])] (s_l12Config_R t) := by
  refine tex_of (s_l12Config_t c _ (s_l12Config_v0 (fun r' => ∃ t, (q_config c t) ∧ r' = s_l12Config_R t) c ?_))
  have hc : p_cur c := hp
  have b1 := s_l6Model_post c hc
  simp only [List.drop_zero, List.take_length]
  have hcu : p_cuts (e_model c).2 (e_model c).1 := ⟨b1.2.2, by have := b1.2.1; omega⟩
  have b2 := s_l8Cuts_post _ _ hcu
  have b3 := (s_l1Below_post (e_cuts (e_model c).2 (e_model c).1).2 2 b2.2.2).2.2.2
  have b4 := s_l6Batch_post _ (e_model c).1 b3
  have hl := b2.2.1
  refine ⟨hc, ⟨hcu, b2.2.2⟩, b3, ?_⟩
  have k4 : ∀ (x11 : List Int) (x31 : List Bool) (x41 : List Int), x11.length ≤ 3 → 1 ≤ x31.length → x31.length ≤ 4 → x41.length ≤ 4 → ∀ (k : Nat) (t : TCur) (s1 : Nat) (x5 : List Int), p_cur t → s1 + k = x11.length + 1 → x5.length = s1 → s_l12Config_A4 (fun r' => ∃ t, (q_config c t) ∧ r' = s_l12Config_R t) c (s1 : Int) t.1 t.2.1 t.2.2 x11 x31 x41 x5 := by
    intro x11 x31 x41 m0 m1 m2 m3 k
    induction k with
    | zero =>
      intro t s1 x5 ht h1 h2
      refine s_l12Config_v4 (fun r' => ∃ t, (q_config c t) ∧ r' = s_l12Config_R t) c _ _ _ _ _ _ _ _ ⟨fun h => by simp at h; omega, fun _ => leafP ⟨?_, ?_, ?_, ?_, ?_, ?_, ht⟩⟩
      all_goals (simp; omega)
    | succ k ih =>
      intro t s1 x5 ht h1 h2
      have hpk : p_pickInt t [0, 0, 7] := ⟨ht, by simp, by simp⟩
      refine s_l12Config_v4 (fun r' => ∃ t, (q_config c t) ∧ r' = s_l12Config_R t) c _ _ _ _ _ _ _ _ ⟨fun _ => ⟨⟨hpk, ⟨.inl rfl, by rw [big_eq]; omega⟩⟩, ?_⟩, fun h => by simp at h; omega⟩
      rw [sc1 (by omega), List.take_length, List.take_length, List.take_length]
      exact ih (e_pickInt t [0, 0, 7]).2 (s1 + 1) _ (s_l1PickInt_post _ _ hpk).2 (by omega) (by simp; omega)
  have k2 : ∀ (x1 : List Int), x1.length ≤ 3 → ∀ (k : Nat) (t : TCur) (s : Nat) (x3 : List Bool) (x4 : List Int), p_cur t → s + k = x1.length + 1 → x3.length = s → x4.length ≤ s → s_l12Config_A2 (fun r' => ∃ t, (q_config c t) ∧ r' = s_l12Config_R t) c (s : Int) t.1 t.2.1 t.2.2 x1 x3 x4 := by
    intro x1 m0 k
    induction k with
    | zero =>
      intro t s x3 x4 ht h1 h2 h3
      refine s_l12Config_v2 (fun r' => ∃ t, (q_config c t) ∧ r' = s_l12Config_R t) c _ _ _ _ _ _ _ ⟨fun h => by simp at h; omega, fun _ => ?_⟩
      rw [List.take_length, List.take_length, List.take_length]
      exact k4 x1 x3 x4 m0 (by omega) (by omega) (by omega) (x1.length + 1) t 0 [] ht (by omega) rfl
    | succ k ih =>
      intro t s x3 x4 ht h1 h2 h3
      have b5 := s_l1Once_post t 3 ht
      have b6 := (s_l1Below_post (e_once t 3).2 3 b5).2.2.2
      refine s_l12Config_v2 (fun r' => ∃ t, (q_config c t) ∧ r' = s_l12Config_R t) c _ _ _ _ _ _ _ ⟨fun _ => ⟨⟨ht, ⟨.inl rfl, by rw [big_eq]; omega⟩⟩, fun _ => ⟨⟨b5, ⟨.inl rfl, by rw [big_eq]; omega⟩⟩, ?_⟩, fun _ => ?_⟩, fun h => by simp at h; omega⟩
      · rw [sc1 (by omega), List.take_length (l := x1)]
        exact ih (e_below (e_once t 3).2 3).2 (s + 1) _ _ b6 (by omega) (by simp; omega) (by simp; omega)
      · rw [sc1 (by omega), List.take_length (l := x1)]
        exact ih (e_once t 3).2 (s + 1) _ _ b5 (by omega) (by simp; omega) (by simp; omega)
  exact k2 _ hl ((e_cuts (e_model c).2 (e_model c).1).1.length + 1) _ 0 [] [] b4.2.2 (by omega) rfl (by simp)
theorem s_l12Config_post (c : ((List Int) × Int × Int)) (hp : p_cur c) : q_config c (e_config c) := (Classical.epsilon_spec (s_l12Config_ex c hp)).1
theorem s_l12Config_h : s_l12Config_C := by
  intro c hp
  exact (Classical.epsilon_spec (s_l12Config_ex c hp)).2

theorem s_l12Config_ok : TRowOk Try.prog s_l12Config_row := rowOk fun x h => s_l12Config_h x.1 h

def s_l12Any_R (t : TConfig × (List TPair) × (((List Int) × Int × Int))) : TRes := ⟨(.tp [(.a (Tup.cells ctConfig t.1)), (.c (.sl ctPair) t.2.1)]), [], [[(.c (.sl [(.int .u8)]) t.2.2.1), (.c TI t.2.2.2.1), (.c TI t.2.2.2.2)]], true, []⟩
def e_anyConfig (x0 : ((List Int) × Int × Int)) : TConfig × (List TPair) × (((List Int) × Int × Int)) := Classical.epsilon fun t : TConfig × (List TPair) × (((List Int) × Int × Int)) => (q_anyConfig x0 t) ∧ TCon Try.prog 140 [(.bx [(.c (.sl [(.int .u8)]) x0.1), (.c TI x0.2.1), (.c TI x0.2.2)])] (s_l12Any_R t)
def s_l12Any_row : TRow := mkRow 140 [(.b [(.sl [(.int .u8)]), TI, TI])] fun x => (some (p_cur x.1), s_l12Any_R (e_anyConfig x.1))
def s_l12Any_C : Prop := ∀ (x0 : ((List Int) × Int × Int)), (p_cur x0) → TCon Try.prog 140 [(.bx [(.c (.sl [(.int .u8)]) x0.1), (.c TI x0.2.1), (.c TI x0.2.2)])] (s_l12Any_R (e_anyConfig x0))

/-! spec.l12Any -/
def s_l12Any_G : List TRow := [s_l12Config_row, s_l1Below_row, s_l6Any_row, s_l1PickInt_row, s_l6AnyBatch_row]
def s_l12Any_c : TCode :=
  (.seq (.reg [.op (some 2) (.new 103 [(.n ctOp), (.n [TI]), (.c TI (0 : Int)), (.n [.bool]), (.n [TI]), (.n [TI])]),
    .op (some 3) (.mov (.k (.n ctPair)))])
 (.seq (.reg [.op (some 7) (.mov (.s 0)),
     .op (some 8) (.call 193 [(.s 7)]),
     .op (some 6) (.mov (.s 8)),
     .op (some 9) (.ext (.s 6) 0),
     .op (some 10) (.ext (.s 6) 1),
     .op (some 4) (.new 103 [(.n ctOp), (.n [TI]), (.c TI (0 : Int)), (.n [.bool]), (.n [TI]), (.n [TI])]),
     .op none (.store (.s 4) (.s 9) 6),
     .op (some 5) (.mov (.s 10))])
  (.seq (.seq (.reg [.op (some 11) (.mov (.s 0)),
       .op (some 12) (.call 116 [(.s 11), (.k (.c TI (16 : Int)))])])
    (.block 0 (.seq (.reg [.op (some 14) (.bin .eql (.s 12) (.k (.c TI (0 : Int)))),
         .op (some 13) (.mov (.s 14))])
      (.cond (.s 13) (.reg [.op (some 15) (.mov (.s 0)),
          .op (some 16) (.call 131 [(.s 15)]),
          .op (some 17) (.fad (.s 4) 0),
          .op none (.store (.s 17) (.s 16) 1)]) (.seq (.reg [.op (some 19) (.bin .eql (.s 12) (.k (.c TI (1 : Int)))),
           .op (some 18) (.mov (.s 19))])
        (.cond (.s 18) (.draw [.op (some 20) (.fad (.s 4) 1),
            .op (some 21) (.load (.s 20) 1 false),
            .op (some 22) (.mov (.s 0)),
            .op (some 23) (.call 116 [(.s 22), (.k (.c TI (8 : Int)))]),
            .op (some 24) (.bsl 3 [TI] [(.s 23)]),
            .op (some 25) (.app (.s 21) (.s 24) 3 [TI]),
            .op (some 26) (.fad (.s 4) 1),
            .op none (.store (.s 26) (.s 25) 1)] [(0, 3), (1, 3), (0, 4), (1, 4)]) (.seq (.reg [.op (some 28) (.bin .eql (.s 12) (.k (.c TI (2 : Int)))),
             .op (some 27) (.mov (.s 28))])
          (.cond (.s 27) (.reg [.op (some 29) (.mov (.s 0)),
              .op (some 30) (.bsl 3 [TI] [(.k (.c TI (0 : Int))), (.k (.c TI (3 : Int)))]),
              .op (some 31) (.call 182 [(.s 29), (.s 30)]),
              .op (some 32) (.fad (.s 4) 2),
              .op none (.store (.s 32) (.s 31) 1)]) (.seq (.reg [.op (some 34) (.bin .eql (.s 12) (.k (.c TI (3 : Int)))),
               .op (some 33) (.mov (.s 34))])
            (.cond (.s 33) (.reg [.op (some 35) (.fad (.s 4) 3),
                .op (some 36) (.load (.s 35) 1 false),
                .op (some 37) (.fad (.s 4) 3),
                .op (some 38) (.load (.s 37) 1 false),
                .op (some 39) (.len (.s 38)),
                .op (some 40) (.bin .sub (.s 39) (.k (.c TI (1 : Int)))),
                .op (some 41) (.slc (.s 36) none (some (.s 40)) [.bool]),
                .op (some 42) (.fad (.s 4) 3),
                .op none (.store (.s 42) (.s 41) 1)]) (.seq (.reg [.op (some 44) (.bin .eql (.s 12) (.k (.c TI (4 : Int)))),
                 .op (some 43) (.mov (.s 44))])
              (.cond (.s 43) (.seq (.reg [.op (some 45) (.fad (.s 4) 4),
                   .op (some 46) (.load (.s 45) 1 false),
                   .op (some 47) (.len (.s 46)),
                   .op (some 48) (.bin .gtr (.s 47) (.k (.c TI (0 : Int))))])
                (.cond (.s 48) (.draw [.op (some 49) (.fad (.s 4) 4),
                    .op (some 50) (.load (.s 49) 1 false),
                    .op (some 51) (.mov (.s 0)),
                    .op (some 52) (.bsl 3 [TI] [(.k (.c TI (0 : Int))), (.k (.c TI (5 : Int))), (.k (.c TI (6 : Int)))]),
                    .op (some 53) (.call 182 [(.s 51), (.s 52)]),
                    .op (some 54) (.iad (.s 50) (.k (.c TI (0 : Int))) [TI]),
                    .op none (.store (.s 54) (.s 53) 1)] [(0, 3), (1, 3), (0, 4), (1, 4)]) .skip)) (.seq (.reg [.op (some 56) (.bin .eql (.s 12) (.k (.c TI (5 : Int)))),
                   .op (some 55) (.mov (.s 56))])
                (.cond (.s 55) (.draw [.op (some 57) (.fad (.s 4) 5),
                    .op (some 58) (.load (.s 57) 1 false),
                    .op (some 59) (.mov (.s 0)),
                    .op (some 60) (.fad (.s 4) 5),
                    .op (some 61) (.load (.s 60) 1 false),
                    .op (some 62) (.iad (.s 61) (.k (.c TI (0 : Int))) [TI]),
                    .op (some 63) (.load (.s 62) 1 false),
                    .op (some 64) (.bin .sub (.s 63) (.k (.c TI (1 : Int)))),
                    .op (some 65) (.bsl 3 [TI] [(.s 64), (.k (.c TI (100000 : Int))), (.k (.c TI (100001 : Int))), (.k (.c TI (0 : Int)))]),
                    .op (some 66) (.call 182 [(.s 59), (.s 65)]),
                    .op (some 67) (.iad (.s 58) (.k (.c TI (0 : Int))) [TI]),
                    .op none (.store (.s 67) (.s 66) 1)] [(0, 8), (1, 8), (0, 9), (1, 9)]) (.seq (.reg [.op (some 69) (.bin .eql (.s 12) (.k (.c TI (6 : Int)))),
                     .op (some 68) (.mov (.s 69))])
                  (.cond (.s 68) (.reg [.op (some 70) (.mov (.s 0)),
                      .op (some 71) (.fad (.s 4) 0),
                      .op (some 72) (.load (.s 71) 1 true),
                      .op (some 73) (.call 194 [(.s 70), (.s 72)]),
                      .op (some 5) (.mov (.s 73))]) (.seq (.reg [.op (some 75) (.bin .eql (.s 12) (.k (.c TI (7 : Int)))),
                       .op (some 74) (.mov (.s 75))])
                    (.cond (.s 74) (.reg [.op (some 76) (.fad (.s 4) 5),
                        .op (some 77) (.load (.s 76) 1 false),
                        .op (some 78) (.slc (.s 77) (some (.k (.c TI (1 : Int)))) none [TI]),
                        .op (some 79) (.fad (.s 4) 5),
                        .op none (.store (.s 79) (.s 78) 1)]) .skip))))))))))))))))))
   (.seq (.reg [.op (some 80) (.load (.s 4) 6 true),
       .op (some 81) (.mov (.s 5)),
       .op none (.store (.s 2) (.s 80) 6),
       .op (some 3) (.mov (.s 81))])
    .ret))))
def s_l12Any_rs : List (ARv × Md) := [(.l 2 6 true, .b [.d, .d, .d, .d, .d, .d]), (.t 3, .one .d)]
theorem s_l12Any_st : compF Try.prog 140 = some (s_l12Any_c.er, s_l12Any_rs.map Prod.fst, 82) := by kernel_rfl
def s_l12Any_Q (K : TRes → Prop) : TPost := TQ 1 0 s_l12Any_rs K
theorem s_l12Any_v0 (K : TRes → Prop) (c : ((List Int) × Int × Int)) (h :
  ((p_cur c) ∧ ((p_cur2 ((e_config c).2.2) (16 : Int)) ∧ (((((e_below ((e_config c).2.2) (16 : Int)).1) == (0 : Int)) = true → ((p_cur ((e_below ((e_config c).2.2) (16 : Int)).2)) ∧ K (s_l12Any_R (((e_anyModel ((e_below ((e_config c).2.2) (16 : Int)).2)).1, (List.take ((((e_config c).1).2.1).length) (List.drop 0 (((e_config c).1).2.1))), ((e_config c).1).2.2.1, (List.take ((((e_config c).1).2.2.2.1).length) (List.drop 0 (((e_config c).1).2.2.2.1))), (List.take ((((e_config c).1).2.2.2.2.1).length) (List.drop 0 (((e_config c).1).2.2.2.2.1))), (List.take ((((e_config c).1).2.2.2.2.2).length) (List.drop 0 (((e_config c).1).2.2.2.2.2)))), (e_config c).2.1, ((e_anyModel ((e_below ((e_config c).2.2) (16 : Int)).2)).2))))) ∧ ((((e_below ((e_config c).2.2) (16 : Int)).1) == (0 : Int)) = false → (((((e_below ((e_config c).2.2) (16 : Int)).1) == (1 : Int)) = true → (((p_cur2 ((e_below ((e_config c).2.2) (16 : Int)).2) (8 : Int)) ∧ (((((e_config c).1).2.1).length = (((e_config c).1).2.1).length ∨ (((e_config c).1).2.1).length + 1 ≤ (((e_config c).1).2.1).length) ∧ (((e_config c).1).2.1).length + 1 ≤ big)) ∧ K (s_l12Any_R ((((e_config c).1).1, (List.take ((((e_config c).1).2.1).length + 1) (List.drop 0 ((List.take ((((e_config c).1).2.1).length) (((e_config c).1).2.1)) ++ ([(e_below ((e_below ((e_config c).2.2) (16 : Int)).2) (8 : Int)).1])))), ((e_config c).1).2.2.1, (List.take ((((e_config c).1).2.2.2.1).length) (List.drop 0 (((e_config c).1).2.2.2.1))), (List.take ((((e_config c).1).2.2.2.2.1).length) (List.drop 0 (((e_config c).1).2.2.2.2.1))), (List.take ((((e_config c).1).2.2.2.2.2).length) (List.drop 0 (((e_config c).1).2.2.2.2.2)))), (e_config c).2.1, ((e_below ((e_below ((e_config c).2.2) (16 : Int)).2) (8 : Int)).2))))) ∧ ((((e_below ((e_config c).2.2) (16 : Int)).1) == (1 : Int)) = false → (((((e_below ((e_config c).2.2) (16 : Int)).1) == (2 : Int)) = true → ((p_pickInt ((e_below ((e_config c).2.2) (16 : Int)).2) ([(0 : Int), (3 : Int)])) ∧ K (s_l12Any_R ((((e_config c).1).1, (List.take ((((e_config c).1).2.1).length) (List.drop 0 (((e_config c).1).2.1))), (e_pickInt ((e_below ((e_config c).2.2) (16 : Int)).2) ([(0 : Int), (3 : Int)])).1, (List.take ((((e_config c).1).2.2.2.1).length) (List.drop 0 (((e_config c).1).2.2.2.1))), (List.take ((((e_config c).1).2.2.2.2.1).length) (List.drop 0 (((e_config c).1).2.2.2.2.1))), (List.take ((((e_config c).1).2.2.2.2.2).length) (List.drop 0 (((e_config c).1).2.2.2.2.2)))), (e_config c).2.1, ((e_pickInt ((e_below ((e_config c).2.2) (16 : Int)).2) ([(0 : Int), (3 : Int)])).2))))) ∧ ((((e_below ((e_config c).2.2) (16 : Int)).1) == (2 : Int)) = false → (((((e_below ((e_config c).2.2) (16 : Int)).1) == (3 : Int)) = true → (((0 : Int) ≤ (0 : Int) ∧ (0 : Int) ≤ w64 ((((((e_config c).1).2.2.2.1).length : Nat) : Int) - (1 : Int)) ∧ w64 ((((((e_config c).1).2.2.2.1).length : Nat) : Int) - (1 : Int)) ≤ (((((e_config c).1).2.2.2.1).length : Nat) : Int)) ∧ K (s_l12Any_R ((((e_config c).1).1, (List.take ((((e_config c).1).2.1).length) (List.drop 0 (((e_config c).1).2.1))), ((e_config c).1).2.2.1, (List.take (Int.toNat (w64 ((((((e_config c).1).2.2.2.1).length : Nat) : Int) - (1 : Int))) - Int.toNat (0 : Int)) (List.drop 0 (((e_config c).1).2.2.2.1))), (List.take ((((e_config c).1).2.2.2.2.1).length) (List.drop 0 (((e_config c).1).2.2.2.2.1))), (List.take ((((e_config c).1).2.2.2.2.2).length) (List.drop 0 (((e_config c).1).2.2.2.2.2)))), (e_config c).2.1, ((e_below ((e_config c).2.2) (16 : Int)).2))))) ∧ ((((e_below ((e_config c).2.2) (16 : Int)).1) == (3 : Int)) = false → (((((e_below ((e_config c).2.2) (16 : Int)).1) == (4 : Int)) = true → (((decide ((((((e_config c).1).2.2.2.2.1).length : Nat) : Int) > (0 : Int))) = true → (((p_pickInt ((e_below ((e_config c).2.2) (16 : Int)).2) ([(0 : Int), (5 : Int), (6 : Int)])) ∧ (((0 : Int) ≤ (0 : Int) ∧ Int.toNat (0 : Int) < (((e_config c).1).2.2.2.2.1).length) ∧ ((0 + (Int.toNat (0 : Int))) < (((e_config c).1).2.2.2.2.1).length))) ∧ K (s_l12Any_R ((((e_config c).1).1, (List.take ((((e_config c).1).2.1).length) (List.drop 0 (((e_config c).1).2.1))), ((e_config c).1).2.2.1, (List.take ((((e_config c).1).2.2.2.1).length) (List.drop 0 (((e_config c).1).2.2.2.1))), (List.take ((((e_config c).1).2.2.2.2.1).length) (List.drop 0 ((((e_config c).1).2.2.2.2.1).set (0 + (Int.toNat (0 : Int))) ((e_pickInt ((e_below ((e_config c).2.2) (16 : Int)).2) ([(0 : Int), (5 : Int), (6 : Int)])).1)))), (List.take ((((e_config c).1).2.2.2.2.2).length) (List.drop 0 (((e_config c).1).2.2.2.2.2)))), (e_config c).2.1, ((e_pickInt ((e_below ((e_config c).2.2) (16 : Int)).2) ([(0 : Int), (5 : Int), (6 : Int)])).2))))) ∧ ((decide ((((((e_config c).1).2.2.2.2.1).length : Nat) : Int) > (0 : Int))) = false → K (s_l12Any_R ((((e_config c).1).1, (List.take ((((e_config c).1).2.1).length) (List.drop 0 (((e_config c).1).2.1))), ((e_config c).1).2.2.1, (List.take ((((e_config c).1).2.2.2.1).length) (List.drop 0 (((e_config c).1).2.2.2.1))), (List.take ((((e_config c).1).2.2.2.2.1).length) (List.drop 0 (((e_config c).1).2.2.2.2.1))), (List.take ((((e_config c).1).2.2.2.2.2).length) (List.drop 0 (((e_config c).1).2.2.2.2.2)))), (e_config c).2.1, ((e_below ((e_config c).2.2) (16 : Int)).2)))))) ∧ ((((e_below ((e_config c).2.2) (16 : Int)).1) == (4 : Int)) = false → (((((e_below ((e_config c).2.2) (16 : Int)).1) == (5 : Int)) = true → ((((0 : Int) ≤ (0 : Int) ∧ Int.toNat (0 : Int) < (((e_config c).1).2.2.2.2.2).length) ∧ (((0 + (Int.toNat (0 : Int))) < (((e_config c).1).2.2.2.2.2).length) ∧ ((p_pickInt ((e_below ((e_config c).2.2) (16 : Int)).2) ([w64 ((gtd (0 : Int) (((e_config c).1).2.2.2.2.2) (0 + (Int.toNat (0 : Int)))) - (1 : Int)), (100000 : Int), (100001 : Int), (0 : Int)])) ∧ (((0 : Int) ≤ (0 : Int) ∧ Int.toNat (0 : Int) < (((e_config c).1).2.2.2.2.2).length) ∧ ((0 + (Int.toNat (0 : Int))) < (((e_config c).1).2.2.2.2.2).length))))) ∧ K (s_l12Any_R ((((e_config c).1).1, (List.take ((((e_config c).1).2.1).length) (List.drop 0 (((e_config c).1).2.1))), ((e_config c).1).2.2.1, (List.take ((((e_config c).1).2.2.2.1).length) (List.drop 0 (((e_config c).1).2.2.2.1))), (List.take ((((e_config c).1).2.2.2.2.1).length) (List.drop 0 (((e_config c).1).2.2.2.2.1))), (List.take ((((e_config c).1).2.2.2.2.2).length) (List.drop 0 ((((e_config c).1).2.2.2.2.2).set (0 + (Int.toNat (0 : Int))) ((e_pickInt ((e_below ((e_config c).2.2) (16 : Int)).2) ([w64 ((gtd (0 : Int) (((e_config c).1).2.2.2.2.2) (0 + (Int.toNat (0 : Int)))) - (1 : Int)), (100000 : Int), (100001 : Int), (0 : Int)])).1))))), (e_config c).2.1, ((e_pickInt ((e_below ((e_config c).2.2) (16 : Int)).2) ([w64 ((gtd (0 : Int) (((e_config c).1).2.2.2.2.2) (0 + (Int.toNat (0 : Int)))) - (1 : Int)), (100000 : Int), (100001 : Int), (0 : Int)])).2))))) ∧ ((((e_below ((e_config c).2.2) (16 : Int)).1) == (5 : Int)) = false → (((((e_below ((e_config c).2.2) (16 : Int)).1) == (6 : Int)) = true → ((p_cur2 ((e_below ((e_config c).2.2) (16 : Int)).2) (((e_config c).1).1)) ∧ K (s_l12Any_R ((((e_config c).1).1, (List.take ((((e_config c).1).2.1).length) (List.drop 0 (((e_config c).1).2.1))), ((e_config c).1).2.2.1, (List.take ((((e_config c).1).2.2.2.1).length) (List.drop 0 (((e_config c).1).2.2.2.1))), (List.take ((((e_config c).1).2.2.2.2.1).length) (List.drop 0 (((e_config c).1).2.2.2.2.1))), (List.take ((((e_config c).1).2.2.2.2.2).length) (List.drop 0 (((e_config c).1).2.2.2.2.2)))), (e_anyBatch ((e_below ((e_config c).2.2) (16 : Int)).2) (((e_config c).1).1)).1, ((e_anyBatch ((e_below ((e_config c).2.2) (16 : Int)).2) (((e_config c).1).1)).2))))) ∧ ((((e_below ((e_config c).2.2) (16 : Int)).1) == (6 : Int)) = false → (((((e_below ((e_config c).2.2) (16 : Int)).1) == (7 : Int)) = true → (((0 : Int) ≤ (1 : Int) ∧ (1 : Int) ≤ (((((e_config c).1).2.2.2.2.2).length : Nat) : Int) ∧ (((((e_config c).1).2.2.2.2.2).length : Nat) : Int) ≤ (((((e_config c).1).2.2.2.2.2).length : Nat) : Int)) ∧ K (s_l12Any_R ((((e_config c).1).1, (List.take ((((e_config c).1).2.1).length) (List.drop 0 (((e_config c).1).2.1))), ((e_config c).1).2.2.1, (List.take ((((e_config c).1).2.2.2.1).length) (List.drop 0 (((e_config c).1).2.2.2.1))), (List.take ((((e_config c).1).2.2.2.2.1).length) (List.drop 0 (((e_config c).1).2.2.2.2.1))), (List.take (Int.toNat (((((e_config c).1).2.2.2.2.2).length : Nat) : Int) - Int.toNat (1 : Int)) (List.drop (0 + Int.toNat (1 : Int)) (((e_config c).1).2.2.2.2.2)))), (e_config c).2.1, ((e_below ((e_config c).2.2) (16 : Int)).2))))) ∧ ((((e_below ((e_config c).2.2) (16 : Int)).1) == (7 : Int)) = false → K (s_l12Any_R ((((e_config c).1).1, (List.take ((((e_config c).1).2.1).length) (List.drop 0 (((e_config c).1).2.1))), ((e_config c).1).2.2.1, (List.take ((((e_config c).1).2.2.2.1).length) (List.drop 0 (((e_config c).1).2.2.2.1))), (List.take ((((e_config c).1).2.2.2.2.1).length) (List.drop 0 (((e_config c).1).2.2.2.2.1))), (List.take ((((e_config c).1).2.2.2.2.2).length) (List.drop 0 (((e_config c).1).2.2.2.2.2)))), (e_config c).2.1, ((e_below ((e_config c).2.2) (16 : Int)).2)))))))))))))))))))))) : Hold (tawp s_l12Any_G (1 + 0) s_l12Any_c (TQ 1 0 s_l12Any_rs K) (tstart [(.bx [(.c (.sl [(.int .u8)]) c.1), (.c TI c.2.1), (.c TI c.2.2)])])) :=
  Hold.of (by kernel_rfl) h
theorem s_l12Any_t (c : ((List Int) × Int × Int)) (K : TRes → Prop) (h : Hold (tawp s_l12Any_G (1 + 0) s_l12Any_c (TQ 1 0 s_l12Any_rs K) (tstart [(.bx [(.c (.sl [(.int .u8)]) c.1), (.c TI c.2.1), (.c TI c.2.2)])]))) : ∃ r, K r ∧ TCon Try.prog 140 [(.bx [(.c (.sl [(.int .u8)]) c.1), (.c TI c.2.1), (.c TI c.2.2)])] r :=
  tcon_gen_ex (sg := [(.b [(.sl [(.int .u8)]), TI, TI])]) mixed (TOk.cons s_l12Config_ok (TOk.cons s_l1Below_ok (TOk.cons s_l6Any_ok (TOk.cons s_l1PickInt_ok (TOk.cons s_l6AnyBatch_ok TOk.nil))))) s_l12Any_st (by kernel_rfl) (by kernel_rfl) (by kernel_rfl) (by kernel_rfl) h
theorem s_l12Any_ex (c : ((List Int) × Int × Int)) (hp : p_cur c) : ∃ t : TConfig × (List TPair) × (((List Int) × Int × Int)), (q_anyConfig c t) ∧ TCon Try.prog 140 [(.bx [(.c (.sl [(.int .u8)]) c.1), (.c TI c.2.1), (.c TI c.2.2)])] (s_l12Any_R t) := by
  refine tex_of (s_l12Any_t c _ (s_l12Any_v0 (fun r' => ∃ t, (q_anyConfig c t) ∧ r' = s_l12Any_R t) c ?_))
  have hc : p_cur c := hp
  have b1 := s_l12Config_post c hc
  obtain ⟨h1, h2, h3, h4, h5, h6, h7⟩ := b1
  have b2 := (s_l1Below_post (e_config c).2.2 16 h7).2.2.2
  refine ⟨hc, h7, ?_⟩
  refine ⟨fun _ => ⟨b2, leafP (by simp; omega)⟩, fun _ => ?_⟩
  refine ⟨fun _ => ⟨⟨b2, .inl rfl, by rw [big_eq]; omega⟩, leafP (by simp; omega)⟩, fun _ => ?_⟩
  refine ⟨fun _ => ⟨⟨b2, by simp, by simp⟩, leafP (by simp; omega)⟩, fun _ => ?_⟩
  refine ⟨fun _ => ⟨?_, leafP (by simp; omega)⟩, fun _ => ?_⟩
  · rw [w64_ok (by omega) (by omega)]; omega
  refine ⟨fun _ => ⟨fun hh => ⟨⟨⟨b2, by simp, by simp⟩, ⟨by omega, by simpa using hh⟩, by simpa using hh⟩, leafP (by simp; omega)⟩, fun _ => leafP (by simp; omega)⟩, fun _ => ?_⟩
  refine ⟨fun _ => ⟨⟨⟨by omega, by simp; omega⟩, by simp; omega, ⟨b2, by simp, by simp⟩, ⟨by omega, by simp; omega⟩, by simp; omega⟩, leafP (by simp; omega)⟩, fun _ => ?_⟩
  refine ⟨fun _ => ⟨b2, leafP (by simp; omega)⟩, fun _ => ?_⟩
  exact ⟨fun _ => ⟨by omega, leafP (by simp; omega)⟩, fun _ => leafP (by simp; omega)⟩
theorem s_l12Any_post (c : ((List Int) × Int × Int)) (hp : p_cur c) : q_anyConfig c (e_anyConfig c) := (Classical.epsilon_spec (s_l12Any_ex c hp)).1
theorem s_l12Any_h : s_l12Any_C := by
  intro c hp
  exact (Classical.epsilon_spec (s_l12Any_ex c hp)).2

theorem s_l12Any_ok : TRowOk Try.prog s_l12Any_row := rowOk fun x h => s_l12Any_h x.1 h

def s_DrawPipeNew_R (t : TConfig × (List TPair)) : TRes := ⟨(.tp [(.a (Tup.cells ctConfig t.1)), (.c (.sl ctPair) t.2)]), [], [], true, []⟩
def e_drawPipeNew (x0 : List Int) : TConfig × (List TPair) := Classical.epsilon fun t : TConfig × (List TPair) => (q_drawPipeNew x0 t) ∧ TCon Try.prog 71 [(.c (.sl [(.int .u8)]) x0)] (s_DrawPipeNew_R t)
def s_DrawPipeNew_row : TRow := mkRow 71 [(.c (.sl [(.int .u8)]))] fun x => (some (p_new x.1), s_DrawPipeNew_R (e_drawPipeNew x.1))
def s_DrawPipeNew_C : Prop := ∀ (x0 : List Int), (p_new x0) → TCon Try.prog 71 [(.c (.sl [(.int .u8)]) x0)] (s_DrawPipeNew_R (e_drawPipeNew x0))

/-! spec.DrawPipeNew -/
def s_DrawPipeNew_G : List TRow := [s_l1New_row, s_l12Any_row]
def s_DrawPipeNew_c : TCode :=
  (.seq (.reg [.op (some 2) (.new 103 [(.n ctOp), (.n [TI]), (.c TI (0 : Int)), (.n [.bool]), (.n [TI]), (.n [TI])]),
    .op (some 3) (.mov (.k (.n ctPair)))])
 (.seq (.reg [.op (some 4) (.mov (.s 0)),
     .op (some 5) (.call 114 [(.s 4)]),
     .op (some 6) (.call 140 [(.s 5)]),
     .op (some 7) (.ext (.s 6) 0),
     .op (some 8) (.ext (.s 6) 1),
     .op none (.store (.s 2) (.s 7) 6),
     .op (some 3) (.mov (.s 8))])
  .ret))
def s_DrawPipeNew_rs : List (ARv × Md) := [(.l 2 6 true, .b [.d, .d, .d, .d, .d, .d]), (.t 3, .one .d)]
theorem s_DrawPipeNew_st : compF Try.prog 71 = some (s_DrawPipeNew_c.er, s_DrawPipeNew_rs.map Prod.fst, 9) := by kernel_rfl
def s_DrawPipeNew_Q (K : TRes → Prop) : TPost := TQ 0 0 s_DrawPipeNew_rs K
theorem s_DrawPipeNew_v0 (K : TRes → Prop) (code : List Int) (h :
  (((p_new code) ∧ (p_cur (e_new code))) ∧ K (s_DrawPipeNew_R (((e_anyConfig (e_new code)).1), (e_anyConfig (e_new code)).2.1)))) : Hold (tawp s_DrawPipeNew_G (0 + 0) s_DrawPipeNew_c (TQ 0 0 s_DrawPipeNew_rs K) (tstart [(.c (.sl [(.int .u8)]) code)])) :=
  Hold.of (by kernel_rfl) h
theorem s_DrawPipeNew_t (code : List Int) (K : TRes → Prop) (h : Hold (tawp s_DrawPipeNew_G (0 + 0) s_DrawPipeNew_c (TQ 0 0 s_DrawPipeNew_rs K) (tstart [(.c (.sl [(.int .u8)]) code)]))) : ∃ r, K r ∧ TCon Try.prog 71 [(.c (.sl [(.int .u8)]) code)] r :=
  tcon_gen_ex (sg := [(.c (.sl [(.int .u8)]))]) mixed (TOk.cons s_l1New_ok (TOk.cons s_l12Any_ok TOk.nil)) s_DrawPipeNew_st (by kernel_rfl) (by kernel_rfl) (by kernel_rfl) (by kernel_rfl) h
theorem s_DrawPipeNew_ex (code : List Int) (hp : p_new code) : ∃ t : TConfig × (List TPair), (q_drawPipeNew code t) ∧ TCon Try.prog 71 [(.c (.sl [(.int .u8)]) code)] (s_DrawPipeNew_R t) := by
  refine tex_of (s_DrawPipeNew_t code _ (s_DrawPipeNew_v0 (fun r' => ∃ t, (q_drawPipeNew code t) ∧ r' = s_DrawPipeNew_R t) code ?_))
  exact ⟨⟨hp, s_l1New_post code hp⟩, leafP (s_l12Any_post _ (s_l1New_post code hp))⟩
theorem s_DrawPipeNew_post (code : List Int) (hp : p_new code) : q_drawPipeNew code (e_drawPipeNew code) := (Classical.epsilon_spec (s_DrawPipeNew_ex code hp)).1
theorem s_DrawPipeNew_h : s_DrawPipeNew_C := by
  intro code hp
  exact (Classical.epsilon_spec (s_DrawPipeNew_ex code hp)).2

theorem s_DrawPipeNew_ok : TRowOk Try.prog s_DrawPipeNew_row := rowOk fun x h => s_DrawPipeNew_h x.1 h

end
end Go.Proofs.Ytephkbajoofeoaa.Am
