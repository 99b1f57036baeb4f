/-
  Written by program: the code of functions, what it asks, and that it comes to what the models say.
-/
import Derived.Test.YtephkbajoofeoaaD1
import Derived.Test.YtephkbajoofeoaaD2
import Derived.Test.YtephkbajoofeoaaPO
import Derived.Test.YtephkbajoofeoaaM9
namespace Go.Proofs.Ytephkbajoofeoaa.Am
open Go Go.RowKit Go.Proofs.Ytephkbajoofeoaa
set_option linter.unusedVariables false
set_option linter.unusedSimpArgs false
set_option maxHeartbeats 2000000
noncomputable section

def s_l10Queue_R (t : TQueue × (((List Int) × Int × Int))) : TRes := ⟨(.a [(.c TI t.1.1), (.c (.sl ctItem) t.1.2)]), [], [[(.c (.sl [(.int .u8)]) t.2.1), (.c TI t.2.2.1), (.c TI t.2.2.2)]], true, []⟩
def e_queue (x0 : ((List Int) × Int × Int)) : TQueue × (((List Int) × Int × Int)) := Classical.epsilon fun t : TQueue × (((List Int) × Int × Int)) => (q_queue x0 t) ∧ TCon Try.prog 115 [(.bx [(.c (.sl [(.int .u8)]) x0.1), (.c TI x0.2.1), (.c TI x0.2.2)])] (s_l10Queue_R t)
def s_l10Queue_row : TRow := mkRow 115 [(.b [(.sl [(.int .u8)]), TI, TI])] fun x => (some (p_cur x.1), s_l10Queue_R (e_queue x.1))
def s_l10Queue_C : Prop := ∀ (x0 : ((List Int) × Int × Int)), (p_cur x0) → TCon Try.prog 115 [(.bx [(.c (.sl [(.int .u8)]) x0.1), (.c TI x0.2.1), (.c TI x0.2.2)])] (s_l10Queue_R (e_queue x0))

/-! spec.l10Queue -/
def s_l10Queue_G : List TRow := [s_l1Below_row, s_l3Vec_row, s_Push_row, s_l1PickInt_row, s_l3Any_row]
def s_l10Queue_b2 : TCode :=
  (.seq (.seq (.reg [.op (some 13) (.mov (.s 4)),
     .op (some 14) (.bin .gtr (.s 13) (.k (.c TI (0 : Int))))])
  (.cond (.s 14) .skip (.exit 0)))
 (.seq (.block 1 (.seq (.draw [.op (some 18) (.load (.s 3) 2 true),
       .op (some 19) (.mov (.s 0)),
       .op (some 20) (.call 116 [(.s 19), (.k (.c TI (5 : Int)))]),
       .op (some 21) (.mov (.s 0)),
       .op (some 22) (.mov (.s 0)),
       .op (some 23) (.call 116 [(.s 22), (.k (.c TI (3 : Int)))]),
       .op (some 24) (.bin .add (.k (.c TI (1 : Int))) (.s 23)),
       .op (some 25) (.call 181 [(.s 21), (.s 24)]),
       .op (some 26) (.build [(.c TI (0 : Int)), (.n [TI])] [(0, 1, (.s 20)), (1, 1, (.s 25))]),
       .op (some 27) (.call 36 [(.s 18), (.s 26)]),
       .op (some 17) (.mov (.s 27)),
       .op (some 28) (.ext (.s 17) 0),
       .op (some 29) (.ext (.s 17) 1),
       .op (some 5) (.new 36 [(.c TI (0 : Int)), (.n ctItem)]),
       .op none (.store (.s 5) (.s 28) 2),
       .op (some 6) (.mov (.s 29))] [(0, 2), (0, 5), (0, 7), (0, 13), (2, 13), (5, 13), (7, 13), (9, 13)])
    (.reg [.op (some 30) (.load (.s 5) 2 true),
       .op none (.store (.s 3) (.s 30) 2)])))
  (.reg [.op (some 15) (.mov (.s 4)),
     .op (some 16) (.bin .sub (.s 15) (.k (.c TI (1 : Int)))),
     .op (some 4) (.mov (.s 16))])))
def s_l10Queue_L2 : List (Nat × Md) := [(0, .b [.d, .d, .d]), (2, .b [.d, .d]), (3, .b [.d, .o 39]), (4, .one .d)]
def s_l10Queue_y1 : TCode :=
  (.seq (.seq (.reg [.op (some 31) (.mov (.s 0)),
     .op (some 32) (.call 116 [(.s 31), (.k (.c TI (14 : Int)))])])
  (.block 2 (.seq (.reg [.op (some 34) (.bin .eql (.s 32) (.k (.c TI (0 : Int)))),
       .op (some 33) (.mov (.s 34))])
    (.cond (.s 33) (.reg [.op (some 35) (.mov (.s 0)),
        .op (some 36) (.bsl 3 [TI] [(.k (.c TI (0 : Int))), (.k (.c TI (5 : Int))), (.k (.c TI (6 : Int)))]),
        .op (some 37) (.call 182 [(.s 35), (.s 36)]),
        .op (some 38) (.fad (.s 3) 0),
        .op none (.store (.s 38) (.s 37) 1)]) (.seq (.reg [.op (some 40) (.bin .eql (.s 32) (.k (.c TI (1 : Int)))),
         .op (some 39) (.mov (.s 40))])
      (.cond (.s 39) (.draw [.op (some 41) (.fad (.s 3) 1),
          .op (some 42) (.load (.s 41) 1 false),
          .op (some 43) (.mov (.s 0)),
          .op (some 44) (.call 116 [(.s 43), (.k (.c TI (7 : Int)))]),
          .op (some 45) (.bin .sub (.s 44) (.k (.c TI (1 : Int)))),
          .op (some 46) (.mov (.s 0)),
          .op (some 47) (.call 117 [(.s 46)]),
          .op (some 48) (.build [(.c TI (0 : Int)), (.n [TI])] [(0, 1, (.s 45)), (1, 1, (.s 47))]),
          .op (some 49) (.bsl 39 ctItem [(.s 48)]),
          .op (some 50) (.app (.s 42) (.s 49) 39 ctItem),
          .op (some 51) (.fad (.s 3) 1),
          .op none (.store (.s 51) (.s 50) 1)] [(0, 3), (1, 3), (0, 6), (1, 6), (0, 8), (1, 8)]) .skip))))))
 (.seq (.reg [.op (some 52) (.load (.s 3) 2 true),
     .op none (.store (.s 2) (.s 52) 2)])
  .ret))
def s_l10Queue_c : TCode :=
  (.seq (.reg [.op (some 2) (.new 36 [(.c TI (0 : Int)), (.n ctItem)])])
 (.seq (.reg [.op (some 7) (.mov (.s 0)),
     .op (some 8) (.call 116 [(.s 7), (.k (.c TI (3 : Int)))]),
     .op (some 9) (.bin .add (.k (.c TI (1 : Int))) (.s 8)),
     .op (some 10) (.build [(.c TI (0 : Int)), (.n ctItem)] [(0, 1, (.s 9))]),
     .op (some 3) (.new 36 [(.c TI (0 : Int)), (.n ctItem)]),
     .op none (.store (.s 3) (.s 10) 2)])
  (.seq (.seq (.reg [.op (some 11) (.mov (.s 0)),
       .op (some 12) (.call 116 [(.s 11), (.k (.c TI (4 : Int)))]),
       .op (some 4) (.mov (.s 12))])
    (.block 0 (.loop s_l10Queue_L2 s_l10Queue_b2)))
   s_l10Queue_y1)))
def s_l10Queue_rs : List (ARv × Md) := [(.l 2 2 true, .b [.d, .d])]
theorem s_l10Queue_st : compF Try.prog 115 = some (s_l10Queue_c.er, s_l10Queue_rs.map Prod.fst, 53) := by kernel_rfl
def s_l10Queue_Q (K : TRes → Prop) : TPost := TQ 1 0 s_l10Queue_rs K
def s_l10Queue_q1 (K : TRes → Prop) : TPost := Qseq (tawp s_l10Queue_G 1 s_l10Queue_y1 (s_l10Queue_Q K)) (s_l10Queue_Q K)
def s_l10Queue_q2 (K : TRes → Prop) : TPost := Qblk 0 (s_l10Queue_q1 K)
def s_l10Queue_A2 (K : TRes → Prop) (n : Int) (c0 : List Int) (c1 : Int) (c2 : Int) (q1 : List TItem) (q0 : Int) : Prop := Loop s_l10Queue_G 1 s_l10Queue_L2 s_l10Queue_b2 (s_l10Queue_q2 K) ⟨[(0, (.p 0 0 0)), (2, (.p 1 0 0)), (3, (.p 3 0 0)), (4, (.c TI n))], [(0, (.box [(.c (.sl [(.int .u8)]) c0), (.c TI c1), (.c TI c2)])), (1, (.box [(.c TI (0 : Int)), (.c (.sl ctItem) ([]))])), (2, (.sl 39 ctItem true q1)), (3, (.box [(.c TI q0), (.r ctItem 2 0 q1.length)]))], 4⟩
theorem s_l10Queue_v2 (K : TRes → Prop) (n : Int) (c0 : List Int) (c1 : Int) (c2 : Int) (q1 : List TItem) (q0 : Int) (h :
  (((decide (n > (0 : Int))) = true → (((p_cur2 (c0, c1, c2) (5 : Int)) ∧ ((p_cur2 ((e_below (c0, c1, c2) (5 : Int)).2) (3 : Int)) ∧ ((p_vec ((e_below ((e_below (c0, c1, c2) (5 : Int)).2) (3 : Int)).2) (w64 ((1 : Int) + ((e_below ((e_below (c0, c1, c2) (5 : Int)).2) (3 : Int)).1)))) ∧ (p_lim2 (α := TQueue) (β := TItem) (q0, (List.take q1.length (List.drop 0 q1))) ((e_below (c0, c1, c2) (5 : Int)).1, (List.take (((e_vec ((e_below ((e_below (c0, c1, c2) (5 : Int)).2) (3 : Int)).2) (w64 ((1 : Int) + ((e_below ((e_below (c0, c1, c2) (5 : Int)).2) (3 : Int)).1)))).1).length) (List.drop 0 ((e_vec ((e_below ((e_below (c0, c1, c2) (5 : Int)).2) (3 : Int)).2) (w64 ((1 : Int) + ((e_below ((e_below (c0, c1, c2) (5 : Int)).2) (3 : Int)).1)))).1)))))))) ∧ (s_l10Queue_A2 K (w64 (n - (1 : Int))) (((e_vec ((e_below ((e_below (c0, c1, c2) (5 : Int)).2) (3 : Int)).2) (w64 ((1 : Int) + ((e_below ((e_below (c0, c1, c2) (5 : Int)).2) (3 : Int)).1)))).2).1) (((e_vec ((e_below ((e_below (c0, c1, c2) (5 : Int)).2) (3 : Int)).2) (w64 ((1 : Int) + ((e_below ((e_below (c0, c1, c2) (5 : Int)).2) (3 : Int)).1)))).2).2.1) (((e_vec ((e_below ((e_below (c0, c1, c2) (5 : Int)).2) (3 : Int)).2) (w64 ((1 : Int) + ((e_below ((e_below (c0, c1, c2) (5 : Int)).2) (3 : Int)).1)))).2).2.2) (List.take ((((m_push (q0, (List.take q1.length (List.drop 0 q1))) ((e_below (c0, c1, c2) (5 : Int)).1, (List.take (((e_vec ((e_below ((e_below (c0, c1, c2) (5 : Int)).2) (3 : Int)).2) (w64 ((1 : Int) + ((e_below ((e_below (c0, c1, c2) (5 : Int)).2) (3 : Int)).1)))).1).length) (List.drop 0 ((e_vec ((e_below ((e_below (c0, c1, c2) (5 : Int)).2) (3 : Int)).2) (w64 ((1 : Int) + ((e_below ((e_below (c0, c1, c2) (5 : Int)).2) (3 : Int)).1)))).1))))).1).2).length) (((m_push (q0, (List.take q1.length (List.drop 0 q1))) ((e_below (c0, c1, c2) (5 : Int)).1, (List.take (((e_vec ((e_below ((e_below (c0, c1, c2) (5 : Int)).2) (3 : Int)).2) (w64 ((1 : Int) + ((e_below ((e_below (c0, c1, c2) (5 : Int)).2) (3 : Int)).1)))).1).length) (List.drop 0 ((e_vec ((e_below ((e_below (c0, c1, c2) (5 : Int)).2) (3 : Int)).2) (w64 ((1 : Int) + ((e_below ((e_below (c0, c1, c2) (5 : Int)).2) (3 : Int)).1)))).1))))).1).2)) (((m_push (q0, (List.take q1.length (List.drop 0 q1))) ((e_below (c0, c1, c2) (5 : Int)).1, (List.take (((e_vec ((e_below ((e_below (c0, c1, c2) (5 : Int)).2) (3 : Int)).2) (w64 ((1 : Int) + ((e_below ((e_below (c0, c1, c2) (5 : Int)).2) (3 : Int)).1)))).1).length) (List.drop 0 ((e_vec ((e_below ((e_below (c0, c1, c2) (5 : Int)).2) (3 : Int)).2) (w64 ((1 : Int) + ((e_below ((e_below (c0, c1, c2) (5 : Int)).2) (3 : Int)).1)))).1))))).1).1)))) ∧ ((decide (n > (0 : Int))) = false → ((p_cur2 (c0, c1, c2) (14 : Int)) ∧ (((((e_below (c0, c1, c2) (14 : Int)).1) == (0 : Int)) = true → ((p_pickInt ((e_below (c0, c1, c2) (14 : Int)).2) ([(0 : Int), (5 : Int), (6 : Int)])) ∧ K (s_l10Queue_R (((e_pickInt ((e_below (c0, c1, c2) (14 : Int)).2) ([(0 : Int), (5 : Int), (6 : Int)])).1, (List.take q1.length (List.drop 0 q1))), ((e_pickInt ((e_below (c0, c1, c2) (14 : Int)).2) ([(0 : Int), (5 : Int), (6 : Int)])).2))))) ∧ ((((e_below (c0, c1, c2) (14 : Int)).1) == (0 : Int)) = false → (((((e_below (c0, c1, c2) (14 : Int)).1) == (1 : Int)) = true → (((p_cur2 ((e_below (c0, c1, c2) (14 : Int)).2) (7 : Int)) ∧ ((p_cur ((e_below ((e_below (c0, c1, c2) (14 : Int)).2) (7 : Int)).2)) ∧ ((q1.length = q1.length ∨ q1.length + 1 ≤ q1.length) ∧ q1.length + 1 ≤ big))) ∧ K (s_l10Queue_R ((q0, (List.take (q1.length + 1) (List.drop 0 ((List.take q1.length q1) ++ ([(w64 (((e_below ((e_below (c0, c1, c2) (14 : Int)).2) (7 : Int)).1) - (1 : Int)), (e_any3 ((e_below ((e_below (c0, c1, c2) (14 : Int)).2) (7 : Int)).2)).1)]))))), ((e_any3 ((e_below ((e_below (c0, c1, c2) (14 : Int)).2) (7 : Int)).2)).2))))) ∧ ((((e_below (c0, c1, c2) (14 : Int)).1) == (1 : Int)) = false → K (s_l10Queue_R ((q0, (List.take q1.length (List.drop 0 q1))), ((e_below (c0, c1, c2) (14 : Int)).2))))))))))) : s_l10Queue_A2 K n c0 c1 c2 q1 q0 :=
  Loop.of (by kernel_rfl) h
theorem s_l10Queue_v0 (K : TRes → Prop) (c : ((List Int) × Int × Int)) (h :
  ((p_cur2 c (3 : Int)) ∧ ((p_cur2 ((e_below c (3 : Int)).2) (4 : Int)) ∧ (s_l10Queue_A2 K ((e_below ((e_below c (3 : Int)).2) (4 : Int)).1) (((e_below ((e_below c (3 : Int)).2) (4 : Int)).2).1) (((e_below ((e_below c (3 : Int)).2) (4 : Int)).2).2.1) (((e_below ((e_below c (3 : Int)).2) (4 : Int)).2).2.2) ([] : List TItem) (w64 ((1 : Int) + ((e_below c (3 : Int)).1))))))) : Hold (tawp s_l10Queue_G (1 + 0) s_l10Queue_c (TQ 1 0 s_l10Queue_rs K) (tstart [(.bx [(.c (.sl [(.int .u8)]) c.1), (.c TI c.2.1), (.c TI c.2.2)])])) :=
  Hold.of (by kernel_rfl) h
theorem s_l10Queue_t (c : ((List Int) × Int × Int)) (K : TRes → Prop) (h : Hold (tawp s_l10Queue_G (1 + 0) s_l10Queue_c (TQ 1 0 s_l10Queue_rs K) (tstart [(.bx [(.c (.sl [(.int .u8)]) c.1), (.c TI c.2.1), (.c TI c.2.2)])]))) : ∃ r, K r ∧ TCon Try.prog 115 [(.bx [(.c (.sl [(.int .u8)]) c.1), (.c TI c.2.1), (.c TI c.2.2)])] r :=
  tcon_gen_ex (sg := [(.b [(.sl [(.int .u8)]), TI, TI])]) mixed (TOk.cons s_l1Below_ok (TOk.cons s_l3Vec_ok (TOk.cons s_Push_ok (TOk.cons s_l1PickInt_ok (TOk.cons s_l3Any_ok TOk.nil))))) s_l10Queue_st (by kernel_rfl) (by kernel_rfl) (by kernel_rfl) (by kernel_rfl) h
theorem s_l10Queue_ex (c : ((List Int) × Int × Int)) (hp : p_cur c) : ∃ t : TQueue × (((List Int) × Int × Int)), (q_queue c t) ∧ TCon Try.prog 115 [(.bx [(.c (.sl [(.int .u8)]) c.1), (.c TI c.2.1), (.c TI c.2.2)])] (s_l10Queue_R t) := by
  refine tex_of (s_l10Queue_t c _ (s_l10Queue_v0 (fun r' => ∃ t, (q_queue c t) ∧ r' = s_l10Queue_R t) c ?_))
  have b1 := s_l1Below_post c 3 hp
  have b2 := s_l1Below_post _ 4 b1.2.2.2
  have h1 := b1.1
  have h2 := b1.2.1 (by omega)
  have h3 := b2.1
  have h4 := b2.2.1 (by omega)
  refine ⟨hp, b1.2.2.2, ?_⟩
  have eta3 : ∀ t : TCur, (t.1, t.2.1, t.2.2) = t := fun _ => rfl
  have key : ∀ (k : Nat) (t : TCur) (q1 : List TItem) (q0 : Int), p_cur t → q1.length + k ≤ 3 → q0 ≤ 6 → (∀ x, x ∈ q1 → x.2.length ≤ 7) → s_l10Queue_A2 (fun r' => ∃ t, (q_queue c t) ∧ r' = s_l10Queue_R t) (k : Int) t.1 t.2.1 t.2.2 q1 q0 := by
    intro k
    induction k with
    | zero =>
      intro t q1 q0 hc k1 k2 k3
      have b := (s_l1Below_post t 14 hc).2.2.2
      refine s_l10Queue_v2 (fun r' => ∃ t, (q_queue c t) ∧ r' = s_l10Queue_R t) _ _ _ _ _ _ ⟨fun h => by simp at h, fun _ => ⟨hc, ?_⟩⟩
      simp only [eta3, List.drop_zero, take_app1]
      simp only [List.take_length]
      have hpk : p_pickInt (e_below t 14).2 [0, 5, 6] := ⟨b, by simp, by simp⟩
      have b4 := s_l1PickInt_post _ _ hpk
      have b5 := b4.1
      simp only [List.mem_cons, List.not_mem_nil, or_false] at b5
      have b6 := (s_l1Below_post (e_below t 14).2 7 b).2.2.2
      have b7 := s_l3Any_post _ b6
      refine ⟨fun _ => ⟨hpk, leafP ⟨⟨by simp only; omega, by simp only; omega, k3⟩, b4.2⟩⟩, fun _ => ⟨fun _ => ⟨⟨b, b6, by simp [big_eq]; omega⟩, leafP ⟨⟨?_, k2, ?_⟩, b7.2⟩⟩, fun _ => leafP ⟨⟨by simp only; omega, k2, k3⟩, b⟩⟩⟩
      · simp; omega
      · intro y hy
        rcases List.mem_append.1 hy with hy | hy
        · exact k3 y hy
        · rw [List.mem_singleton.1 hy]; exact b7.1
    | succ k ih =>
      intro t q1 q0 hc k1 k2 k3
      have b := (s_l1Below_post t 5 hc).2.2.2
      have b3 := s_l1Below_post _ 3 b
      have h5 := b3.1
      have h6 := b3.2.1 (by omega)
      have hv : p_vec (e_below (e_below t 5).2 3).2 (w64 (1 + (e_below (e_below t 5).2 3).1)) := ⟨b3.2.2.2, by rw [w64_ok (by omega) (by omega)]; omega⟩
      have b4 := s_l3Vec_post _ _ hv
      have h7' : ∀ n : Nat, n = (w64 (1 + (e_below (e_below t 5).2 3).1)).toNat → n ≤ 3 := by
        intro n hn
        rw [hn, w64_ok (by omega) (by omega)]; omega
      have h7 := h7' _ b4.1
      refine s_l10Queue_v2 (fun r' => ∃ t, (q_queue c t) ∧ r' = s_l10Queue_R t) _ _ _ _ _ _ ⟨fun _ => ?_, fun h => by simp at h <;> omega⟩
      simp only [eta3, take_d0]
      have h8 := push_items (q := (q0, q1)) (x := ((e_below t 5).1, (e_vec (e_below (e_below t 5).2 3).2 (w64 (1 + (e_below (e_below t 5).2 3).1))).1)) (n := q1.length) (Nat.le_refl _) k3 (by simp only; omega)
      refine ⟨⟨hc, b, hv, ?_⟩, ?_⟩
      · have h9 := items_sz k3
        have h10 := sz_ints (e_vec (e_below (e_below t 5).2 3).2 (w64 (1 + (e_below (e_below t 5).2 3).1))).1
        unfold p_lim2
        simp only [sz_pair, sz_int]
        omega
      · rw [List.take_length, w64_ok (x := ((k + 1 : Nat) : Int) - 1) (by omega) (by omega), show ((k + 1 : Nat) : Int) - 1 = k by omega]
        exact ih _ _ _ b4.2.2 (by have := h8.1; omega) (by rw [h8.2.1]; exact k2) h8.2.2
  have h := key (e_below (e_below c 3).2 4).1.toNat (e_below (e_below c 3).2 4).2 [] (w64 (1 + (e_below c 3).1)) b2.2.2.2 (by simp; omega) (by rw [w64_ok (by omega) (by omega)]; omega) (by simp)
  rw [Int.toNat_of_nonneg (by omega)] at h
  exact h
theorem s_l10Queue_post (c : ((List Int) × Int × Int)) (hp : p_cur c) : q_queue c (e_queue c) := (Classical.epsilon_spec (s_l10Queue_ex c hp)).1
theorem s_l10Queue_h : s_l10Queue_C := by
  intro c hp
  exact (Classical.epsilon_spec (s_l10Queue_ex c hp)).2

theorem s_l10Queue_ok : TRowOk Try.prog s_l10Queue_row := rowOk fun x h => s_l10Queue_h x.1 h

def s_DrawPush_R (t : TQueue × TItem) : TRes := ⟨(.tp [(.a [(.c TI t.1.1), (.c (.sl ctItem) t.1.2)]), (.a [(.c TI t.2.1), (.c (.sl [TI]) t.2.2)])]), [], [], true, []⟩
def e_drawPush (x0 : List Int) : TQueue × TItem := Classical.epsilon fun t : TQueue × TItem => (q_drawPush x0 t) ∧ TCon Try.prog 27 [(.c (.sl [(.int .u8)]) x0)] (s_DrawPush_R t)
def s_DrawPush_row : TRow := mkRow 27 [(.c (.sl [(.int .u8)]))] fun x => (some (p_new x.1), s_DrawPush_R (e_drawPush x.1))
def s_DrawPush_C : Prop := ∀ (x0 : List Int), (p_new x0) → TCon Try.prog 27 [(.c (.sl [(.int .u8)]) x0)] (s_DrawPush_R (e_drawPush x0))

/-! spec.DrawPush -/
def s_DrawPush_G : List TRow := [s_l1New_row, s_l10Queue_row, s_l1Below_row, s_l3Any_row]
def s_DrawPush_c : TCode :=
  (.seq (.reg [.op (some 2) (.new 36 [(.c TI (0 : Int)), (.n ctItem)]),
    .op (some 3) (.new 39 [(.c TI (0 : Int)), (.n [TI])])])
 (.seq (.reg [.op (some 6) (.mov (.s 0)),
     .op (some 7) (.call 114 [(.s 6)]),
     .op (some 4) (.mov (.s 7))])
  (.seq (.reg [.op (some 8) (.mov (.s 4)),
      .op (some 9) (.call 115 [(.s 8)]),
      .op (some 5) (.new 36 [(.c TI (0 : Int)), (.n ctItem)]),
      .op none (.store (.s 5) (.s 9) 2)])
   (.seq (.draw [.op (some 10) (.load (.s 5) 2 true),
       .op (some 11) (.mov (.s 4)),
       .op (some 12) (.call 116 [(.s 11), (.k (.c TI (7 : Int)))]),
       .op (some 13) (.bin .sub (.s 12) (.k (.c TI (1 : Int)))),
       .op (some 14) (.mov (.s 4)),
       .op (some 15) (.call 117 [(.s 14)]),
       .op (some 16) (.build [(.c TI (0 : Int)), (.n [TI])] [(0, 1, (.s 13)), (1, 1, (.s 15))]),
       .op none (.store (.s 2) (.s 10) 2),
       .op none (.store (.s 3) (.s 16) 2)] [(0, 2), (0, 5)])
    .ret))))
def s_DrawPush_rs : List (ARv × Md) := [(.l 2 2 true, .b [.d, .d]), (.l 3 2 true, .b [.d, .d])]
theorem s_DrawPush_st : compF Try.prog 27 = some (s_DrawPush_c.er, s_DrawPush_rs.map Prod.fst, 17) := by kernel_rfl
def s_DrawPush_Q (K : TRes → Prop) : TPost := TQ 0 0 s_DrawPush_rs K
theorem s_DrawPush_v0 (K : TRes → Prop) (code : List Int) (h :
  ((p_new code) ∧ ((p_cur (e_new code)) ∧ (((p_cur2 ((e_queue (e_new code)).2) (7 : Int)) ∧ (p_cur ((e_below ((e_queue (e_new code)).2) (7 : Int)).2))) ∧ K (s_DrawPush_R (((e_queue (e_new code)).1), (w64 (((e_below ((e_queue (e_new code)).2) (7 : Int)).1) - (1 : Int)), (e_any3 ((e_below ((e_queue (e_new code)).2) (7 : Int)).2)).1))))))) : Hold (tawp s_DrawPush_G (0 + 0) s_DrawPush_c (TQ 0 0 s_DrawPush_rs K) (tstart [(.c (.sl [(.int .u8)]) code)])) :=
  Hold.of (by kernel_rfl) h
theorem s_DrawPush_t (code : List Int) (K : TRes → Prop) (h : Hold (tawp s_DrawPush_G (0 + 0) s_DrawPush_c (TQ 0 0 s_DrawPush_rs K) (tstart [(.c (.sl [(.int .u8)]) code)]))) : ∃ r, K r ∧ TCon Try.prog 27 [(.c (.sl [(.int .u8)]) code)] r :=
  tcon_gen_ex (sg := [(.c (.sl [(.int .u8)]))]) mixed (TOk.cons s_l1New_ok (TOk.cons s_l10Queue_ok (TOk.cons s_l1Below_ok (TOk.cons s_l3Any_ok TOk.nil)))) s_DrawPush_st (by kernel_rfl) (by kernel_rfl) (by kernel_rfl) (by kernel_rfl) h
theorem s_DrawPush_ex (code : List Int) (hp : p_new code) : ∃ t : TQueue × TItem, (q_drawPush code t) ∧ TCon Try.prog 27 [(.c (.sl [(.int .u8)]) code)] (s_DrawPush_R t) := by
  refine tex_of (s_DrawPush_t code _ (s_DrawPush_v0 (fun r' => ∃ t, (q_drawPush code t) ∧ r' = s_DrawPush_R t) code ?_))
  have hc := s_l1New_post code hp
  have b1 := s_l10Queue_post _ hc
  have b2 := (s_l1Below_post (e_queue (e_new code)).2 7 b1.2).2.2.2
  exact ⟨hp, hc, ⟨b1.2, b2⟩, leafP ⟨b1.1, (s_l3Any_post _ b2).1⟩⟩
theorem s_DrawPush_post (code : List Int) (hp : p_new code) : q_drawPush code (e_drawPush code) := (Classical.epsilon_spec (s_DrawPush_ex code hp)).1
theorem s_DrawPush_h : s_DrawPush_C := by
  intro code hp
  exact (Classical.epsilon_spec (s_DrawPush_ex code hp)).2

theorem s_DrawPush_ok : TRowOk Try.prog s_DrawPush_row := rowOk fun x h => s_DrawPush_h x.1 h

end
end Go.Proofs.Ytephkbajoofeoaa.Am
