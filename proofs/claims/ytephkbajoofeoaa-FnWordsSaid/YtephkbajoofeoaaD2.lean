/-
  Written by program: the code of functions, what it asks, and that it comes to what the models say.
-/
import Derived.Test.YtephkbajoofeoaaD1
import Derived.Test.YtephkbajoofeoaaP4
namespace Go.Proofs.Ytephkbajoofeoaa.Am
open Go Go.RowKit Go.Proofs.Ytephkbajoofeoaa
set_option linter.unusedVariables false
set_option linter.unusedSimpArgs false
set_option maxHeartbeats 2000000
noncomputable section

def s_l2Fix_R (t : Int × (((List Int) × Int × Int))) : TRes := ⟨(.c TI t.1), [], [[(.c (.sl [(.int .u8)]) t.2.1), (.c TI t.2.2.1), (.c TI t.2.2.2)]], true, []⟩
def e_fix (x0 : ((List Int) × Int × Int)) : Int × (((List Int) × Int × Int)) := Classical.epsilon fun t : Int × (((List Int) × Int × Int)) => (q_fix x0 t) ∧ TCon Try.prog 204 [(.bx [(.c (.sl [(.int .u8)]) x0.1), (.c TI x0.2.1), (.c TI x0.2.2)])] (s_l2Fix_R t)
def s_l2Fix_row : TRow := mkRow 204 [(.b [(.sl [(.int .u8)]), TI, TI])] fun x => (some (p_cur x.1), s_l2Fix_R (e_fix x.1))
def s_l2Fix_C : Prop := ∀ (x0 : ((List Int) × Int × Int)), (p_cur x0) → TCon Try.prog 204 [(.bx [(.c (.sl [(.int .u8)]) x0.1), (.c TI x0.2.1), (.c TI x0.2.2)])] (s_l2Fix_R (e_fix x0))

/-! spec.l2Fix -/
def s_l2Fix_G : List TRow := [s_l1Below_row, s_l1PickInt_row]
def s_l2Fix_c : TCode :=
  (.seq (.reg [.op (some 2) (.mov (.k (.c TI (0 : Int))))])
 (.seq (.seq (.reg [.op (some 3) (.mov (.s 0)),
      .op (some 4) (.call 116 [(.s 3), (.k (.c TI (12 : Int)))])])
   (.block 0 (.seq (.reg [.op (some 6) (.bin .eql (.s 4) (.k (.c TI (0 : Int)))),
        .op (some 5) (.mov (.s 6))])
     (.cond (.s 5) (.seq (.reg [.op (some 7) (.mov (.s 0)),
          .op (some 8) (.bsl 3 [TI] [(.k (.c TI (2147483647 : Int))), (.k (.c TI (-2147483647 : Int))), (.k (.c TI (2147483646 : Int))), (.k (.c TI (1 : Int))), (.k (.c TI (-1 : Int))), (.k (.c TI (0 : Int)))]),
          .op (some 9) (.call 182 [(.s 7), (.s 8)]),
          .op (some 2) (.mov (.s 9))])
       .ret) (.seq (.reg [.op (some 11) (.bin .eql (.s 4) (.k (.c TI (1 : Int)))),
          .op (some 10) (.mov (.s 11))])
       (.cond (.s 10) (.seq (.reg [.op (some 12) (.mov (.s 0)),
            .op (some 13) (.call 116 [(.s 12), (.k (.c TI (4000 : Int)))]),
            .op (some 14) (.bin .sub (.s 13) (.k (.c TI (2000 : Int)))),
            .op (some 15) (.bin .mul (.s 14) (.k (.c TI (997 : Int)))),
            .op (some 2) (.mov (.s 15))])
         .ret) (.seq (.reg [.op (some 17) (.bin .eql (.s 4) (.k (.c TI (2 : Int)))),
            .op (some 16) (.mov (.s 17))])
         (.cond (.s 16) (.seq (.reg [.op (some 18) (.mov (.s 0)),
              .op (some 19) (.call 116 [(.s 18), (.k (.c TI (9 : Int)))]),
              .op (some 20) (.bin .sub (.s 19) (.k (.c TI (4 : Int)))),
              .op (some 2) (.mov (.s 20))])
           .ret) .skip))))))))
  (.seq (.reg [.op (some 21) (.mov (.s 0)),
      .op (some 22) (.call 116 [(.s 21), (.k (.c TI (17 : Int)))]),
      .op (some 23) (.bin .sub (.s 22) (.k (.c TI (8 : Int)))),
      .op (some 24) (.bin .mul (.s 23) (.k (.c TI (65536 : Int)))),
      .op (some 25) (.mov (.s 0)),
      .op (some 26) (.bsl 3 [TI] [(.k (.c TI (1 : Int))), (.k (.c TI (1 : Int))), (.k (.c TI (2 : Int))), (.k (.c TI (4 : Int))), (.k (.c TI (3 : Int)))]),
      .op (some 27) (.call 182 [(.s 25), (.s 26)]),
      .op (some 28) (.bin .quo (.s 24) (.s 27)),
      .op (some 2) (.mov (.s 28))])
   .ret)))
def s_l2Fix_rs : List (ARv × Md) := [(.t 2, .one .d)]
theorem s_l2Fix_st : compF Try.prog 204 = some (s_l2Fix_c.er, s_l2Fix_rs.map Prod.fst, 29) := by kernel_rfl
def s_l2Fix_Q (K : TRes → Prop) : TPost := TQ 1 0 s_l2Fix_rs K
theorem s_l2Fix_v0 (K : TRes → Prop) (c : ((List Int) × Int × Int)) (h :
  ((p_cur2 c (12 : Int)) ∧ (((((e_below c (12 : Int)).1) == (0 : Int)) = true → ((p_pickInt ((e_below c (12 : Int)).2) ([(2147483647 : Int), (-2147483647 : Int), (2147483646 : Int), (1 : Int), (-1 : Int), (0 : Int)])) ∧ K (s_l2Fix_R ((e_pickInt ((e_below c (12 : Int)).2) ([(2147483647 : Int), (-2147483647 : Int), (2147483646 : Int), (1 : Int), (-1 : Int), (0 : Int)])).1, ((e_pickInt ((e_below c (12 : Int)).2) ([(2147483647 : Int), (-2147483647 : Int), (2147483646 : Int), (1 : Int), (-1 : Int), (0 : Int)])).2))))) ∧ ((((e_below c (12 : Int)).1) == (0 : Int)) = false → (((((e_below c (12 : Int)).1) == (1 : Int)) = true → ((p_cur2 ((e_below c (12 : Int)).2) (4000 : Int)) ∧ K (s_l2Fix_R (w64 ((w64 (((e_below ((e_below c (12 : Int)).2) (4000 : Int)).1) - (2000 : Int))) * (997 : Int)), ((e_below ((e_below c (12 : Int)).2) (4000 : Int)).2))))) ∧ ((((e_below c (12 : Int)).1) == (1 : Int)) = false → (((((e_below c (12 : Int)).1) == (2 : Int)) = true → ((p_cur2 ((e_below c (12 : Int)).2) (9 : Int)) ∧ K (s_l2Fix_R (w64 (((e_below ((e_below c (12 : Int)).2) (9 : Int)).1) - (4 : Int)), ((e_below ((e_below c (12 : Int)).2) (9 : Int)).2))))) ∧ ((((e_below c (12 : Int)).1) == (2 : Int)) = false → (((p_cur2 ((e_below c (12 : Int)).2) (17 : Int)) ∧ ((p_pickInt ((e_below ((e_below c (12 : Int)).2) (17 : Int)).2) ([(1 : Int), (1 : Int), (2 : Int), (4 : Int), (3 : Int)])) ∧ (¬ ((e_pickInt ((e_below ((e_below c (12 : Int)).2) (17 : Int)).2) ([(1 : Int), (1 : Int), (2 : Int), (4 : Int), (3 : Int)])).1 : Int) = 0))) ∧ K (s_l2Fix_R (w64 (Int.tdiv (w64 ((w64 (((e_below ((e_below c (12 : Int)).2) (17 : Int)).1) - (8 : Int))) * (65536 : Int))) ((e_pickInt ((e_below ((e_below c (12 : Int)).2) (17 : Int)).2) ([(1 : Int), (1 : Int), (2 : Int), (4 : Int), (3 : Int)])).1)), ((e_pickInt ((e_below ((e_below c (12 : Int)).2) (17 : Int)).2) ([(1 : Int), (1 : Int), (2 : Int), (4 : Int), (3 : Int)])).2)))))))))))) : Hold (tawp s_l2Fix_G (1 + 0) s_l2Fix_c (TQ 1 0 s_l2Fix_rs K) (tstart [(.bx [(.c (.sl [(.int .u8)]) c.1), (.c TI c.2.1), (.c TI c.2.2)])])) :=
  Hold.of (by kernel_rfl) h
theorem s_l2Fix_t (c : ((List Int) × Int × Int)) (K : TRes → Prop) (h : Hold (tawp s_l2Fix_G (1 + 0) s_l2Fix_c (TQ 1 0 s_l2Fix_rs K) (tstart [(.bx [(.c (.sl [(.int .u8)]) c.1), (.c TI c.2.1), (.c TI c.2.2)])]))) : ∃ r, K r ∧ TCon Try.prog 204 [(.bx [(.c (.sl [(.int .u8)]) c.1), (.c TI c.2.1), (.c TI c.2.2)])] r :=
  tcon_gen_ex (sg := [(.b [(.sl [(.int .u8)]), TI, TI])]) mixed (TOk.cons s_l1Below_ok (TOk.cons s_l1PickInt_ok TOk.nil)) s_l2Fix_st (by kernel_rfl) (by kernel_rfl) (by kernel_rfl) (by kernel_rfl) h
theorem s_l2Fix_ex (c : ((List Int) × Int × Int)) (hp : p_cur c) : ∃ t : Int × (((List Int) × Int × Int)), (q_fix c t) ∧ TCon Try.prog 204 [(.bx [(.c (.sl [(.int .u8)]) c.1), (.c TI c.2.1), (.c TI c.2.2)])] (s_l2Fix_R t) := by
  refine tex_of (s_l2Fix_t c _ (s_l2Fix_v0 (fun r' => ∃ t, (q_fix c t) ∧ r' = s_l2Fix_R t) c ?_))
  have b1 := s_l1Below_post c 12 hp
  generalize e_below c 12 = r at b1 ⊢
  have hc : p_cur r.2 := b1.2.2.2
  refine ⟨hp, fun _ => ?_, fun _ => ⟨fun _ => ?_, fun _ => ⟨fun _ => ?_, fun _ => ?_⟩⟩⟩
  · have hpp : p_pickInt r.2 [2147483647, -2147483647, 2147483646, 1, -1, 0] := ⟨hc, by simp, by simp⟩
    have b2 := s_l1PickInt_post _ _ hpp
    refine ⟨hpp, leafP ⟨?_, b2.2⟩⟩
    have b3 := b2.1
    simp only [List.mem_cons, List.not_mem_nil, or_false] at b3
    simp only [m_fixOk, Bool.and_eq_true, decide_eq_true_eq]
    omega
  · have b2 := s_l1Below_post r.2 4000 hc
    refine ⟨hc, leafP ⟨?_, b2.2.2.2⟩⟩
    have h1 := b2.1
    have h2 := b2.2.1 (by omega)
    rw [w64_ok (x := _ - 2000) (by omega) (by omega), w64_ok (by omega) (by omega)]
    simp only [m_fixOk, Bool.and_eq_true, decide_eq_true_eq]
    omega
  · have b2 := s_l1Below_post r.2 9 hc
    refine ⟨hc, leafP ⟨?_, b2.2.2.2⟩⟩
    have h1 := b2.1
    have h2 := b2.2.1 (by omega)
    rw [w64_ok (by omega) (by omega)]
    simp only [m_fixOk, Bool.and_eq_true, decide_eq_true_eq]
    omega
  · have b2 := s_l1Below_post r.2 17 hc
    have hpp : p_pickInt (e_below r.2 17).2 [1, 1, 2, 4, 3] := ⟨b2.2.2.2, by simp, by simp⟩
    have b3 := s_l1PickInt_post _ _ hpp
    have b4 := b3.1
    simp only [List.mem_cons, List.not_mem_nil, or_false] at b4
    have h1 := b2.1
    have h2 := b2.2.1 (by omega)
    refine ⟨⟨hc, hpp, by omega⟩, leafP ⟨?_, b3.2⟩⟩
    have h3 := tdiv_rng (a := ((e_below r.2 17).1 - 8) * 65536) (b := (e_pickInt (e_below r.2 17).2 [1, 1, 2, 4, 3]).1) (B := 1000000) (by omega) (by omega) (by omega)
    rw [w64_ok (x := _ - 8) (by omega) (by omega), w64_ok (x := _ * 65536) (by omega) (by omega), w64_ok (by omega) (by omega)]
    simp only [m_fixOk, Bool.and_eq_true, decide_eq_true_eq]
    omega
theorem s_l2Fix_post (c : ((List Int) × Int × Int)) (hp : p_cur c) : q_fix c (e_fix c) := (Classical.epsilon_spec (s_l2Fix_ex c hp)).1
theorem s_l2Fix_h : s_l2Fix_C := by
  intro c hp
  exact (Classical.epsilon_spec (s_l2Fix_ex c hp)).2

theorem s_l2Fix_ok : TRowOk Try.prog s_l2Fix_row := rowOk fun x h => s_l2Fix_h x.1 h

def s_l2Raw_R (t : Int × (((List Int) × Int × Int))) : TRes := ⟨(.c TI t.1), [], [[(.c (.sl [(.int .u8)]) t.2.1), (.c TI t.2.2.1), (.c TI t.2.2.2)]], true, []⟩
def e_raw (x0 : ((List Int) × Int × Int)) : Int × (((List Int) × Int × Int)) := Classical.epsilon fun t : Int × (((List Int) × Int × Int)) => (q_raw x0 t) ∧ TCon Try.prog 184 [(.bx [(.c (.sl [(.int .u8)]) x0.1), (.c TI x0.2.1), (.c TI x0.2.2)])] (s_l2Raw_R t)
def s_l2Raw_row : TRow := mkRow 184 [(.b [(.sl [(.int .u8)]), TI, TI])] fun x => (some (p_cur x.1), s_l2Raw_R (e_raw x.1))
def s_l2Raw_C : Prop := ∀ (x0 : ((List Int) × Int × Int)), (p_cur x0) → TCon Try.prog 184 [(.bx [(.c (.sl [(.int .u8)]) x0.1), (.c TI x0.2.1), (.c TI x0.2.2)])] (s_l2Raw_R (e_raw x0))

/-! spec.l2Raw -/
def s_l2Raw_G : List TRow := [s_l1Once_row, s_l1PickInt_row, s_l2Fix_row]
def s_l2Raw_c : TCode :=
  (.seq (.reg [.op (some 2) (.mov (.k (.c TI (0 : Int))))])
 (.seq (.seq (.reg [.op (some 3) (.mov (.s 0)),
      .op (some 4) (.call 136 [(.s 3), (.k (.c TI (8 : Int)))])])
   (.cond (.s 4) (.seq (.reg [.op (some 5) (.mov (.s 0)),
        .op (some 6) (.bsl 3 [TI] [(.k (.c TI (2147483648 : Int))), (.k (.c TI (-2147483648 : Int))), (.k (.c TI (9223372036854775807 : Int))), (.k (.c TI (-9223372036854775807 : Int)))]),
        .op (some 7) (.call 182 [(.s 5), (.s 6)]),
        .op (some 2) (.mov (.s 7))])
     .ret) .skip))
  (.seq (.reg [.op (some 8) (.mov (.s 0)),
      .op (some 9) (.call 204 [(.s 8)]),
      .op (some 2) (.mov (.s 9))])
   .ret)))
def s_l2Raw_rs : List (ARv × Md) := [(.t 2, .one .d)]
theorem s_l2Raw_st : compF Try.prog 184 = some (s_l2Raw_c.er, s_l2Raw_rs.map Prod.fst, 10) := by kernel_rfl
def s_l2Raw_Q (K : TRes → Prop) : TPost := TQ 1 0 s_l2Raw_rs K
theorem s_l2Raw_v0 (K : TRes → Prop) (c : ((List Int) × Int × Int)) (h :
  ((p_cur2 c (8 : Int)) ∧ (((e_once c (8 : Int)).1 = true → ((p_pickInt ((e_once c (8 : Int)).2) ([(2147483648 : Int), (-2147483648 : Int), (9223372036854775807 : Int), (-9223372036854775807 : Int)])) ∧ K (s_l2Raw_R ((e_pickInt ((e_once c (8 : Int)).2) ([(2147483648 : Int), (-2147483648 : Int), (9223372036854775807 : Int), (-9223372036854775807 : Int)])).1, ((e_pickInt ((e_once c (8 : Int)).2) ([(2147483648 : Int), (-2147483648 : Int), (9223372036854775807 : Int), (-9223372036854775807 : Int)])).2))))) ∧ ((e_once c (8 : Int)).1 = false → ((p_cur ((e_once c (8 : Int)).2)) ∧ K (s_l2Raw_R ((e_fix ((e_once c (8 : Int)).2)).1, ((e_fix ((e_once c (8 : Int)).2)).2)))))))) : Hold (tawp s_l2Raw_G (1 + 0) s_l2Raw_c (TQ 1 0 s_l2Raw_rs K) (tstart [(.bx [(.c (.sl [(.int .u8)]) c.1), (.c TI c.2.1), (.c TI c.2.2)])])) :=
  Hold.of (by kernel_rfl) h
theorem s_l2Raw_t (c : ((List Int) × Int × Int)) (K : TRes → Prop) (h : Hold (tawp s_l2Raw_G (1 + 0) s_l2Raw_c (TQ 1 0 s_l2Raw_rs K) (tstart [(.bx [(.c (.sl [(.int .u8)]) c.1), (.c TI c.2.1), (.c TI c.2.2)])]))) : ∃ r, K r ∧ TCon Try.prog 184 [(.bx [(.c (.sl [(.int .u8)]) c.1), (.c TI c.2.1), (.c TI c.2.2)])] r :=
  tcon_gen_ex (sg := [(.b [(.sl [(.int .u8)]), TI, TI])]) mixed (TOk.cons s_l1Once_ok (TOk.cons s_l1PickInt_ok (TOk.cons s_l2Fix_ok TOk.nil))) s_l2Raw_st (by kernel_rfl) (by kernel_rfl) (by kernel_rfl) (by kernel_rfl) h
theorem s_l2Raw_ex (c : ((List Int) × Int × Int)) (hp : p_cur c) : ∃ t : Int × (((List Int) × Int × Int)), (q_raw c t) ∧ TCon Try.prog 184 [(.bx [(.c (.sl [(.int .u8)]) c.1), (.c TI c.2.1), (.c TI c.2.2)])] (s_l2Raw_R t) := by
  refine tex_of (s_l2Raw_t c _ (s_l2Raw_v0 (fun r' => ∃ t, (q_raw c t) ∧ r' = s_l2Raw_R t) c ?_))
  have b1 := s_l1Once_post c 8 hp
  generalize e_once c 8 = r at b1 ⊢
  have hpp : p_pickInt r.2 [2147483648, -2147483648, 9223372036854775807, -9223372036854775807] := ⟨b1, by simp, by simp⟩
  exact ⟨hp, fun _ => ⟨hpp, leafP ((s_l1PickInt_post _ _ hpp).2)⟩, fun _ => ⟨b1, leafP ((s_l2Fix_post _ b1).2)⟩⟩
theorem s_l2Raw_post (c : ((List Int) × Int × Int)) (hp : p_cur c) : q_raw c (e_raw c) := (Classical.epsilon_spec (s_l2Raw_ex c hp)).1
theorem s_l2Raw_h : s_l2Raw_C := by
  intro c hp
  exact (Classical.epsilon_spec (s_l2Raw_ex c hp)).2

theorem s_l2Raw_ok : TRowOk Try.prog s_l2Raw_row := rowOk fun x h => s_l2Raw_h x.1 h

def s_l3Vec_R (t : (List Int) × (((List Int) × Int × Int))) : TRes := ⟨(.r [TI] 0 0 ((t.1).length)), [(.sl 3 [TI] true t.1)], [[(.c (.sl [(.int .u8)]) t.2.1), (.c TI t.2.2.1), (.c TI t.2.2.2)]], true, []⟩
def e_vec (x0 : ((List Int) × Int × Int)) (x1 : Int) : (List Int) × (((List Int) × Int × Int)) := Classical.epsilon fun t : (List Int) × (((List Int) × Int × Int)) => (q_vec x0 x1 t) ∧ TCon Try.prog 181 [(.bx [(.c (.sl [(.int .u8)]) x0.1), (.c TI x0.2.1), (.c TI x0.2.2)]), (.c TI x1)] (s_l3Vec_R t)
def s_l3Vec_row : TRow := mkRow 181 [(.b [(.sl [(.int .u8)]), TI, TI]), (.c TI)] fun x => (some (p_vec x.1 x.2.1), s_l3Vec_R (e_vec x.1 x.2.1))
def s_l3Vec_C : Prop := ∀ (x0 : ((List Int) × Int × Int)) (x1 : Int), (p_vec x0 x1) → TCon Try.prog 181 [(.bx [(.c (.sl [(.int .u8)]) x0.1), (.c TI x0.2.1), (.c TI x0.2.2)]), (.c TI x1)] (s_l3Vec_R (e_vec x0 x1))

/-! spec.l3Vec -/
def s_l3Vec_G : List TRow := [s_l2Fix_row]
def s_l3Vec_b2 : TCode :=
  (.seq (.seq (.reg [.op (some 8) (.mov (.s 6)),
     .op (some 9) (.mov (.s 1)),
     .op (some 10) (.bin .lss (.s 8) (.s 9))])
  (.cond (.s 10) .skip (.exit 0)))
 (.seq (.block 1 (.reg [.op (some 13) (.mov (.s 5)),
      .op (some 14) (.mov (.s 0)),
      .op (some 15) (.call 204 [(.s 14)]),
      .op (some 16) (.bsl 3 [TI] [(.s 15)]),
      .op (some 17) (.app (.s 13) (.s 16) 3 [TI]),
      .op (some 5) (.mov (.s 17))]))
  (.reg [.op (some 11) (.mov (.s 6)),
     .op (some 12) (.bin .add (.s 11) (.k (.c TI (1 : Int)))),
     .op (some 6) (.mov (.s 12))])))
def s_l3Vec_L2 : List (Nat × Md) := [(0, .b [.d, .d, .d]), (1, .one .d), (5, .one .f), (6, .one .d)]
def s_l3Vec_y1 : TCode :=
  (.seq (.reg [.op (some 18) (.mov (.s 5)),
    .op (some 4) (.mov (.s 18))])
 .ret)
def s_l3Vec_c : TCode :=
  (.seq (.reg [.op (some 4) (.mov (.k (.n [TI])))])
 (.seq (.reg [.op (some 7) (.bsl 3 [TI] []),
     .op (some 5) (.mov (.s 7))])
  (.seq (.seq (.reg [.op (some 6) (.mov (.k (.c TI (0 : Int))))])
    (.block 0 (.loop s_l3Vec_L2 s_l3Vec_b2)))
   s_l3Vec_y1)))
def s_l3Vec_rs : List (ARv × Md) := [(.t 4, .one (.o 3))]
theorem s_l3Vec_st : compF Try.prog 181 = some (s_l3Vec_c.er, s_l3Vec_rs.map Prod.fst, 19) := by kernel_rfl
def s_l3Vec_Q (K : TRes → Prop) : TPost := TQ 1 0 s_l3Vec_rs K
def s_l3Vec_q1 (K : TRes → Prop) : TPost := Qseq (tawp s_l3Vec_G 1 s_l3Vec_y1 (s_l3Vec_Q K)) (s_l3Vec_Q K)
def s_l3Vec_q2 (K : TRes → Prop) : TPost := Qblk 0 (s_l3Vec_q1 K)
def s_l3Vec_A2 (K : TRes → Prop) (n : Int) (i : Int) (c0 : List Int) (c1 : Int) (c2 : Int) (out : List Int) : Prop := Loop s_l3Vec_G 1 s_l3Vec_L2 s_l3Vec_b2 (s_l3Vec_q2 K) ⟨[(0, (.p 0 0 0)), (1, (.c TI n)), (5, (.r [TI] 1 0 out.length)), (6, (.c TI i))], [(0, (.box [(.c (.sl [(.int .u8)]) c0), (.c TI c1), (.c TI c2)])), (1, (.sl 3 [TI] true out))], 2⟩
theorem s_l3Vec_v2 (K : TRes → Prop) (n : Int) (i : Int) (c0 : List Int) (c1 : Int) (c2 : Int) (out : List Int) (h :
  (((decide (i < n)) = true → (((p_cur (c0, c1, c2)) ∧ ((out.length = out.length ∨ out.length + 1 ≤ out.length) ∧ out.length + 1 ≤ big)) ∧ (s_l3Vec_A2 K n (w64 (i + (1 : Int))) (((e_fix (c0, c1, c2)).2).1) (((e_fix (c0, c1, c2)).2).2.1) (((e_fix (c0, c1, c2)).2).2.2) (List.take (out.length + 1) ((List.take out.length out) ++ ([(e_fix (c0, c1, c2)).1])))))) ∧ ((decide (i < n)) = false → K (s_l3Vec_R ((List.take out.length out), (c0, c1, c2)))))) : s_l3Vec_A2 K n i c0 c1 c2 out :=
  Loop.of (by kernel_rfl) h
theorem s_l3Vec_v0 (K : TRes → Prop) (c : ((List Int) × Int × Int)) (n : Int) (h :
  (s_l3Vec_A2 K n (0 : Int) c.1 c.2.1 c.2.2 ([] : List Int))) : Hold (tawp s_l3Vec_G (1 + 0) s_l3Vec_c (TQ 1 0 s_l3Vec_rs K) (tstart [(.bx [(.c (.sl [(.int .u8)]) c.1), (.c TI c.2.1), (.c TI c.2.2)]), (.c TI n)])) :=
  Hold.of (by kernel_rfl) h
theorem s_l3Vec_t (c : ((List Int) × Int × Int)) (n : Int) (K : TRes → Prop) (h : Hold (tawp s_l3Vec_G (1 + 0) s_l3Vec_c (TQ 1 0 s_l3Vec_rs K) (tstart [(.bx [(.c (.sl [(.int .u8)]) c.1), (.c TI c.2.1), (.c TI c.2.2)]), (.c TI n)]))) : ∃ r, K r ∧ TCon Try.prog 181 [(.bx [(.c (.sl [(.int .u8)]) c.1), (.c TI c.2.1), (.c TI c.2.2)]), (.c TI n)] r :=
  tcon_gen_ex (sg := [(.b [(.sl [(.int .u8)]), TI, TI]), (.c TI)]) mixed (TOk.cons s_l2Fix_ok TOk.nil) s_l3Vec_st (by kernel_rfl) (by kernel_rfl) (by kernel_rfl) (by kernel_rfl) h
theorem s_l3Vec_ex (c : ((List Int) × Int × Int)) (n : Int) (hp : p_vec c n) : ∃ t : (List Int) × (((List Int) × Int × Int)), (q_vec c n t) ∧ TCon Try.prog 181 [(.bx [(.c (.sl [(.int .u8)]) c.1), (.c TI c.2.1), (.c TI c.2.2)]), (.c TI n)] (s_l3Vec_R t) := by
  refine tex_of (s_l3Vec_t c n _ (s_l3Vec_v0 (fun r' => ∃ t, (q_vec c n t) ∧ r' = s_l3Vec_R t) c n ?_))
  obtain ⟨h1, h2⟩ := hp
  refine upLoop n.toNat (fun k => ∀ (c0 : List Int) (c1 c2 : Int) (out : List Int), out.length = k → m_allFix out = true → p_cur (c0, c1, c2) → s_l3Vec_A2 (fun r' => ∃ t, (q_vec c n t) ∧ r' = s_l3Vec_R t) n (k : Int) c0 c1 c2 out) ?_ ?_ c.1 c.2.1 c.2.2 [] rfl rfl h1
  · intro c0 c1 c2 out hl hf hc
    refine s_l3Vec_v2 (fun r' => ∃ t, (q_vec c n t) ∧ r' = s_l3Vec_R t) n _ _ _ _ _ ⟨fun h => by simp at h; omega, fun _ => (leafP ⟨?_, ?_, hc⟩)⟩
    · simp; omega
    · simp only [List.take_length]; exact hf
  · intro k hk ih c0 c1 c2 out hl hf hc
    have b := s_l2Fix_post (c0, c1, c2) hc
    refine s_l3Vec_v2 (fun r' => ∃ t, (q_vec c n t) ∧ r' = s_l3Vec_R t) n _ _ _ _ _ ⟨fun _ => ⟨⟨hc, .inl rfl, by rw [big_eq]; omega⟩, ?_⟩, fun h => by simp at h; omega⟩
    rw [sc1 (by omega), take_app1]
    exact ih _ _ _ _ (by simp; omega) (allFix_snoc hf b.1) b.2
theorem s_l3Vec_post (c : ((List Int) × Int × Int)) (n : Int) (hp : p_vec c n) : q_vec c n (e_vec c n) := (Classical.epsilon_spec (s_l3Vec_ex c n hp)).1
theorem s_l3Vec_h : s_l3Vec_C := by
  intro c n hp
  exact (Classical.epsilon_spec (s_l3Vec_ex c n hp)).2

theorem s_l3Vec_ok : TRowOk Try.prog s_l3Vec_row := rowOk fun x h => s_l3Vec_h x.1 x.2.1 h

def s_l3Any_R (t : (List Int) × (((List Int) × Int × Int))) : TRes := ⟨(.c (.sl [TI]) t.1), [], [[(.c (.sl [(.int .u8)]) t.2.1), (.c TI t.2.2.1), (.c TI t.2.2.2)]], true, []⟩
def e_any3 (x0 : ((List Int) × Int × Int)) : (List Int) × (((List Int) × Int × Int)) := Classical.epsilon fun t : (List Int) × (((List Int) × Int × Int)) => (q_any x0 t) ∧ TCon Try.prog 117 [(.bx [(.c (.sl [(.int .u8)]) x0.1), (.c TI x0.2.1), (.c TI x0.2.2)])] (s_l3Any_R t)
def s_l3Any_row : TRow := mkRow 117 [(.b [(.sl [(.int .u8)]), TI, TI])] fun x => (some (p_cur x.1), s_l3Any_R (e_any3 x.1))
def s_l3Any_C : Prop := ∀ (x0 : ((List Int) × Int × Int)), (p_cur x0) → TCon Try.prog 117 [(.bx [(.c (.sl [(.int .u8)]) x0.1), (.c TI x0.2.1), (.c TI x0.2.2)])] (s_l3Any_R (e_any3 x0))

/-! spec.l3Any -/
def s_l3Any_G : List TRow := [s_l1Below_row, s_l3Vec_row, s_l2Raw_row, s_l1PickInt_row]
def s_l3Any_c : TCode :=
  (.seq (.reg [.op (some 2) (.mov (.k (.n [TI])))])
 (.seq (.reg [.op (some 4) (.mov (.s 0)),
     .op (some 5) (.mov (.s 0)),
     .op (some 6) (.call 116 [(.s 5), (.k (.c TI (4 : Int)))]),
     .op (some 7) (.bin .add (.k (.c TI (1 : Int))) (.s 6)),
     .op (some 8) (.call 181 [(.s 4), (.s 7)]),
     .op (some 3) (.mov (.s 8))])
  (.seq (.seq (.reg [.op (some 9) (.mov (.s 0)),
       .op (some 10) (.call 116 [(.s 9), (.k (.c TI (16 : Int)))])])
    (.block 0 (.seq (.reg [.op (some 12) (.bin .eql (.s 10) (.k (.c TI (0 : Int)))),
         .op (some 11) (.mov (.s 12))])
      (.cond (.s 11) (.reg [.op (some 13) (.mov (.s 3)),
          .op (some 14) (.mov (.s 0)),
          .op (some 15) (.call 184 [(.s 14)]),
          .op (some 16) (.iad (.s 13) (.k (.c TI (0 : Int))) [TI]),
          .op none (.store (.s 16) (.s 15) 1)]) (.seq (.reg [.op (some 18) (.bin .eql (.s 10) (.k (.c TI (1 : Int)))),
           .op (some 17) (.mov (.s 18))])
        (.cond (.s 17) (.seq (.reg [.op (some 19) (.mov (.s 0)),
             .op (some 20) (.mov (.s 0)),
             .op (some 21) (.bsl 3 [TI] [(.k (.c TI (0 : Int))), (.k (.c TI (6 : Int))), (.k (.c TI (7 : Int)))]),
             .op (some 22) (.call 182 [(.s 20), (.s 21)]),
             .op (some 23) (.call 181 [(.s 19), (.s 22)]),
             .op (some 2) (.mov (.s 23))])
          .ret) .skip))))))
   (.seq (.reg [.op (some 24) (.mov (.s 3)),
       .op (some 2) (.mov (.s 24))])
    .ret))))
def s_l3Any_rs : List (ARv × Md) := [(.t 2, .one .d)]
theorem s_l3Any_st : compF Try.prog 117 = some (s_l3Any_c.er, s_l3Any_rs.map Prod.fst, 25) := by kernel_rfl
def s_l3Any_Q (K : TRes → Prop) : TPost := TQ 1 0 s_l3Any_rs K
theorem s_l3Any_v0 (K : TRes → Prop) (c : ((List Int) × Int × Int)) (h :
  (((p_cur2 c (4 : Int)) ∧ (p_vec ((e_below c (4 : Int)).2) (w64 ((1 : Int) + ((e_below c (4 : Int)).1))))) ∧ ((p_cur2 ((e_vec ((e_below c (4 : Int)).2) (w64 ((1 : Int) + ((e_below c (4 : Int)).1)))).2) (16 : Int)) ∧ (((((e_below ((e_vec ((e_below c (4 : Int)).2) (w64 ((1 : Int) + ((e_below c (4 : Int)).1)))).2) (16 : Int)).1) == (0 : Int)) = true → (((p_cur ((e_below ((e_vec ((e_below c (4 : Int)).2) (w64 ((1 : Int) + ((e_below c (4 : Int)).1)))).2) (16 : Int)).2)) ∧ (((0 : Int) ≤ (0 : Int) ∧ Int.toNat (0 : Int) < ((e_vec ((e_below c (4 : Int)).2) (w64 ((1 : Int) + ((e_below c (4 : Int)).1)))).1).length) ∧ ((0 + (Int.toNat (0 : Int))) < ((e_vec ((e_below c (4 : Int)).2) (w64 ((1 : Int) + ((e_below c (4 : Int)).1)))).1).length))) ∧ K (s_l3Any_R ((List.take (((e_vec ((e_below c (4 : Int)).2) (w64 ((1 : Int) + ((e_below c (4 : Int)).1)))).1).length) (List.drop 0 (((e_vec ((e_below c (4 : Int)).2) (w64 ((1 : Int) + ((e_below c (4 : Int)).1)))).1).set (0 + (Int.toNat (0 : Int))) ((e_raw ((e_below ((e_vec ((e_below c (4 : Int)).2) (w64 ((1 : Int) + ((e_below c (4 : Int)).1)))).2) (16 : Int)).2)).1)))), ((e_raw ((e_below ((e_vec ((e_below c (4 : Int)).2) (w64 ((1 : Int) + ((e_below c (4 : Int)).1)))).2) (16 : Int)).2)).2))))) ∧ ((((e_below ((e_vec ((e_below c (4 : Int)).2) (w64 ((1 : Int) + ((e_below c (4 : Int)).1)))).2) (16 : Int)).1) == (0 : Int)) = false → (((((e_below ((e_vec ((e_below c (4 : Int)).2) (w64 ((1 : Int) + ((e_below c (4 : Int)).1)))).2) (16 : Int)).1) == (1 : Int)) = true → (((p_pickInt ((e_below ((e_vec ((e_below c (4 : Int)).2) (w64 ((1 : Int) + ((e_below c (4 : Int)).1)))).2) (16 : Int)).2) ([(0 : Int), (6 : Int), (7 : Int)])) ∧ (p_vec ((e_pickInt ((e_below ((e_vec ((e_below c (4 : Int)).2) (w64 ((1 : Int) + ((e_below c (4 : Int)).1)))).2) (16 : Int)).2) ([(0 : Int), (6 : Int), (7 : Int)])).2) ((e_pickInt ((e_below ((e_vec ((e_below c (4 : Int)).2) (w64 ((1 : Int) + ((e_below c (4 : Int)).1)))).2) (16 : Int)).2) ([(0 : Int), (6 : Int), (7 : Int)])).1))) ∧ K (s_l3Any_R ((List.take (((e_vec ((e_pickInt ((e_below ((e_vec ((e_below c (4 : Int)).2) (w64 ((1 : Int) + ((e_below c (4 : Int)).1)))).2) (16 : Int)).2) ([(0 : Int), (6 : Int), (7 : Int)])).2) ((e_pickInt ((e_below ((e_vec ((e_below c (4 : Int)).2) (w64 ((1 : Int) + ((e_below c (4 : Int)).1)))).2) (16 : Int)).2) ([(0 : Int), (6 : Int), (7 : Int)])).1)).1).length) (List.drop 0 ((e_vec ((e_pickInt ((e_below ((e_vec ((e_below c (4 : Int)).2) (w64 ((1 : Int) + ((e_below c (4 : Int)).1)))).2) (16 : Int)).2) ([(0 : Int), (6 : Int), (7 : Int)])).2) ((e_pickInt ((e_below ((e_vec ((e_below c (4 : Int)).2) (w64 ((1 : Int) + ((e_below c (4 : Int)).1)))).2) (16 : Int)).2) ([(0 : Int), (6 : Int), (7 : Int)])).1)).1))), ((e_vec ((e_pickInt ((e_below ((e_vec ((e_below c (4 : Int)).2) (w64 ((1 : Int) + ((e_below c (4 : Int)).1)))).2) (16 : Int)).2) ([(0 : Int), (6 : Int), (7 : Int)])).2) ((e_pickInt ((e_below ((e_vec ((e_below c (4 : Int)).2) (w64 ((1 : Int) + ((e_below c (4 : Int)).1)))).2) (16 : Int)).2) ([(0 : Int), (6 : Int), (7 : Int)])).1)).2))))) ∧ ((((e_below ((e_vec ((e_below c (4 : Int)).2) (w64 ((1 : Int) + ((e_below c (4 : Int)).1)))).2) (16 : Int)).1) == (1 : Int)) = false → K (s_l3Any_R ((List.take (((e_vec ((e_below c (4 : Int)).2) (w64 ((1 : Int) + ((e_below c (4 : Int)).1)))).1).length) (List.drop 0 ((e_vec ((e_below c (4 : Int)).2) (w64 ((1 : Int) + ((e_below c (4 : Int)).1)))).1))), ((e_below ((e_vec ((e_below c (4 : Int)).2) (w64 ((1 : Int) + ((e_below c (4 : Int)).1)))).2) (16 : Int)).2)))))))))) : Hold (tawp s_l3Any_G (1 + 0) s_l3Any_c (TQ 1 0 s_l3Any_rs K) (tstart [(.bx [(.c (.sl [(.int .u8)]) c.1), (.c TI c.2.1), (.c TI c.2.2)])])) :=
  Hold.of (by kernel_rfl) h
theorem s_l3Any_t (c : ((List Int) × Int × Int)) (K : TRes → Prop) (h : Hold (tawp s_l3Any_G (1 + 0) s_l3Any_c (TQ 1 0 s_l3Any_rs K) (tstart [(.bx [(.c (.sl [(.int .u8)]) c.1), (.c TI c.2.1), (.c TI c.2.2)])]))) : ∃ r, K r ∧ TCon Try.prog 117 [(.bx [(.c (.sl [(.int .u8)]) c.1), (.c TI c.2.1), (.c TI c.2.2)])] r :=
  tcon_gen_ex (sg := [(.b [(.sl [(.int .u8)]), TI, TI])]) mixed (TOk.cons s_l1Below_ok (TOk.cons s_l3Vec_ok (TOk.cons s_l2Raw_ok (TOk.cons s_l1PickInt_ok TOk.nil)))) s_l3Any_st (by kernel_rfl) (by kernel_rfl) (by kernel_rfl) (by kernel_rfl) h
theorem s_l3Any_ex (c : ((List Int) × Int × Int)) (hp : p_cur c) : ∃ t : (List Int) × (((List Int) × Int × Int)), (q_any c t) ∧ TCon Try.prog 117 [(.bx [(.c (.sl [(.int .u8)]) c.1), (.c TI c.2.1), (.c TI c.2.2)])] (s_l3Any_R t) := by
  refine tex_of (s_l3Any_t c _ (s_l3Any_v0 (fun r' => ∃ t, (q_any c t) ∧ r' = s_l3Any_R t) c ?_))
  have b1 := s_l1Below_post c 4 hp
  generalize e_below c 4 = r1 at b1 ⊢
  have h1 := b1.1
  have h2 := b1.2.1 (by omega)
  rw [w64_ok (x := 1 + r1.1) (by omega) (by omega)]
  have hv : p_vec r1.2 (1 + r1.1) := ⟨b1.2.2.2, by omega⟩
  have b2 := s_l3Vec_post _ _ hv
  generalize e_vec r1.2 (1 + r1.1) = r2 at b2 ⊢
  have b3 := s_l1Below_post r2.2 16 b2.2.2
  generalize e_below r2.2 16 = r3 at b3 ⊢
  have hc := b3.2.2.2
  have hl := b2.1
  have hpk : p_pickInt r3.2 [0, 6, 7] := ⟨hc, by simp, by simp⟩
  have b4 := s_l1PickInt_post _ _ hpk
  have b5 := b4.1
  simp only [List.mem_cons, List.not_mem_nil, or_false] at b5
  have hv2 : p_vec (e_pickInt r3.2 [0, 6, 7]).2 (e_pickInt r3.2 [0, 6, 7]).1 := ⟨b4.2, by omega⟩
  have b6 := s_l3Vec_post _ _ hv2
  have hl2 := b6.1
  refine ⟨⟨hp, hv⟩, b2.2.2, fun _ => ⟨⟨hc, ⟨by omega, ?_⟩, ?_⟩, leafP ⟨?_, s_l2Raw_post _ hc⟩⟩, fun _ => ⟨fun _ => ⟨⟨hpk, hv2⟩, leafP ⟨?_, b6.2.2⟩⟩, fun _ => (leafP ⟨?_, hc⟩)⟩⟩ <;> (simp; omega)
theorem s_l3Any_post (c : ((List Int) × Int × Int)) (hp : p_cur c) : q_any c (e_any3 c) := (Classical.epsilon_spec (s_l3Any_ex c hp)).1
theorem s_l3Any_h : s_l3Any_C := by
  intro c hp
  exact (Classical.epsilon_spec (s_l3Any_ex c hp)).2

theorem s_l3Any_ok : TRowOk Try.prog s_l3Any_row := rowOk fun x h => s_l3Any_h x.1 h

def s_l5Op_R (t : TOp' × (((List Int) × Int × Int))) : TRes := ⟨(.a [(.c TI t.1.1), (.c TI t.1.2.1), (.c TI t.1.2.2.1), (.r [TI] 0 0 ((t.1.2.2.2).length))]), [(.sl 3 [TI] true t.1.2.2.2)], [[(.c (.sl [(.int .u8)]) t.2.1), (.c TI t.2.2.1), (.c TI t.2.2.2)]], true, []⟩
def e_op (x0 : ((List Int) × Int × Int)) (x1 : Int) : TOp' × (((List Int) × Int × Int)) := Classical.epsilon fun t : TOp' × (((List Int) × Int × Int)) => (q_op x0 x1 t) ∧ TCon Try.prog 205 [(.bx [(.c (.sl [(.int .u8)]) x0.1), (.c TI x0.2.1), (.c TI x0.2.2)]), (.c TI x1)] (s_l5Op_R t)
def s_l5Op_row : TRow := mkRow 205 [(.b [(.sl [(.int .u8)]), TI, TI]), (.c TI)] fun x => (some (p_op x.1 x.2.1), s_l5Op_R (e_op x.1 x.2.1))
def s_l5Op_C : Prop := ∀ (x0 : ((List Int) × Int × Int)) (x1 : Int), (p_op x0 x1) → TCon Try.prog 205 [(.bx [(.c (.sl [(.int .u8)]) x0.1), (.c TI x0.2.1), (.c TI x0.2.2)]), (.c TI x1)] (s_l5Op_R (e_op x0 x1))

/-! spec.l5Op -/
def s_l5Op_G : List TRow := [s_l1Below_row, s_OpSize_row, s_l3Vec_row]
def s_l5Op_y1 : TCode :=
  (.seq (.reg [.op (some 19) (.mov (.s 0)),
    .op (some 20) (.load (.s 5) 4 true),
    .op (some 21) (.call 191 [(.s 20)]),
    .op (some 22) (.call 181 [(.s 19), (.s 21)]),
    .op (some 23) (.fad (.s 5) 3),
    .op none (.store (.s 23) (.s 22) 1)])
 (.seq (.reg [.op (some 24) (.load (.s 5) 4 true),
     .op none (.store (.s 4) (.s 24) 4)])
  .ret))
def s_l5Op_L1 : List (Nat × Md) := [(0, .b [.d, .d, .d]), (4, .b [.d, .d, .d, .d]), (5, .b [.d, .d, .d, .d])]
def s_l5Op_y1w : TCode := .wk s_l5Op_L1 s_l5Op_y1
def s_l5Op_c : TCode :=
  (.seq (.reg [.op (some 4) (.new 76 [(.c TI (0 : Int)), (.c TI (0 : Int)), (.c TI (0 : Int)), (.n [TI])])])
 (.seq (.reg [.op (some 6) (.mov (.s 0)),
     .op (some 7) (.call 116 [(.s 6), (.k (.c TI (5 : Int)))]),
     .op (some 8) (.bin .add (.k (.c TI (1 : Int))) (.s 7)),
     .op (some 9) (.mov (.s 1)),
     .op (some 10) (.mov (.s 1)),
     .op (some 11) (.build [(.c TI (0 : Int)), (.c TI (0 : Int)), (.c TI (0 : Int)), (.n [TI])] [(0, 1, (.s 8)), (1, 1, (.s 9)), (2, 1, (.s 10))]),
     .op (some 5) (.new 76 [(.c TI (0 : Int)), (.c TI (0 : Int)), (.c TI (0 : Int)), (.n [TI])]),
     .op none (.store (.s 5) (.s 11) 4)])
  (.seq (.seq (.reg [.op (some 12) (.fad (.s 5) 0),
       .op (some 13) (.load (.s 12) 1 false),
       .op (some 14) (.bin .eql (.s 13) (.k (.c TI (1 : Int))))])
    (.cond (.s 14) (.reg [.op (some 15) (.mov (.s 0)),
        .op (some 16) (.call 116 [(.s 15), (.k (.c TI (3 : Int)))]),
        .op (some 17) (.bin .add (.k (.c TI (1 : Int))) (.s 16)),
        .op (some 18) (.fad (.s 5) 2),
        .op none (.store (.s 18) (.s 17) 1)]) .skip))
   s_l5Op_y1w)))
def s_l5Op_rs : List (ARv × Md) := [(.l 4 4 true, .b [.d, .d, .d, .o 3])]
theorem s_l5Op_st : compF Try.prog 205 = some (s_l5Op_c.er, s_l5Op_rs.map Prod.fst, 25) := by kernel_rfl
def s_l5Op_Q (K : TRes → Prop) : TPost := TQ 1 0 s_l5Op_rs K
def s_l5Op_A1 (K : TRes → Prop) (c : ((List Int) × Int × Int)) (inn : Int) (c0 : List Int) (c1 : Int) (c2 : Int) (o2 : Int) : Prop := tawp s_l5Op_G 1 s_l5Op_y1 (s_l5Op_Q K) ⟨[(0, (.p 0 0 0)), (4, (.p 1 0 0)), (5, (.p 2 0 0))], [(0, (.box [(.c (.sl [(.int .u8)]) c0), (.c TI c1), (.c TI c2)])), (1, (.box [(.c TI (0 : Int)), (.c TI (0 : Int)), (.c TI (0 : Int)), (.c (.sl [TI]) ([]))])), (2, (.box [(.c TI (w64 ((1 : Int) + ((e_below c (5 : Int)).1)))), (.c TI inn), (.c TI o2), (.c (.sl [TI]) ([]))]))], 3⟩
theorem s_l5Op_v1 (K : TRes → Prop) (c : ((List Int) × Int × Int)) (inn : Int) (c0 : List Int) (c1 : Int) (c2 : Int) (o2 : Int) (h :
  ((p_vec (c0, c1, c2) (m_opSize (w64 ((1 : Int) + ((e_below c (5 : Int)).1)), inn, o2, []))) ∧ K (s_l5Op_R ((w64 ((1 : Int) + ((e_below c (5 : Int)).1)), inn, o2, (List.take (((e_vec (c0, c1, c2) (m_opSize (w64 ((1 : Int) + ((e_below c (5 : Int)).1)), inn, o2, []))).1).length) ((e_vec (c0, c1, c2) (m_opSize (w64 ((1 : Int) + ((e_below c (5 : Int)).1)), inn, o2, []))).1))), ((e_vec (c0, c1, c2) (m_opSize (w64 ((1 : Int) + ((e_below c (5 : Int)).1)), inn, o2, []))).2))))) : Hold (s_l5Op_A1 K c inn c0 c1 c2 o2) :=
  Hold.of (by kernel_rfl) h
theorem s_l5Op_v0 (K : TRes → Prop) (c : ((List Int) × Int × Int)) (inn : Int) (h :
  ((p_cur2 c (5 : Int)) ∧ ((((w64 ((1 : Int) + ((e_below c (5 : Int)).1))) == (1 : Int)) = true → ((p_cur2 ((e_below c (5 : Int)).2) (3 : Int)) ∧ (s_l5Op_A1 K c inn (((e_below ((e_below c (5 : Int)).2) (3 : Int)).2).1) (((e_below ((e_below c (5 : Int)).2) (3 : Int)).2).2.1) (((e_below ((e_below c (5 : Int)).2) (3 : Int)).2).2.2) (w64 ((1 : Int) + ((e_below ((e_below c (5 : Int)).2) (3 : Int)).1)))))) ∧ (((w64 ((1 : Int) + ((e_below c (5 : Int)).1))) == (1 : Int)) = false → (s_l5Op_A1 K c inn (((e_below c (5 : Int)).2).1) (((e_below c (5 : Int)).2).2.1) (((e_below c (5 : Int)).2).2.2) inn))))) : Hold (tawp s_l5Op_G (1 + 0) s_l5Op_c (TQ 1 0 s_l5Op_rs K) (tstart [(.bx [(.c (.sl [(.int .u8)]) c.1), (.c TI c.2.1), (.c TI c.2.2)]), (.c TI inn)])) :=
  Hold.of (by kernel_rfl) h
theorem s_l5Op_t (c : ((List Int) × Int × Int)) (inn : Int) (K : TRes → Prop) (h : Hold (tawp s_l5Op_G (1 + 0) s_l5Op_c (TQ 1 0 s_l5Op_rs K) (tstart [(.bx [(.c (.sl [(.int .u8)]) c.1), (.c TI c.2.1), (.c TI c.2.2)]), (.c TI inn)]))) : ∃ r, K r ∧ TCon Try.prog 205 [(.bx [(.c (.sl [(.int .u8)]) c.1), (.c TI c.2.1), (.c TI c.2.2)]), (.c TI inn)] r :=
  tcon_gen_ex (sg := [(.b [(.sl [(.int .u8)]), TI, TI]), (.c TI)]) mixed (TOk.cons s_l1Below_ok (TOk.cons s_OpSize_ok (TOk.cons s_l3Vec_ok TOk.nil))) s_l5Op_st (by kernel_rfl) (by kernel_rfl) (by kernel_rfl) (by kernel_rfl) h
theorem s_l5Op_ex (c : ((List Int) × Int × Int)) (inn : Int) (hp : p_op c inn) : ∃ t : TOp' × (((List Int) × Int × Int)), (q_op c inn t) ∧ TCon Try.prog 205 [(.bx [(.c (.sl [(.int .u8)]) c.1), (.c TI c.2.1), (.c TI c.2.2)]), (.c TI inn)] (s_l5Op_R t) := by
  refine tex_of (s_l5Op_t c inn _ (s_l5Op_v0 (fun r' => ∃ t, (q_op c inn t) ∧ r' = s_l5Op_R t) c inn ?_))
  have b1 := s_l1Below_post c 5 hp.1
  have h1 := b1.1
  have h2 := b1.2.1 (by omega)
  obtain ⟨_, h3, h4⟩ := hp
  have hw : w64 (1 + (e_below c 5).1) = 1 + (e_below c 5).1 := w64_ok (by omega) (by omega)
  have key : ∀ c0 c1 c2 o2, p_cur (c0, c1, c2) → 1 ≤ o2 → o2 ≤ 3 → (1 + (e_below c 5).1 = 1 ∨ inn = o2) → s_l5Op_A1 (fun r' => ∃ t, (q_op c inn t) ∧ r' = s_l5Op_R t) c inn c0 c1 c2 o2 := by
    intro c0 c1 c2 o2 hc k1 k2 k3
    refine (s_l5Op_v1 (fun r' => ∃ t, (q_op c inn t) ∧ r' = s_l5Op_R t) c inn c0 c1 c2 o2 ?_).h
    rw [hw]
    have h5 : 1 ≤ 1 + (e_below c 5).1 := by omega
    have h6 : 1 + (e_below c 5).1 ≤ 5 := by omega
    generalize 1 + (e_below c 5).1 = o1 at h5 h6 k3 ⊢
    have hs := opSize_rng o1 [] h3 h4 k1 k2
    have hv : p_vec (c0, c1, c2) (m_opSize (o1, inn, o2, [])) := ⟨hc, by omega⟩
    have b := s_l3Vec_post _ _ hv
    have hl := b.1
    refine ⟨hv, leafP ⟨?_, rfl, k1, k2, ?_, b.2.2⟩⟩
    · simp only [List.take_length]
      exact opOk_mk h5 h6 h3 h4 k1 k2 k3 hl b.2.1
    · simp; omega
  have b2 := s_l1Below_post (e_below c 5).2 3 b1.2.2.2
  have h7 := b2.1
  have h8 := b2.2.1 (by omega)
  rw [hw] at *
  refine ⟨‹p_cur c›, fun h => ⟨b1.2.2.2, ?_⟩, fun _ => key _ _ _ _ b1.2.2.2 h3 h4 (.inr rfl)⟩
  rw [w64_ok (x := 1 + (e_below (e_below c 5).2 3).1) (by omega) (by omega)]
  exact key _ _ _ _ b2.2.2.2 (by omega) (by omega) (.inl (by simpa using h))
theorem s_l5Op_post (c : ((List Int) × Int × Int)) (inn : Int) (hp : p_op c inn) : q_op c inn (e_op c inn) := (Classical.epsilon_spec (s_l5Op_ex c inn hp)).1
theorem s_l5Op_h : s_l5Op_C := by
  intro c inn hp
  exact (Classical.epsilon_spec (s_l5Op_ex c inn hp)).2

theorem s_l5Op_ok : TRowOk Try.prog s_l5Op_row := rowOk fun x h => s_l5Op_h x.1 x.2.1 h

def s_l5Any_R (t : TOp' × (((List Int) × Int × Int))) : TRes := ⟨(.a (Tup.cells ctOp t.1)), [], [[(.c (.sl [(.int .u8)]) t.2.1), (.c TI t.2.2.1), (.c TI t.2.2.2)]], true, []⟩
def e_anyOp (x0 : ((List Int) × Int × Int)) : TOp' × (((List Int) × Int × Int)) := Classical.epsilon fun t : TOp' × (((List Int) × Int × Int)) => (q_anyOp x0 t) ∧ TCon Try.prog 187 [(.bx [(.c (.sl [(.int .u8)]) x0.1), (.c TI x0.2.1), (.c TI x0.2.2)])] (s_l5Any_R t)
def s_l5Any_row : TRow := mkRow 187 [(.b [(.sl [(.int .u8)]), TI, TI])] fun x => (some (p_cur x.1), s_l5Any_R (e_anyOp x.1))
def s_l5Any_C : Prop := ∀ (x0 : ((List Int) × Int × Int)), (p_cur x0) → TCon Try.prog 187 [(.bx [(.c (.sl [(.int .u8)]) x0.1), (.c TI x0.2.1), (.c TI x0.2.2)])] (s_l5Any_R (e_anyOp x0))

/-! spec.l5Any -/
def s_l5Any_G : List TRow := [s_l1Below_row, s_l5Op_row, s_l1PickInt_row, s_l2Raw_row]
def s_l5Any_c : TCode :=
  (.seq (.reg [.op (some 2) (.new 76 [(.c TI (0 : Int)), (.c TI (0 : Int)), (.c TI (0 : Int)), (.n [TI])])])
 (.seq (.reg [.op (some 4) (.mov (.s 0)),
     .op (some 5) (.mov (.s 0)),
     .op (some 6) (.call 116 [(.s 5), (.k (.c TI (3 : Int)))]),
     .op (some 7) (.bin .add (.k (.c TI (1 : Int))) (.s 6)),
     .op (some 8) (.call 205 [(.s 4), (.s 7)]),
     .op (some 3) (.new 76 [(.c TI (0 : Int)), (.c TI (0 : Int)), (.c TI (0 : Int)), (.n [TI])]),
     .op none (.store (.s 3) (.s 8) 4)])
  (.seq (.seq (.reg [.op (some 9) (.mov (.s 0)),
       .op (some 10) (.call 116 [(.s 9), (.k (.c TI (14 : Int)))])])
    (.block 0 (.seq (.reg [.op (some 12) (.bin .eql (.s 10) (.k (.c TI (0 : Int)))),
         .op (some 11) (.mov (.s 12))])
      (.cond (.s 11) (.reg [.op (some 13) (.mov (.s 0)),
          .op (some 14) (.call 116 [(.s 13), (.k (.c TI (8 : Int)))]),
          .op (some 15) (.bin .sub (.s 14) (.k (.c TI (1 : Int)))),
          .op (some 16) (.fad (.s 3) 0),
          .op none (.store (.s 16) (.s 15) 1)]) (.seq (.reg [.op (some 18) (.bin .eql (.s 10) (.k (.c TI (1 : Int)))),
           .op (some 17) (.mov (.s 18))])
        (.cond (.s 17) (.reg [.op (some 19) (.mov (.s 0)),
            .op (some 20) (.fad (.s 3) 1),
            .op (some 21) (.load (.s 20) 1 false),
            .op (some 22) (.bin .add (.s 21) (.k (.c TI (1 : Int)))),
            .op (some 23) (.bsl 3 [TI] [(.k (.c TI (0 : Int))), (.k (.c TI (7 : Int))), (.s 22)]),
            .op (some 24) (.call 182 [(.s 19), (.s 23)]),
            .op (some 25) (.fad (.s 3) 1),
            .op none (.store (.s 25) (.s 24) 1)]) (.seq (.reg [.op (some 27) (.bin .eql (.s 10) (.k (.c TI (2 : Int)))),
             .op (some 26) (.mov (.s 27))])
          (.cond (.s 26) (.reg [.op (some 28) (.fad (.s 3) 3),
              .op (some 29) (.load (.s 28) 1 false),
              .op (some 30) (.bsl 3 [TI] [(.k (.c TI (0 : Int)))]),
              .op (some 31) (.app (.s 29) (.s 30) 3 [TI]),
              .op (some 32) (.fad (.s 3) 3),
              .op none (.store (.s 32) (.s 31) 1)]) (.seq (.reg [.op (some 34) (.bin .eql (.s 10) (.k (.c TI (3 : Int)))),
               .op (some 33) (.mov (.s 34))])
            (.cond (.s 33) (.seq (.reg [.op (some 35) (.fad (.s 3) 3),
                 .op (some 36) (.load (.s 35) 1 false),
                 .op (some 37) (.len (.s 36)),
                 .op (some 38) (.bin .gtr (.s 37) (.k (.c TI (0 : Int))))])
              (.cond (.s 38) (.draw [.op (some 39) (.fad (.s 3) 3),
                  .op (some 40) (.load (.s 39) 1 false),
                  .op (some 41) (.mov (.s 0)),
                  .op (some 42) (.call 184 [(.s 41)]),
                  .op (some 43) (.iad (.s 40) (.k (.c TI (0 : Int))) [TI]),
                  .op none (.store (.s 43) (.s 42) 1)] [(0, 3), (1, 3)]) .skip)) .skip))))))))))
   (.seq (.reg [.op (some 44) (.load (.s 3) 4 true),
       .op none (.store (.s 2) (.s 44) 4)])
    .ret))))
def s_l5Any_rs : List (ARv × Md) := [(.l 2 4 true, .b [.d, .d, .d, .d])]
theorem s_l5Any_st : compF Try.prog 187 = some (s_l5Any_c.er, s_l5Any_rs.map Prod.fst, 45) := by kernel_rfl
def s_l5Any_Q (K : TRes → Prop) : TPost := TQ 1 0 s_l5Any_rs K
theorem s_l5Any_v0 (K : TRes → Prop) (c : ((List Int) × Int × Int)) (h :
  (((p_cur2 c (3 : Int)) ∧ (p_op ((e_below c (3 : Int)).2) (w64 ((1 : Int) + ((e_below c (3 : Int)).1))))) ∧ ((p_cur2 ((e_op ((e_below c (3 : Int)).2) (w64 ((1 : Int) + ((e_below c (3 : Int)).1)))).2) (14 : Int)) ∧ (((((e_below ((e_op ((e_below c (3 : Int)).2) (w64 ((1 : Int) + ((e_below c (3 : Int)).1)))).2) (14 : Int)).1) == (0 : Int)) = true → ((p_cur2 ((e_below ((e_op ((e_below c (3 : Int)).2) (w64 ((1 : Int) + ((e_below c (3 : Int)).1)))).2) (14 : Int)).2) (8 : Int)) ∧ K (s_l5Any_R ((w64 (((e_below ((e_below ((e_op ((e_below c (3 : Int)).2) (w64 ((1 : Int) + ((e_below c (3 : Int)).1)))).2) (14 : Int)).2) (8 : Int)).1) - (1 : Int)), ((e_op ((e_below c (3 : Int)).2) (w64 ((1 : Int) + ((e_below c (3 : Int)).1)))).1).2.1, ((e_op ((e_below c (3 : Int)).2) (w64 ((1 : Int) + ((e_below c (3 : Int)).1)))).1).2.2.1, (List.take ((((e_op ((e_below c (3 : Int)).2) (w64 ((1 : Int) + ((e_below c (3 : Int)).1)))).1).2.2.2).length) (List.drop 0 (((e_op ((e_below c (3 : Int)).2) (w64 ((1 : Int) + ((e_below c (3 : Int)).1)))).1).2.2.2)))), ((e_below ((e_below ((e_op ((e_below c (3 : Int)).2) (w64 ((1 : Int) + ((e_below c (3 : Int)).1)))).2) (14 : Int)).2) (8 : Int)).2))))) ∧ ((((e_below ((e_op ((e_below c (3 : Int)).2) (w64 ((1 : Int) + ((e_below c (3 : Int)).1)))).2) (14 : Int)).1) == (0 : Int)) = false → (((((e_below ((e_op ((e_below c (3 : Int)).2) (w64 ((1 : Int) + ((e_below c (3 : Int)).1)))).2) (14 : Int)).1) == (1 : Int)) = true → ((p_pickInt ((e_below ((e_op ((e_below c (3 : Int)).2) (w64 ((1 : Int) + ((e_below c (3 : Int)).1)))).2) (14 : Int)).2) ([(0 : Int), (7 : Int), w64 ((((e_op ((e_below c (3 : Int)).2) (w64 ((1 : Int) + ((e_below c (3 : Int)).1)))).1).2.1) + (1 : Int))])) ∧ K (s_l5Any_R ((((e_op ((e_below c (3 : Int)).2) (w64 ((1 : Int) + ((e_below c (3 : Int)).1)))).1).1, (e_pickInt ((e_below ((e_op ((e_below c (3 : Int)).2) (w64 ((1 : Int) + ((e_below c (3 : Int)).1)))).2) (14 : Int)).2) ([(0 : Int), (7 : Int), w64 ((((e_op ((e_below c (3 : Int)).2) (w64 ((1 : Int) + ((e_below c (3 : Int)).1)))).1).2.1) + (1 : Int))])).1, ((e_op ((e_below c (3 : Int)).2) (w64 ((1 : Int) + ((e_below c (3 : Int)).1)))).1).2.2.1, (List.take ((((e_op ((e_below c (3 : Int)).2) (w64 ((1 : Int) + ((e_below c (3 : Int)).1)))).1).2.2.2).length) (List.drop 0 (((e_op ((e_below c (3 : Int)).2) (w64 ((1 : Int) + ((e_below c (3 : Int)).1)))).1).2.2.2)))), ((e_pickInt ((e_below ((e_op ((e_below c (3 : Int)).2) (w64 ((1 : Int) + ((e_below c (3 : Int)).1)))).2) (14 : Int)).2) ([(0 : Int), (7 : Int), w64 ((((e_op ((e_below c (3 : Int)).2) (w64 ((1 : Int) + ((e_below c (3 : Int)).1)))).1).2.1) + (1 : Int))])).2))))) ∧ ((((e_below ((e_op ((e_below c (3 : Int)).2) (w64 ((1 : Int) + ((e_below c (3 : Int)).1)))).2) (14 : Int)).1) == (1 : Int)) = false → (((((e_below ((e_op ((e_below c (3 : Int)).2) (w64 ((1 : Int) + ((e_below c (3 : Int)).1)))).2) (14 : Int)).1) == (2 : Int)) = true → ((((((e_op ((e_below c (3 : Int)).2) (w64 ((1 : Int) + ((e_below c (3 : Int)).1)))).1).2.2.2).length = (((e_op ((e_below c (3 : Int)).2) (w64 ((1 : Int) + ((e_below c (3 : Int)).1)))).1).2.2.2).length ∨ (((e_op ((e_below c (3 : Int)).2) (w64 ((1 : Int) + ((e_below c (3 : Int)).1)))).1).2.2.2).length + 1 ≤ (((e_op ((e_below c (3 : Int)).2) (w64 ((1 : Int) + ((e_below c (3 : Int)).1)))).1).2.2.2).length) ∧ (((e_op ((e_below c (3 : Int)).2) (w64 ((1 : Int) + ((e_below c (3 : Int)).1)))).1).2.2.2).length + 1 ≤ big) ∧ K (s_l5Any_R ((((e_op ((e_below c (3 : Int)).2) (w64 ((1 : Int) + ((e_below c (3 : Int)).1)))).1).1, ((e_op ((e_below c (3 : Int)).2) (w64 ((1 : Int) + ((e_below c (3 : Int)).1)))).1).2.1, ((e_op ((e_below c (3 : Int)).2) (w64 ((1 : Int) + ((e_below c (3 : Int)).1)))).1).2.2.1, (List.take ((((e_op ((e_below c (3 : Int)).2) (w64 ((1 : Int) + ((e_below c (3 : Int)).1)))).1).2.2.2).length + 1) (List.drop 0 ((List.take ((((e_op ((e_below c (3 : Int)).2) (w64 ((1 : Int) + ((e_below c (3 : Int)).1)))).1).2.2.2).length) (((e_op ((e_below c (3 : Int)).2) (w64 ((1 : Int) + ((e_below c (3 : Int)).1)))).1).2.2.2)) ++ ([(0 : Int)]))))), ((e_below ((e_op ((e_below c (3 : Int)).2) (w64 ((1 : Int) + ((e_below c (3 : Int)).1)))).2) (14 : Int)).2))))) ∧ ((((e_below ((e_op ((e_below c (3 : Int)).2) (w64 ((1 : Int) + ((e_below c (3 : Int)).1)))).2) (14 : Int)).1) == (2 : Int)) = false → (((((e_below ((e_op ((e_below c (3 : Int)).2) (w64 ((1 : Int) + ((e_below c (3 : Int)).1)))).2) (14 : Int)).1) == (3 : Int)) = true → (((decide ((((((e_op ((e_below c (3 : Int)).2) (w64 ((1 : Int) + ((e_below c (3 : Int)).1)))).1).2.2.2).length : Nat) : Int) > (0 : Int))) = true → (((p_cur ((e_below ((e_op ((e_below c (3 : Int)).2) (w64 ((1 : Int) + ((e_below c (3 : Int)).1)))).2) (14 : Int)).2)) ∧ (((0 : Int) ≤ (0 : Int) ∧ Int.toNat (0 : Int) < (((e_op ((e_below c (3 : Int)).2) (w64 ((1 : Int) + ((e_below c (3 : Int)).1)))).1).2.2.2).length) ∧ ((0 + (Int.toNat (0 : Int))) < (((e_op ((e_below c (3 : Int)).2) (w64 ((1 : Int) + ((e_below c (3 : Int)).1)))).1).2.2.2).length))) ∧ K (s_l5Any_R ((((e_op ((e_below c (3 : Int)).2) (w64 ((1 : Int) + ((e_below c (3 : Int)).1)))).1).1, ((e_op ((e_below c (3 : Int)).2) (w64 ((1 : Int) + ((e_below c (3 : Int)).1)))).1).2.1, ((e_op ((e_below c (3 : Int)).2) (w64 ((1 : Int) + ((e_below c (3 : Int)).1)))).1).2.2.1, (List.take ((((e_op ((e_below c (3 : Int)).2) (w64 ((1 : Int) + ((e_below c (3 : Int)).1)))).1).2.2.2).length) (List.drop 0 ((((e_op ((e_below c (3 : Int)).2) (w64 ((1 : Int) + ((e_below c (3 : Int)).1)))).1).2.2.2).set (0 + (Int.toNat (0 : Int))) ((e_raw ((e_below ((e_op ((e_below c (3 : Int)).2) (w64 ((1 : Int) + ((e_below c (3 : Int)).1)))).2) (14 : Int)).2)).1))))), ((e_raw ((e_below ((e_op ((e_below c (3 : Int)).2) (w64 ((1 : Int) + ((e_below c (3 : Int)).1)))).2) (14 : Int)).2)).2))))) ∧ ((decide ((((((e_op ((e_below c (3 : Int)).2) (w64 ((1 : Int) + ((e_below c (3 : Int)).1)))).1).2.2.2).length : Nat) : Int) > (0 : Int))) = false → K (s_l5Any_R ((((e_op ((e_below c (3 : Int)).2) (w64 ((1 : Int) + ((e_below c (3 : Int)).1)))).1).1, ((e_op ((e_below c (3 : Int)).2) (w64 ((1 : Int) + ((e_below c (3 : Int)).1)))).1).2.1, ((e_op ((e_below c (3 : Int)).2) (w64 ((1 : Int) + ((e_below c (3 : Int)).1)))).1).2.2.1, (List.take ((((e_op ((e_below c (3 : Int)).2) (w64 ((1 : Int) + ((e_below c (3 : Int)).1)))).1).2.2.2).length) (List.drop 0 (((e_op ((e_below c (3 : Int)).2) (w64 ((1 : Int) + ((e_below c (3 : Int)).1)))).1).2.2.2)))), ((e_below ((e_op ((e_below c (3 : Int)).2) (w64 ((1 : Int) + ((e_below c (3 : Int)).1)))).2) (14 : Int)).2)))))) ∧ ((((e_below ((e_op ((e_below c (3 : Int)).2) (w64 ((1 : Int) + ((e_below c (3 : Int)).1)))).2) (14 : Int)).1) == (3 : Int)) = false → K (s_l5Any_R ((((e_op ((e_below c (3 : Int)).2) (w64 ((1 : Int) + ((e_below c (3 : Int)).1)))).1).1, ((e_op ((e_below c (3 : Int)).2) (w64 ((1 : Int) + ((e_below c (3 : Int)).1)))).1).2.1, ((e_op ((e_below c (3 : Int)).2) (w64 ((1 : Int) + ((e_below c (3 : Int)).1)))).1).2.2.1, (List.take ((((e_op ((e_below c (3 : Int)).2) (w64 ((1 : Int) + ((e_below c (3 : Int)).1)))).1).2.2.2).length) (List.drop 0 (((e_op ((e_below c (3 : Int)).2) (w64 ((1 : Int) + ((e_below c (3 : Int)).1)))).1).2.2.2)))), ((e_below ((e_op ((e_below c (3 : Int)).2) (w64 ((1 : Int) + ((e_below c (3 : Int)).1)))).2) (14 : Int)).2)))))))))))))) : Hold (tawp s_l5Any_G (1 + 0) s_l5Any_c (TQ 1 0 s_l5Any_rs K) (tstart [(.bx [(.c (.sl [(.int .u8)]) c.1), (.c TI c.2.1), (.c TI c.2.2)])])) :=
  Hold.of (by kernel_rfl) h
theorem s_l5Any_t (c : ((List Int) × Int × Int)) (K : TRes → Prop) (h : Hold (tawp s_l5Any_G (1 + 0) s_l5Any_c (TQ 1 0 s_l5Any_rs K) (tstart [(.bx [(.c (.sl [(.int .u8)]) c.1), (.c TI c.2.1), (.c TI c.2.2)])]))) : ∃ r, K r ∧ TCon Try.prog 187 [(.bx [(.c (.sl [(.int .u8)]) c.1), (.c TI c.2.1), (.c TI c.2.2)])] r :=
  tcon_gen_ex (sg := [(.b [(.sl [(.int .u8)]), TI, TI])]) mixed (TOk.cons s_l1Below_ok (TOk.cons s_l5Op_ok (TOk.cons s_l1PickInt_ok (TOk.cons s_l2Raw_ok TOk.nil)))) s_l5Any_st (by kernel_rfl) (by kernel_rfl) (by kernel_rfl) (by kernel_rfl) h
theorem s_l5Any_ex (c : ((List Int) × Int × Int)) (hp : p_cur c) : ∃ t : TOp' × (((List Int) × Int × Int)), (q_anyOp c t) ∧ TCon Try.prog 187 [(.bx [(.c (.sl [(.int .u8)]) c.1), (.c TI c.2.1), (.c TI c.2.2)])] (s_l5Any_R t) := by
  refine tex_of (s_l5Any_t c _ (s_l5Any_v0 (fun r' => ∃ t, (q_anyOp c t) ∧ r' = s_l5Any_R t) c ?_))
  have b1 := s_l1Below_post c 3 hp
  generalize e_below c 3 = r1 at b1 ⊢
  have h1 := b1.1
  have h2 := b1.2.1 (by omega)
  rw [w64_ok (x := 1 + r1.1) (by omega) (by omega)]
  have ho : p_op r1.2 (1 + r1.1) := ⟨b1.2.2.2, by omega, by omega⟩
  have b2 := s_l5Op_post _ _ ho
  generalize e_op r1.2 (1 + r1.1) = r2 at b2 ⊢
  have hl := b2.2.2.2.2.1
  have hc2 := b2.2.2.2.2.2
  have b3 := (s_l1Below_post r2.2 14 hc2).2.2.2
  generalize e_below r2.2 14 = r3 at b3 ⊢
  refine ⟨⟨hp, ho⟩, hc2, fun _ => ⟨b3, leafP ⟨?_, (s_l1Below_post _ _ b3).2.2.2⟩⟩, fun _ => ⟨fun _ => ⟨⟨b3, by simp, by simp⟩, leafP ⟨?_, (s_l1PickInt_post _ _ ⟨b3, by simp, by simp⟩).2⟩⟩, fun _ => ⟨fun _ => ⟨⟨.inl rfl, by rw [big_eq]; omega⟩, leafP ⟨?_, b3⟩⟩, fun _ => ⟨fun _ => ⟨fun hh => ⟨⟨b3, ⟨by omega, by simpa using hh⟩, by simpa using hh⟩, leafP ⟨?_, s_l2Raw_post _ b3⟩⟩, fun _ => (leafP ⟨?_, b3⟩)⟩, fun _ => (leafP ⟨?_, b3⟩)⟩⟩⟩⟩
  all_goals first
    | (simp; omega)
    | omega
    | skip
theorem s_l5Any_post (c : ((List Int) × Int × Int)) (hp : p_cur c) : q_anyOp c (e_anyOp c) := (Classical.epsilon_spec (s_l5Any_ex c hp)).1
theorem s_l5Any_h : s_l5Any_C := by
  intro c hp
  exact (Classical.epsilon_spec (s_l5Any_ex c hp)).2

theorem s_l5Any_ok : TRowOk Try.prog s_l5Any_row := rowOk fun x h => s_l5Any_h x.1 h

def s_l6Model_R (t : (List TOp') × (((List Int) × Int × Int))) : TRes := ⟨(.a [(.r ctOp 0 0 ((t.1).length))]), [(.sl 76 ctOp true t.1)], [[(.c (.sl [(.int .u8)]) t.2.1), (.c TI t.2.2.1), (.c TI t.2.2.2)]], true, []⟩
def e_model (x0 : ((List Int) × Int × Int)) : (List TOp') × (((List Int) × Int × Int)) := Classical.epsilon fun t : (List TOp') × (((List Int) × Int × Int)) => (q_model x0 t) ∧ TCon Try.prog 186 [(.bx [(.c (.sl [(.int .u8)]) x0.1), (.c TI x0.2.1), (.c TI x0.2.2)])] (s_l6Model_R t)
def s_l6Model_row : TRow := mkRow 186 [(.b [(.sl [(.int .u8)]), TI, TI])] fun x => (some (p_cur x.1), s_l6Model_R (e_model x.1))
def s_l6Model_C : Prop := ∀ (x0 : ((List Int) × Int × Int)), (p_cur x0) → TCon Try.prog 186 [(.bx [(.c (.sl [(.int .u8)]) x0.1), (.c TI x0.2.1), (.c TI x0.2.2)])] (s_l6Model_R (e_model x0))

/-! spec.l6Model -/
def s_l6Model_G : List TRow := [s_l1Below_row, s_l5Op_row]
def s_l6Model_b2 : TCode :=
  (.seq (.seq (.reg [.op (some 14) (.mov (.s 5)),
     .op (some 15) (.bin .gtr (.s 14) (.k (.c TI (0 : Int))))])
  (.cond (.s 15) .skip (.exit 0)))
 (.seq (.block 1 (.seq (.reg [.op (some 18) (.mov (.s 0)),
       .op (some 19) (.mov (.s 4)),
       .op (some 20) (.call 205 [(.s 18), (.s 19)]),
       .op (some 6) (.new 76 [(.c TI (0 : Int)), (.c TI (0 : Int)), (.c TI (0 : Int)), (.n [TI])]),
       .op none (.store (.s 6) (.s 20) 4)])
    (.seq (.reg [.op (some 21) (.fad (.s 3) 0),
        .op (some 22) (.load (.s 21) 1 false),
        .op (some 23) (.load (.s 6) 4 true),
        .op (some 24) (.bsl 76 ctOp [(.s 23)]),
        .op (some 25) (.app (.s 22) (.s 24) 76 ctOp),
        .op (some 26) (.fad (.s 3) 0),
        .op none (.store (.s 26) (.s 25) 1)])
     (.reg [.op (some 27) (.fad (.s 6) 2),
        .op (some 28) (.load (.s 27) 1 false),
        .op (some 4) (.mov (.s 28))]))))
  (.reg [.op (some 16) (.mov (.s 5)),
     .op (some 17) (.bin .sub (.s 16) (.k (.c TI (1 : Int)))),
     .op (some 5) (.mov (.s 17))])))
def s_l6Model_L2 : List (Nat × Md) := [(0, .b [.d, .d, .d]), (2, .b [.d]), (3, .b [.o 76]), (4, .one .d), (5, .one .d)]
def s_l6Model_y1 : TCode :=
  (.seq (.reg [.op (some 29) (.load (.s 3) 1 true),
    .op none (.store (.s 2) (.s 29) 1)])
 .ret)
def s_l6Model_c : TCode :=
  (.seq (.reg [.op (some 2) (.new 66 [(.n ctOp)])])
 (.seq (.reg [.op (some 7) (.build [(.n ctOp)] []),
     .op (some 3) (.new 66 [(.n ctOp)]),
     .op none (.store (.s 3) (.s 7) 1)])
  (.seq (.reg [.op (some 8) (.mov (.s 0)),
      .op (some 9) (.call 116 [(.s 8), (.k (.c TI (3 : Int)))]),
      .op (some 10) (.bin .add (.k (.c TI (1 : Int))) (.s 9)),
      .op (some 4) (.mov (.s 10))])
   (.seq (.seq (.reg [.op (some 11) (.mov (.s 0)),
        .op (some 12) (.call 116 [(.s 11), (.k (.c TI (6 : Int)))]),
        .op (some 13) (.bin .add (.k (.c TI (1 : Int))) (.s 12)),
        .op (some 5) (.mov (.s 13))])
     (.block 0 (.loop s_l6Model_L2 s_l6Model_b2)))
    s_l6Model_y1))))
def s_l6Model_rs : List (ARv × Md) := [(.l 2 1 true, .b [.o 76])]
theorem s_l6Model_st : compF Try.prog 186 = some (s_l6Model_c.er, s_l6Model_rs.map Prod.fst, 30) := by kernel_rfl
def s_l6Model_Q (K : TRes → Prop) : TPost := TQ 1 0 s_l6Model_rs K
def s_l6Model_q1 (K : TRes → Prop) : TPost := Qseq (tawp s_l6Model_G 1 s_l6Model_y1 (s_l6Model_Q K)) (s_l6Model_Q K)
def s_l6Model_q2 (K : TRes → Prop) : TPost := Qblk 0 (s_l6Model_q1 K)
def s_l6Model_A2 (K : TRes → Prop) (inn : Int) (n : Int) (c0 : List Int) (c1 : Int) (c2 : Int) (m0 : List TOp') : Prop := Loop s_l6Model_G 1 s_l6Model_L2 s_l6Model_b2 (s_l6Model_q2 K) ⟨[(0, (.p 0 0 0)), (2, (.p 1 0 0)), (3, (.p 3 0 0)), (4, (.c TI inn)), (5, (.c TI n))], [(0, (.box [(.c (.sl [(.int .u8)]) c0), (.c TI c1), (.c TI c2)])), (1, (.box [(.c (.sl ctOp) ([]))])), (2, (.sl 76 ctOp true m0)), (3, (.box [(.r ctOp 2 0 m0.length)]))], 4⟩
theorem s_l6Model_v2 (K : TRes → Prop) (inn : Int) (n : Int) (c0 : List Int) (c1 : Int) (c2 : Int) (m0 : List TOp') (h :
  (((decide (n > (0 : Int))) = true → ((p_op (c0, c1, c2) inn) ∧ (((m0.length = m0.length ∨ m0.length + 1 ≤ m0.length) ∧ m0.length + 1 ≤ big) ∧ (s_l6Model_A2 K (((e_op (c0, c1, c2) inn).1).2.2.1) (w64 (n - (1 : Int))) (((e_op (c0, c1, c2) inn).2).1) (((e_op (c0, c1, c2) inn).2).2.1) (((e_op (c0, c1, c2) inn).2).2.2) (List.take (m0.length + 1) ((List.take m0.length m0) ++ ([(((e_op (c0, c1, c2) inn).1).1, ((e_op (c0, c1, c2) inn).1).2.1, ((e_op (c0, c1, c2) inn).1).2.2.1, (List.take ((((e_op (c0, c1, c2) inn).1).2.2.2).length) (List.drop 0 (((e_op (c0, c1, c2) inn).1).2.2.2))))]))))))) ∧ ((decide (n > (0 : Int))) = false → K (s_l6Model_R ((List.take m0.length m0), (c0, c1, c2)))))) : s_l6Model_A2 K inn n c0 c1 c2 m0 :=
  Loop.of (by kernel_rfl) h
theorem s_l6Model_v0 (K : TRes → Prop) (c : ((List Int) × Int × Int)) (h :
  ((p_cur2 c (3 : Int)) ∧ ((p_cur2 ((e_below c (3 : Int)).2) (6 : Int)) ∧ (s_l6Model_A2 K (w64 ((1 : Int) + ((e_below c (3 : Int)).1))) (w64 ((1 : Int) + ((e_below ((e_below c (3 : Int)).2) (6 : Int)).1))) (((e_below ((e_below c (3 : Int)).2) (6 : Int)).2).1) (((e_below ((e_below c (3 : Int)).2) (6 : Int)).2).2.1) (((e_below ((e_below c (3 : Int)).2) (6 : Int)).2).2.2) ([] : List TOp'))))) : Hold (tawp s_l6Model_G (1 + 0) s_l6Model_c (TQ 1 0 s_l6Model_rs K) (tstart [(.bx [(.c (.sl [(.int .u8)]) c.1), (.c TI c.2.1), (.c TI c.2.2)])])) :=
  Hold.of (by kernel_rfl) h
theorem s_l6Model_t (c : ((List Int) × Int × Int)) (K : TRes → Prop) (h : Hold (tawp s_l6Model_G (1 + 0) s_l6Model_c (TQ 1 0 s_l6Model_rs K) (tstart [(.bx [(.c (.sl [(.int .u8)]) c.1), (.c TI c.2.1), (.c TI c.2.2)])]))) : ∃ r, K r ∧ TCon Try.prog 186 [(.bx [(.c (.sl [(.int .u8)]) c.1), (.c TI c.2.1), (.c TI c.2.2)])] r :=
  tcon_gen_ex (sg := [(.b [(.sl [(.int .u8)]), TI, TI])]) mixed (TOk.cons s_l1Below_ok (TOk.cons s_l5Op_ok TOk.nil)) s_l6Model_st (by kernel_rfl) (by kernel_rfl) (by kernel_rfl) (by kernel_rfl) h
theorem s_l6Model_ex (c : ((List Int) × Int × Int)) (hp : p_cur c) : ∃ t : (List TOp') × (((List Int) × Int × Int)), (q_model c t) ∧ TCon Try.prog 186 [(.bx [(.c (.sl [(.int .u8)]) c.1), (.c TI c.2.1), (.c TI c.2.2)])] (s_l6Model_R t) := by
  refine tex_of (s_l6Model_t c _ (s_l6Model_v0 (fun r' => ∃ t, (q_model c t) ∧ r' = s_l6Model_R t) c ?_))
  have b1 := s_l1Below_post c 3 hp
  generalize e_below c 3 = r1 at b1 ⊢
  have b2 := s_l1Below_post r1.2 6 b1.2.2.2
  generalize e_below r1.2 6 = r2 at b2 ⊢
  have h1 := b1.1
  have h2 := b1.2.1 (by omega)
  have h3 := b2.1
  have h4 := b2.2.1 (by omega)
  rw [w64_ok (x := 1 + r1.1) (by omega) (by omega), w64_ok (x := 1 + r2.1) (by omega) (by omega)]
  refine ⟨hp, b1.2.2.2, ?_⟩
  have key : ∀ (k : Nat) (inn c1 c2 : Int) (c0 : List Int) (m0 : TModel), p_cur (c0, c1, c2) → 1 ≤ inn → inn ≤ 3 → m0.length + k ≤ 6 → 1 ≤ m0.length + k → chainGo none m0 = true → outIs none m0 inn = true → s_l6Model_A2 (fun r' => ∃ t, (q_model c t) ∧ r' = s_l6Model_R t) inn (k : Int) c0 c1 c2 m0 := by
    intro k
    induction k with
    | zero =>
      intro inn c1 c2 c0 m0 hc k1 k2 k3 k4 k5 k6
      refine s_l6Model_v2 (fun r' => ∃ t, (q_model c t) ∧ r' = s_l6Model_R t) _ _ _ _ _ _ ⟨fun h => by simp at h, fun _ => (leafP ⟨?_, ?_, hc⟩)⟩
      · simp only [List.take_length, m_modelOk, Bool.and_eq_true, m_in_iff]
        exact ⟨by omega, k5⟩
      · simp only [List.take_length]; omega
    | succ k ih =>
      intro inn c1 c2 c0 m0 hc k1 k2 k3 k4 k5 k6
      have ho : p_op (c0, c1, c2) inn := ⟨hc, k1, k2⟩
      have b := s_l5Op_post _ _ ho
      refine s_l6Model_v2 (fun r' => ∃ t, (q_model c t) ∧ r' = s_l6Model_R t) _ _ _ _ _ _ ⟨fun _ => ⟨ho, ⟨.inl rfl, by rw [big_eq]; omega⟩, ?_⟩, fun h => by simp at h <;> omega⟩
      rw [take_app1, w64_ok (x := ((k + 1 : Nat) : Int) - 1) (by omega) (by omega), show ((k + 1 : Nat) : Int) - 1 = k by omega]
      refine ih _ _ _ _ _ b.2.2.2.2.2 b.2.2.1 b.2.2.2.1 (by simp; omega) (by simp; omega) (chain_snoc _ _ _ k5 ?_ ?_) ?_
      · simp only [List.drop_zero, List.take_length]; exact b.1
      · rw [show (((e_op (c0, c1, c2) inn).1.1, (e_op (c0, c1, c2) inn).1.2.1, (e_op (c0, c1, c2) inn).1.2.2.1, List.take (e_op (c0, c1, c2) inn).1.2.2.2.length (List.drop 0 (e_op (c0, c1, c2) inn).1.2.2.2)) : TOp').2.1 = inn from b.2.1]
        exact k6
      · exact out_snoc _ _ _
  have h := key (1 + r2.1).toNat (1 + r1.1) r2.2.2.1 r2.2.2.2 r2.2.1 [] b2.2.2.2 (by omega) (by omega) (by simp; omega) (by simp; omega) rfl rfl
  rw [Int.toNat_of_nonneg (by omega)] at h
  exact h
theorem s_l6Model_post (c : ((List Int) × Int × Int)) (hp : p_cur c) : q_model c (e_model c) := (Classical.epsilon_spec (s_l6Model_ex c hp)).1
theorem s_l6Model_h : s_l6Model_C := by
  intro c hp
  exact (Classical.epsilon_spec (s_l6Model_ex c hp)).2

theorem s_l6Model_ok : TRowOk Try.prog s_l6Model_row := rowOk fun x h => s_l6Model_h x.1 h

def s_l6Any_R (t : (List TOp') × (((List Int) × Int × Int))) : TRes := ⟨(.a [(.c (.sl ctOp) t.1)]), [], [[(.c (.sl [(.int .u8)]) t.2.1), (.c TI t.2.2.1), (.c TI t.2.2.2)]], true, []⟩
def e_anyModel (x0 : ((List Int) × Int × Int)) : (List TOp') × (((List Int) × Int × Int)) := Classical.epsilon fun t : (List TOp') × (((List Int) × Int × Int)) => (q_anyModel x0 t) ∧ TCon Try.prog 131 [(.bx [(.c (.sl [(.int .u8)]) x0.1), (.c TI x0.2.1), (.c TI x0.2.2)])] (s_l6Any_R t)
def s_l6Any_row : TRow := mkRow 131 [(.b [(.sl [(.int .u8)]), TI, TI])] fun x => (some (p_cur x.1), s_l6Any_R (e_anyModel x.1))
def s_l6Any_C : Prop := ∀ (x0 : ((List Int) × Int × Int)), (p_cur x0) → TCon Try.prog 131 [(.bx [(.c (.sl [(.int .u8)]) x0.1), (.c TI x0.2.1), (.c TI x0.2.2)])] (s_l6Any_R (e_anyModel x0))

/-! spec.l6Any -/
def s_l6Any_G : List TRow := [s_l6Model_row, s_l1Below_row, s_l5Any_row]
def s_l6Any_b2 : TCode :=
  (.seq (.seq (.draw [.op (some 31) (.fad (.s 3) 0),
     .op (some 32) (.load (.s 31) 1 false),
     .op (some 33) (.len (.s 32)),
     .op (some 34) (.mov (.s 0)),
     .op (some 35) (.call 116 [(.s 34), (.k (.c TI (2 : Int)))]),
     .op (some 36) (.bin .add (.k (.c TI (8 : Int))) (.s 35)),
     .op (some 37) (.bin .lss (.s 33) (.s 36))] [(0, 4), (1, 4), (2, 4)])
  (.cond (.s 37) .skip (.exit 1)))
 (.block 2 (.draw [.op (some 38) (.fad (.s 3) 0),
     .op (some 39) (.load (.s 38) 1 false),
     .op (some 40) (.fad (.s 3) 0),
     .op (some 41) (.load (.s 40) 1 false),
     .op (some 42) (.fad (.s 3) 0),
     .op (some 43) (.load (.s 42) 1 false),
     .op (some 44) (.len (.s 43)),
     .op (some 45) (.bin .sub (.s 44) (.k (.c TI (1 : Int)))),
     .op (some 46) (.iad (.s 41) (.s 45) ctOp),
     .op (some 47) (.fad (.s 46) 2),
     .op (some 48) (.load (.s 47) 1 false),
     .op (some 49) (.fad (.s 3) 0),
     .op (some 50) (.load (.s 49) 1 false),
     .op (some 51) (.fad (.s 3) 0),
     .op (some 52) (.load (.s 51) 1 false),
     .op (some 53) (.len (.s 52)),
     .op (some 54) (.bin .sub (.s 53) (.k (.c TI (1 : Int)))),
     .op (some 55) (.iad (.s 50) (.s 54) ctOp),
     .op (some 56) (.fad (.s 55) 2),
     .op (some 57) (.load (.s 56) 1 false),
     .op (some 58) (.build [(.c TI (0 : Int)), (.c TI (0 : Int)), (.c TI (0 : Int)), (.n [TI])] [(0, 1, (.k (.c TI (3 : Int)))), (1, 1, (.s 48)), (2, 1, (.s 57))]),
     .op (some 59) (.bsl 76 ctOp [(.s 58)]),
     .op (some 60) (.app (.s 39) (.s 59) 76 ctOp),
     .op (some 61) (.fad (.s 3) 0),
     .op none (.store (.s 61) (.s 60) 1)] [(0, 21), (1, 21)])))
def s_l6Any_L2 : List (Nat × Md) := [(0, .b [.d, .d, .d]), (2, .b [.d]), (3, .b [.f])]
def s_l6Any_y1 : TCode :=
  (.seq (.reg [.op (some 62) (.load (.s 3) 1 true),
    .op none (.store (.s 2) (.s 62) 1)])
 .ret)
def s_l6Any_c : TCode :=
  (.seq (.reg [.op (some 2) (.new 66 [(.n ctOp)])])
 (.seq (.reg [.op (some 5) (.mov (.s 0)),
     .op (some 6) (.call 186 [(.s 5)]),
     .op (some 3) (.new 66 [(.n ctOp)]),
     .op none (.store (.s 3) (.s 6) 1)])
  (.seq (.reg [.op (some 7) (.mov (.s 0)),
      .op (some 8) (.fad (.s 3) 0),
      .op (some 9) (.load (.s 8) 1 false),
      .op (some 10) (.len (.s 9)),
      .op (some 11) (.call 116 [(.s 7), (.s 10)]),
      .op (some 4) (.mov (.s 11))])
   (.seq (.seq (.reg [.op (some 12) (.mov (.s 0)),
        .op (some 13) (.call 116 [(.s 12), (.k (.c TI (16 : Int)))])])
     (.block 0 (.seq (.reg [.op (some 15) (.bin .eql (.s 13) (.k (.c TI (0 : Int)))),
          .op (some 14) (.mov (.s 15))])
       (.cond (.s 14) (.draw [.op (some 16) (.fad (.s 3) 0),
           .op (some 17) (.load (.s 16) 1 false),
           .op (some 18) (.mov (.s 4)),
           .op (some 19) (.mov (.s 0)),
           .op (some 20) (.call 187 [(.s 19)]),
           .op (some 21) (.iad (.s 17) (.s 18) ctOp),
           .op none (.store (.s 21) (.s 20) 4)] [(0, 4), (1, 4)]) (.seq (.reg [.op (some 23) (.bin .eql (.s 13) (.k (.c TI (1 : Int)))),
            .op (some 22) (.mov (.s 23))])
         (.cond (.s 22) (.reg [.op (some 24) (.fad (.s 3) 0),
             .op (some 25) (.load (.s 24) 1 false),
             .op (some 26) (.mov (.s 4)),
             .op (some 27) (.slc (.s 25) none (some (.s 26)) ctOp),
             .op (some 28) (.fad (.s 3) 0),
             .op none (.store (.s 28) (.s 27) 1)]) (.seq (.reg [.op (some 30) (.bin .eql (.s 13) (.k (.c TI (2 : Int)))),
              .op (some 29) (.mov (.s 30))])
           (.cond (.s 29) (.block 1 (.loop s_l6Any_L2 s_l6Any_b2)) .skip))))))))
    s_l6Any_y1))))
def s_l6Any_rs : List (ARv × Md) := [(.l 2 1 true, .b [.d])]
theorem s_l6Any_st : compF Try.prog 131 = some (s_l6Any_c.er, s_l6Any_rs.map Prod.fst, 63) := by kernel_rfl
def s_l6Any_Q (K : TRes → Prop) : TPost := TQ 1 0 s_l6Any_rs K
def s_l6Any_q1 (K : TRes → Prop) : TPost := Qseq (tawp s_l6Any_G 1 s_l6Any_y1 (s_l6Any_Q K)) (s_l6Any_Q K)
def s_l6Any_q2 (K : TRes → Prop) : TPost := Qblk 0 (s_l6Any_q1 K)
def s_l6Any_q3 (K : TRes → Prop) : TPost := Qblk 1 (s_l6Any_q2 K)
def s_l6Any_A2 (K : TRes → Prop) (c0 : List Int) (c1 : Int) (c2 : Int) (m0 : List TOp') : Prop := Loop s_l6Any_G 1 s_l6Any_L2 s_l6Any_b2 (s_l6Any_q3 K) ⟨[(0, (.p 0 0 0)), (2, (.p 1 0 0)), (3, (.p 3 0 0))], [(0, (.box [(.c (.sl [(.int .u8)]) c0), (.c TI c1), (.c TI c2)])), (1, (.box [(.c (.sl ctOp) ([]))])), (2, (.sl 76 ctOp true m0)), (3, (.box [(.r ctOp 2 0 m0.length)]))], 4⟩
theorem s_l6Any_v2 (K : TRes → Prop) (c0 : List Int) (c1 : Int) (c2 : Int) (m0 : List TOp') (h :
  ((p_cur2 (c0, c1, c2) (2 : Int)) ∧ (((decide (((m0.length : Nat) : Int) < (w64 ((8 : Int) + ((e_below (c0, c1, c2) (2 : Int)).1))))) = true → ((((0 : Int) ≤ w64 (((m0.length : Nat) : Int) - (1 : Int)) ∧ Int.toNat (w64 (((m0.length : Nat) : Int) - (1 : Int))) < m0.length) ∧ (((0 + (Int.toNat (w64 (((m0.length : Nat) : Int) - (1 : Int))))) < m0.length) ∧ (((0 : Int) ≤ w64 (((m0.length : Nat) : Int) - (1 : Int)) ∧ Int.toNat (w64 (((m0.length : Nat) : Int) - (1 : Int))) < m0.length) ∧ (((0 + (Int.toNat (w64 (((m0.length : Nat) : Int) - (1 : Int))))) < m0.length) ∧ ((m0.length = m0.length ∨ m0.length + 1 ≤ m0.length) ∧ m0.length + 1 ≤ big))))) ∧ (s_l6Any_A2 K (((e_below (c0, c1, c2) (2 : Int)).2).1) (((e_below (c0, c1, c2) (2 : Int)).2).2.1) (((e_below (c0, c1, c2) (2 : Int)).2).2.2) (List.take (m0.length + 1) ((List.take m0.length m0) ++ ([((3 : Int), (gtd dOp m0 (0 + (Int.toNat (w64 (((m0.length : Nat) : Int) - (1 : Int)))))).2.2.1, (gtd dOp m0 (0 + (Int.toNat (w64 (((m0.length : Nat) : Int) - (1 : Int)))))).2.2.1, [])])))))) ∧ ((decide (((m0.length : Nat) : Int) < (w64 ((8 : Int) + ((e_below (c0, c1, c2) (2 : Int)).1))))) = false → K (s_l6Any_R ((List.take m0.length (List.drop 0 m0)), ((e_below (c0, c1, c2) (2 : Int)).2))))))) : s_l6Any_A2 K c0 c1 c2 m0 :=
  Loop.of (by kernel_rfl) h
theorem s_l6Any_v0 (K : TRes → Prop) (c : ((List Int) × Int × Int)) (h :
  ((p_cur c) ∧ ((p_cur2 ((e_model c).2) ((((e_model c).1).length : Nat) : Int)) ∧ ((p_cur2 ((e_below ((e_model c).2) ((((e_model c).1).length : Nat) : Int)).2) (16 : Int)) ∧ (((((e_below ((e_below ((e_model c).2) ((((e_model c).1).length : Nat) : Int)).2) (16 : Int)).1) == (0 : Int)) = true → (((p_cur ((e_below ((e_below ((e_model c).2) ((((e_model c).1).length : Nat) : Int)).2) (16 : Int)).2)) ∧ (((0 : Int) ≤ (e_below ((e_model c).2) ((((e_model c).1).length : Nat) : Int)).1 ∧ Int.toNat ((e_below ((e_model c).2) ((((e_model c).1).length : Nat) : Int)).1) < ((e_model c).1).length) ∧ ((0 + (Int.toNat ((e_below ((e_model c).2) ((((e_model c).1).length : Nat) : Int)).1))) < ((e_model c).1).length))) ∧ K (s_l6Any_R ((List.take (((e_model c).1).length) (List.drop 0 (((e_model c).1).set (0 + (Int.toNat ((e_below ((e_model c).2) ((((e_model c).1).length : Nat) : Int)).1))) ((e_anyOp ((e_below ((e_below ((e_model c).2) ((((e_model c).1).length : Nat) : Int)).2) (16 : Int)).2)).1)))), ((e_anyOp ((e_below ((e_below ((e_model c).2) ((((e_model c).1).length : Nat) : Int)).2) (16 : Int)).2)).2))))) ∧ ((((e_below ((e_below ((e_model c).2) ((((e_model c).1).length : Nat) : Int)).2) (16 : Int)).1) == (0 : Int)) = false → (((((e_below ((e_below ((e_model c).2) ((((e_model c).1).length : Nat) : Int)).2) (16 : Int)).1) == (1 : Int)) = true → (((0 : Int) ≤ (0 : Int) ∧ (0 : Int) ≤ (e_below ((e_model c).2) ((((e_model c).1).length : Nat) : Int)).1 ∧ (e_below ((e_model c).2) ((((e_model c).1).length : Nat) : Int)).1 ≤ ((((e_model c).1).length : Nat) : Int)) ∧ K (s_l6Any_R ((List.take (Int.toNat ((e_below ((e_model c).2) ((((e_model c).1).length : Nat) : Int)).1) - Int.toNat (0 : Int)) (List.drop 0 ((e_model c).1))), ((e_below ((e_below ((e_model c).2) ((((e_model c).1).length : Nat) : Int)).2) (16 : Int)).2))))) ∧ ((((e_below ((e_below ((e_model c).2) ((((e_model c).1).length : Nat) : Int)).2) (16 : Int)).1) == (1 : Int)) = false → (((((e_below ((e_below ((e_model c).2) ((((e_model c).1).length : Nat) : Int)).2) (16 : Int)).1) == (2 : Int)) = true → (s_l6Any_A2 K (((e_below ((e_below ((e_model c).2) ((((e_model c).1).length : Nat) : Int)).2) (16 : Int)).2).1) (((e_below ((e_below ((e_model c).2) ((((e_model c).1).length : Nat) : Int)).2) (16 : Int)).2).2.1) (((e_below ((e_below ((e_model c).2) ((((e_model c).1).length : Nat) : Int)).2) (16 : Int)).2).2.2) (List.take (((e_model c).1).length) ((e_model c).1)))) ∧ ((((e_below ((e_below ((e_model c).2) ((((e_model c).1).length : Nat) : Int)).2) (16 : Int)).1) == (2 : Int)) = false → K (s_l6Any_R ((List.take (((e_model c).1).length) (List.drop 0 ((e_model c).1))), ((e_below ((e_below ((e_model c).2) ((((e_model c).1).length : Nat) : Int)).2) (16 : Int)).2))))))))))))) : Hold (tawp s_l6Any_G (1 + 0) s_l6Any_c (TQ 1 0 s_l6Any_rs K) (tstart [(.bx [(.c (.sl [(.int .u8)]) c.1), (.c TI c.2.1), (.c TI c.2.2)])])) :=
  Hold.of (by kernel_rfl) h
theorem s_l6Any_t (c : ((List Int) × Int × Int)) (K : TRes → Prop) (h : Hold (tawp s_l6Any_G (1 + 0) s_l6Any_c (TQ 1 0 s_l6Any_rs K) (tstart [(.bx [(.c (.sl [(.int .u8)]) c.1), (.c TI c.2.1), (.c TI c.2.2)])]))) : ∃ r, K r ∧ TCon Try.prog 131 [(.bx [(.c (.sl [(.int .u8)]) c.1), (.c TI c.2.1), (.c TI c.2.2)])] r :=
  tcon_gen_ex (sg := [(.b [(.sl [(.int .u8)]), TI, TI])]) mixed (TOk.cons s_l6Model_ok (TOk.cons s_l1Below_ok (TOk.cons s_l5Any_ok TOk.nil))) s_l6Any_st (by kernel_rfl) (by kernel_rfl) (by kernel_rfl) (by kernel_rfl) h
theorem s_l6Any_ex (c : ((List Int) × Int × Int)) (hp : p_cur c) : ∃ t : (List TOp') × (((List Int) × Int × Int)), (q_anyModel c t) ∧ TCon Try.prog 131 [(.bx [(.c (.sl [(.int .u8)]) c.1), (.c TI c.2.1), (.c TI c.2.2)])] (s_l6Any_R t) := by
  refine tex_of (s_l6Any_t c _ (s_l6Any_v0 (fun r' => ∃ t, (q_anyModel c t) ∧ r' = s_l6Any_R t) c ?_))
  have b1 := s_l6Model_post c hp
  generalize e_model c = r1 at b1 ⊢
  obtain ⟨k1, k2, k3⟩ := b1
  have k4 : 1 ≤ r1.1.length := by
    simp only [m_modelOk, Bool.and_eq_true, m_in_iff] at k1
    omega
  have b2 := s_l1Below_post r1.2 r1.1.length k3
  generalize e_below r1.2 r1.1.length = r2 at b2 ⊢
  have h1 := b2.1
  have h2 := b2.2.1 (by omega)
  have b3 := (s_l1Below_post r2.2 16 b2.2.2.2).2.2.2
  generalize e_below r2.2 16 = r3 at b3 ⊢
  refine ⟨hp, k3, b2.2.2.2, fun _ => ⟨⟨b3, ⟨h1, by omega⟩, by omega⟩, leafP ⟨?_, (s_l5Any_post _ b3).2⟩⟩, fun _ => ⟨fun _ => ⟨⟨by omega, by omega, by omega⟩, leafP ⟨?_, b3⟩⟩, fun _ => ⟨fun _ => ?_, fun _ => (leafP ⟨?_, b3⟩)⟩⟩⟩
  · simp; omega
  · simp; omega
  · rw [List.take_length]
    have key : ∀ (k : Nat) (c1 c2 : Int) (c0 : List Int) (m0 : TModel), p_cur (c0, c1, c2) → 1 ≤ m0.length → m0.length + k = 9 → s_l6Any_A2 (fun r' => ∃ t, (q_anyModel c t) ∧ r' = s_l6Any_R t) c0 c1 c2 m0 := by
      intro k
      induction k with
      | zero =>
        intro c1 c2 c0 m0 hc q1 q2
        have b := s_l1Below_post (c0, c1, c2) 2 hc
        have q3 := b.1
        have q4 := b.2.1 (by omega)
        refine s_l6Any_v2 (fun r' => ∃ t, (q_anyModel c t) ∧ r' = s_l6Any_R t) _ _ _ _ ⟨hc, fun h => ?_, fun _ => (leafP ⟨?_, b.2.2.2⟩)⟩
        · rw [w64_ok (x := 8 + _) (by omega) (by omega)] at h
          simp at h; omega
        · simp; omega
      | succ k ih =>
        intro c1 c2 c0 m0 hc q1 q2
        have b := s_l1Below_post (c0, c1, c2) 2 hc
        refine s_l6Any_v2 (fun r' => ∃ t, (q_anyModel c t) ∧ r' = s_l6Any_R t) _ _ _ _ ⟨hc, fun _ => ?_, fun _ => (leafP ⟨?_, b.2.2.2⟩)⟩
        · rw [w64_ok (x := (m0.length : Int) - 1) (by omega) (by omega)]
          refine ⟨⟨⟨by omega, by omega⟩, by omega, ⟨by omega, by omega⟩, by omega, .inl rfl, by rw [big_eq]; omega⟩, ?_⟩
          rw [take_app1]
          exact ih _ _ _ _ b.2.2.2 (by simp) (by simp; omega)
        · simp; omega
    exact key (9 - r1.1.length) _ _ _ _ b3 k4 (by omega)
  · simp; omega
theorem s_l6Any_post (c : ((List Int) × Int × Int)) (hp : p_cur c) : q_anyModel c (e_anyModel c) := (Classical.epsilon_spec (s_l6Any_ex c hp)).1
theorem s_l6Any_h : s_l6Any_C := by
  intro c hp
  exact (Classical.epsilon_spec (s_l6Any_ex c hp)).2

theorem s_l6Any_ok : TRowOk Try.prog s_l6Any_row := rowOk fun x h => s_l6Any_h x.1 h

end
end Go.Proofs.Ytephkbajoofeoaa.Am
