/-
  Written by program: the code of functions, what it asks, and that it comes to what the models say.
-/
import Derived.Test.YtephkbajoofeoaaD1
import Derived.Test.YtephkbajoofeoaaD2
import Derived.Test.YtephkbajoofeoaaM9
namespace Go.Proofs.Ytephkbajoofeoaa.Am
open Go Go.RowKit Go.Proofs.Ytephkbajoofeoaa
set_option linter.unusedVariables false
set_option linter.unusedSimpArgs false
set_option maxHeartbeats 2000000
noncomputable section

def s_l8Cuts_R (t : (List Int) × (((List Int) × Int × Int))) : TRes := ⟨(.r [TI] 0 0 ((t.1).length)), [(.sl 3 [TI] true t.1)], [[(.c (.sl [(.int .u8)]) t.2.1), (.c TI t.2.2.1), (.c TI t.2.2.2)]], true, []⟩
def e_cuts (x0 : ((List Int) × Int × Int)) (x1 : List TOp') : (List Int) × (((List Int) × Int × Int)) := Classical.epsilon fun t : (List Int) × (((List Int) × Int × Int)) => (q_cuts x0 x1 t) ∧ TCon Try.prog 188 [(.bx [(.c (.sl [(.int .u8)]) x0.1), (.c TI x0.2.1), (.c TI x0.2.2)]), (.a [(.c (.sl ctOp) x1)])] (s_l8Cuts_R t)
def s_l8Cuts_row : TRow := mkRow 188 [(.b [(.sl [(.int .u8)]), TI, TI]), (.a [(.sl ctOp)])] fun x => (some (p_cuts x.1 x.2.1), s_l8Cuts_R (e_cuts x.1 x.2.1))
def s_l8Cuts_C : Prop := ∀ (x0 : ((List Int) × Int × Int)) (x1 : List TOp'), (p_cuts x0 x1) → TCon Try.prog 188 [(.bx [(.c (.sl [(.int .u8)]) x0.1), (.c TI x0.2.1), (.c TI x0.2.2)]), (.a [(.c (.sl ctOp) x1)])] (s_l8Cuts_R (e_cuts x0 x1))

/-! spec.l8Cuts -/
def s_l8Cuts_G : List TRow := [s_l1Once_row]
def s_l8Cuts_b2 : TCode :=
  (.seq (.seq (.reg [.op (some 8) (.mov (.s 6)),
     .op (some 9) (.fad (.s 3) 0),
     .op (some 10) (.load (.s 9) 1 false),
     .op (some 11) (.len (.s 10)),
     .op (some 12) (.bin .lss (.s 8) (.s 11))])
  (.cond (.s 12) .skip (.exit 0)))
 (.seq (.block 1 (.seq (.reg [.op (some 15) (.mov (.s 0)),
       .op (some 16) (.call 136 [(.s 15), (.k (.c TI (2 : Int)))]),
       .op (some 17) (.mov (.s 16)),
       .grp 17 true [.op (some 18) (.mov (.s 5)), .op (some 19) (.len (.s 18)), .op (some 20) (.bin .lss (.s 19) (.k (.c TI (3 : Int))))] 21 (.s 20)])
    (.cond (.s 21) (.reg [.op (some 22) (.mov (.s 5)),
        .op (some 23) (.mov (.s 6)),
        .op (some 24) (.bsl 3 [TI] [(.s 23)]),
        .op (some 25) (.app (.s 22) (.s 24) 3 [TI]),
        .op (some 5) (.mov (.s 25))]) .skip)))
  (.reg [.op (some 13) (.mov (.s 6)),
     .op (some 14) (.bin .add (.s 13) (.k (.c TI (1 : Int)))),
     .op (some 6) (.mov (.s 14))])))
def s_l8Cuts_L2 : List (Nat × Md) := [(0, .b [.d, .d, .d]), (3, .b [.d]), (5, .one .f), (6, .one .d)]
def s_l8Cuts_y1 : TCode :=
  (.seq (.reg [.op (some 26) (.mov (.s 5)),
    .op (some 4) (.mov (.s 26))])
 .ret)
def s_l8Cuts_c : TCode :=
  (.seq (.reg [.op (some 3) (.box 66 (.s 1) 1),
    .op (some 4) (.mov (.k (.n [TI])))])
 (.seq (.reg [.op (some 7) (.bsl 3 [TI] []),
     .op (some 5) (.mov (.s 7))])
  (.seq (.seq (.reg [.op (some 6) (.mov (.k (.c TI (1 : Int))))])
    (.block 0 (.loop s_l8Cuts_L2 s_l8Cuts_b2)))
   s_l8Cuts_y1)))
def s_l8Cuts_rs : List (ARv × Md) := [(.t 4, .one (.o 3))]
theorem s_l8Cuts_st : compF Try.prog 188 = some (s_l8Cuts_c.er, s_l8Cuts_rs.map Prod.fst, 27) := by kernel_rfl
def s_l8Cuts_Q (K : TRes → Prop) : TPost := TQ 1 0 s_l8Cuts_rs K
def s_l8Cuts_q1 (K : TRes → Prop) : TPost := Qseq (tawp s_l8Cuts_G 1 s_l8Cuts_y1 (s_l8Cuts_Q K)) (s_l8Cuts_Q K)
def s_l8Cuts_q2 (K : TRes → Prop) : TPost := Qblk 0 (s_l8Cuts_q1 K)
def s_l8Cuts_A2 (K : TRes → Prop) (m : List TOp') (i : Int) (c0 : List Int) (c1 : Int) (c2 : Int) (out : List Int) : Prop := Loop s_l8Cuts_G 1 s_l8Cuts_L2 s_l8Cuts_b2 (s_l8Cuts_q2 K) ⟨[(0, (.p 0 0 0)), (3, (.p 1 0 0)), (5, (.r [TI] 2 0 out.length)), (6, (.c TI i))], [(0, (.box [(.c (.sl [(.int .u8)]) c0), (.c TI c1), (.c TI c2)])), (1, (.box [(.c (.sl ctOp) m)])), (2, (.sl 3 [TI] true out))], 3⟩
theorem s_l8Cuts_v2 (K : TRes → Prop) (m : List TOp') (i : Int) (c0 : List Int) (c1 : Int) (c2 : Int) (out : List Int) (h :
  (((decide (i < (m.length : Int))) = true → ((p_cur2 (c0, c1, c2) (2 : Int)) ∧ (((((e_once (c0, c1, c2) (2 : Int)).1) && (decide (((out.length : Nat) : Int) < (3 : Int)))) = true → (((out.length = out.length ∨ out.length + 1 ≤ out.length) ∧ out.length + 1 ≤ big) ∧ (s_l8Cuts_A2 K m (w64 (i + (1 : Int))) (((e_once (c0, c1, c2) (2 : Int)).2).1) (((e_once (c0, c1, c2) (2 : Int)).2).2.1) (((e_once (c0, c1, c2) (2 : Int)).2).2.2) (List.take (out.length + 1) ((List.take out.length out) ++ ([i])))))) ∧ ((((e_once (c0, c1, c2) (2 : Int)).1) && (decide (((out.length : Nat) : Int) < (3 : Int)))) = false → (s_l8Cuts_A2 K m (w64 (i + (1 : Int))) (((e_once (c0, c1, c2) (2 : Int)).2).1) (((e_once (c0, c1, c2) (2 : Int)).2).2.1) (((e_once (c0, c1, c2) (2 : Int)).2).2.2) (List.take out.length out)))))) ∧ ((decide (i < (m.length : Int))) = false → K (s_l8Cuts_R ((List.take out.length out), (c0, c1, c2)))))) : s_l8Cuts_A2 K m i c0 c1 c2 out :=
  Loop.of (by kernel_rfl) h
theorem s_l8Cuts_v0 (K : TRes → Prop) (c : ((List Int) × Int × Int)) (m : List TOp') (h :
  (s_l8Cuts_A2 K m (1 : Int) c.1 c.2.1 c.2.2 ([] : List Int))) : Hold (tawp s_l8Cuts_G (1 + 0) s_l8Cuts_c (TQ 1 0 s_l8Cuts_rs K) (tstart [(.bx [(.c (.sl [(.int .u8)]) c.1), (.c TI c.2.1), (.c TI c.2.2)]), (.a [(.c (.sl ctOp) m)])])) :=
  Hold.of (by kernel_rfl) h
theorem s_l8Cuts_t (c : ((List Int) × Int × Int)) (m : List TOp') (K : TRes → Prop) (h : Hold (tawp s_l8Cuts_G (1 + 0) s_l8Cuts_c (TQ 1 0 s_l8Cuts_rs K) (tstart [(.bx [(.c (.sl [(.int .u8)]) c.1), (.c TI c.2.1), (.c TI c.2.2)]), (.a [(.c (.sl ctOp) m)])]))) : ∃ r, K r ∧ TCon Try.prog 188 [(.bx [(.c (.sl [(.int .u8)]) c.1), (.c TI c.2.1), (.c TI c.2.2)]), (.a [(.c (.sl ctOp) m)])] r :=
  tcon_gen_ex (sg := [(.b [(.sl [(.int .u8)]), TI, TI]), (.a [(.sl ctOp)])]) mixed (TOk.cons s_l1Once_ok TOk.nil) s_l8Cuts_st (by kernel_rfl) (by kernel_rfl) (by kernel_rfl) (by kernel_rfl) h
theorem s_l8Cuts_ex (c : ((List Int) × Int × Int)) (m : List TOp') (hp : p_cuts c m) : ∃ t : (List Int) × (((List Int) × Int × Int)), (q_cuts c m t) ∧ TCon Try.prog 188 [(.bx [(.c (.sl [(.int .u8)]) c.1), (.c TI c.2.1), (.c TI c.2.2)]), (.a [(.c (.sl ctOp) m)])] (s_l8Cuts_R t) := by
  refine tex_of (s_l8Cuts_t c m _ (s_l8Cuts_v0 (fun r' => ∃ t, (q_cuts c m t) ∧ r' = s_l8Cuts_R t) c m ?_))
  obtain ⟨h1, h2⟩ := hp
  refine upLoop (m.length - 1) (fun k => ∀ (c0 : List Int) (c1 c2 : Int) (out : List Int), p_cur (c0, c1, c2) → cutsGo (k : Int) none out = true → out.length ≤ 3 → s_l8Cuts_A2 (fun r' => ∃ t, (q_cuts c m t) ∧ r' = s_l8Cuts_R t) m ((k : Int) + 1) c0 c1 c2 out) ?_ ?_ c.1 c.2.1 c.2.2 [] h1 rfl (by simp)
  · intro c0 c1 c2 out hc hg hl
    refine s_l8Cuts_v2 (fun r' => ∃ t, (q_cuts c m t) ∧ r' = s_l8Cuts_R t) m _ _ _ _ _ ⟨fun h => by simp at h; omega, fun _ => (leafP ⟨fun hm => ?_, ?_, hc⟩)⟩
    · have hm' := hm
      simp only [m_modelOk, Bool.and_eq_true, m_in_iff] at hm'
      simp only [List.take_length, m_cutsOk, hm, Bool.true_and]
      rw [show (m.length : Int) - 1 = ((m.length - 1 : Nat) : Int) by omega]
      exact hg
    · simp only [List.take_length]; exact hl
  · intro k hk ih c0 c1 c2 out hc hg hl
    have b := s_l1Once_post (c0, c1, c2) 2 hc
    have e : w64 ((k : Int) + 1 + 1) = ((k + 1 : Nat) : Int) + 1 := by rw [w64_ok (by omega) (by omega)]; omega
    refine s_l8Cuts_v2 (fun r' => ∃ t, (q_cuts c m t) ∧ r' = s_l8Cuts_R t) m _ _ _ _ _ ⟨fun _ => ⟨hc, fun h => ⟨⟨.inl rfl, by rw [big_eq]; omega⟩, ?_⟩, fun _ => ?_⟩, fun h => by simp at h; omega⟩
    · rw [take_app1, e]
      simp only [Bool.and_eq_true, decide_eq_true_eq] at h
      have hh := cuts_snoc (i := (k : Int) + 1) (by omega) out none (cuts_mono (by omega) _ _ hg) rfl
      refine ih _ _ _ _ b ?_ (by simp; omega)
      rw [show ((k + 1 : Nat) : Int) = (k : Int) + 1 by omega]
      exact hh
    · rw [List.take_length, e]
      exact ih _ _ _ _ b (cuts_mono (by omega) _ _ hg) hl
theorem s_l8Cuts_post (c : ((List Int) × Int × Int)) (m : List TOp') (hp : p_cuts c m) : q_cuts c m (e_cuts c m) := (Classical.epsilon_spec (s_l8Cuts_ex c m hp)).1
theorem s_l8Cuts_h : s_l8Cuts_C := by
  intro c m hp
  exact (Classical.epsilon_spec (s_l8Cuts_ex c m hp)).2

theorem s_l8Cuts_ok : TRowOk Try.prog s_l8Cuts_row := rowOk fun x h => s_l8Cuts_h x.1 x.2.1 h

def s_l8Any_R (t : (List Int) × (((List Int) × Int × Int))) : TRes := ⟨(.c (.sl [TI]) t.1), [], [[(.c (.sl [(.int .u8)]) t.2.1), (.c TI t.2.2.1), (.c TI t.2.2.2)]], true, []⟩
def e_anyCuts (x0 : ((List Int) × Int × Int)) (x1 : List TOp') : (List Int) × (((List Int) × Int × Int)) := Classical.epsilon fun t : (List Int) × (((List Int) × Int × Int)) => (q_anyCuts x0 x1 t) ∧ TCon Try.prog 132 [(.bx [(.c (.sl [(.int .u8)]) x0.1), (.c TI x0.2.1), (.c TI x0.2.2)]), (.a [(.c (.sl ctOp) x1)])] (s_l8Any_R t)
def s_l8Any_row : TRow := mkRow 132 [(.b [(.sl [(.int .u8)]), TI, TI]), (.a [(.sl ctOp)])] fun x => (some (p_cuts x.1 x.2.1), s_l8Any_R (e_anyCuts x.1 x.2.1))
def s_l8Any_C : Prop := ∀ (x0 : ((List Int) × Int × Int)) (x1 : List TOp'), (p_cuts x0 x1) → TCon Try.prog 132 [(.bx [(.c (.sl [(.int .u8)]) x0.1), (.c TI x0.2.1), (.c TI x0.2.2)]), (.a [(.c (.sl ctOp) x1)])] (s_l8Any_R (e_anyCuts x0 x1))

/-! spec.l8Any -/
def s_l8Any_G : List TRow := [s_l8Cuts_row, s_l1Once_row, s_l1Below_row]
def s_l8Any_c : TCode :=
  (.seq (.reg [.op (some 3) (.box 66 (.s 1) 1),
    .op (some 4) (.mov (.k (.n [TI])))])
 (.seq (.reg [.op (some 6) (.mov (.s 0)),
     .op (some 7) (.load (.s 3) 1 true),
     .op (some 8) (.call 188 [(.s 6), (.s 7)]),
     .op (some 5) (.mov (.s 8))])
  (.seq (.seq (.reg [.op (some 9) (.mov (.s 0)),
       .op (some 10) (.call 136 [(.s 9), (.k (.c TI (12 : Int)))])])
    (.cond (.s 10) (.reg [.op (some 11) (.mov (.s 5)),
        .op (some 12) (.mov (.s 0)),
        .op (some 13) (.call 116 [(.s 12), (.k (.c TI (9 : Int)))]),
        .op (some 14) (.bin .sub (.s 13) (.k (.c TI (1 : Int)))),
        .op (some 15) (.bsl 3 [TI] [(.s 14)]),
        .op (some 16) (.app (.s 11) (.s 15) 3 [TI]),
        .op (some 5) (.mov (.s 16))]) .skip))
   (.seq (.reg [.op (some 17) (.mov (.s 5)),
       .op (some 4) (.mov (.s 17))])
    .ret))))
def s_l8Any_rs : List (ARv × Md) := [(.t 4, .one .d)]
theorem s_l8Any_st : compF Try.prog 132 = some (s_l8Any_c.er, s_l8Any_rs.map Prod.fst, 18) := by kernel_rfl
def s_l8Any_Q (K : TRes → Prop) : TPost := TQ 1 0 s_l8Any_rs K
theorem s_l8Any_v0 (K : TRes → Prop) (c : ((List Int) × Int × Int)) (m : List TOp') (h :
  ((p_cuts c m) ∧ ((p_cur2 ((e_cuts c m).2) (12 : Int)) ∧ (((e_once ((e_cuts c m).2) (12 : Int)).1 = true → (((p_cur2 ((e_once ((e_cuts c m).2) (12 : Int)).2) (9 : Int)) ∧ ((((e_cuts c m).1).length = ((e_cuts c m).1).length ∨ ((e_cuts c m).1).length + 1 ≤ ((e_cuts c m).1).length) ∧ ((e_cuts c m).1).length + 1 ≤ big)) ∧ K (s_l8Any_R ((List.take (((e_cuts c m).1).length + 1) (List.drop 0 ((List.take (((e_cuts c m).1).length) ((e_cuts c m).1)) ++ ([w64 (((e_below ((e_once ((e_cuts c m).2) (12 : Int)).2) (9 : Int)).1) - (1 : Int))])))), ((e_below ((e_once ((e_cuts c m).2) (12 : Int)).2) (9 : Int)).2))))) ∧ ((e_once ((e_cuts c m).2) (12 : Int)).1 = false → K (s_l8Any_R ((List.take (((e_cuts c m).1).length) (List.drop 0 ((e_cuts c m).1))), ((e_once ((e_cuts c m).2) (12 : Int)).2)))))))) : Hold (tawp s_l8Any_G (1 + 0) s_l8Any_c (TQ 1 0 s_l8Any_rs K) (tstart [(.bx [(.c (.sl [(.int .u8)]) c.1), (.c TI c.2.1), (.c TI c.2.2)]), (.a [(.c (.sl ctOp) m)])])) :=
  Hold.of (by kernel_rfl) h
theorem s_l8Any_t (c : ((List Int) × Int × Int)) (m : List TOp') (K : TRes → Prop) (h : Hold (tawp s_l8Any_G (1 + 0) s_l8Any_c (TQ 1 0 s_l8Any_rs K) (tstart [(.bx [(.c (.sl [(.int .u8)]) c.1), (.c TI c.2.1), (.c TI c.2.2)]), (.a [(.c (.sl ctOp) m)])]))) : ∃ r, K r ∧ TCon Try.prog 132 [(.bx [(.c (.sl [(.int .u8)]) c.1), (.c TI c.2.1), (.c TI c.2.2)]), (.a [(.c (.sl ctOp) m)])] r :=
  tcon_gen_ex (sg := [(.b [(.sl [(.int .u8)]), TI, TI]), (.a [(.sl ctOp)])]) mixed (TOk.cons s_l8Cuts_ok (TOk.cons s_l1Once_ok (TOk.cons s_l1Below_ok TOk.nil))) s_l8Any_st (by kernel_rfl) (by kernel_rfl) (by kernel_rfl) (by kernel_rfl) h
theorem s_l8Any_ex (c : ((List Int) × Int × Int)) (m : List TOp') (hp : p_cuts c m) : ∃ t : (List Int) × (((List Int) × Int × Int)), (q_anyCuts c m t) ∧ TCon Try.prog 132 [(.bx [(.c (.sl [(.int .u8)]) c.1), (.c TI c.2.1), (.c TI c.2.2)]), (.a [(.c (.sl ctOp) m)])] (s_l8Any_R t) := by
  refine tex_of (s_l8Any_t c m _ (s_l8Any_v0 (fun r' => ∃ t, (q_anyCuts c m t) ∧ r' = s_l8Any_R t) c m ?_))
  have b1 := s_l8Cuts_post c m hp
  generalize e_cuts c m = r1 at b1 ⊢
  obtain ⟨k1, k2, k3⟩ := b1
  have b2 := s_l1Once_post r1.2 12 k3
  generalize e_once r1.2 12 = r2 at b2 ⊢
  refine ⟨hp, k3, fun _ => ⟨⟨b2, .inl rfl, by rw [big_eq]; omega⟩, leafP ⟨?_, (s_l1Below_post _ _ b2).2.2.2⟩⟩, fun _ => (leafP ⟨?_, b2⟩)⟩ <;> (simp; omega)
theorem s_l8Any_post (c : ((List Int) × Int × Int)) (m : List TOp') (hp : p_cuts c m) : q_anyCuts c m (e_anyCuts c m) := (Classical.epsilon_spec (s_l8Any_ex c m hp)).1
theorem s_l8Any_h : s_l8Any_C := by
  intro c m hp
  exact (Classical.epsilon_spec (s_l8Any_ex c m hp)).2

theorem s_l8Any_ok : TRowOk Try.prog s_l8Any_row := rowOk fun x h => s_l8Any_h x.1 x.2.1 h

def s_DrawCutsOk_R (t : (List TOp') × (List Int)) : TRes := ⟨(.tp [(.a [(.c (.sl ctOp) t.1)]), (.c (.sl [TI]) t.2)]), [], [], true, []⟩
def e_drawCutsOk (x0 : List Int) : (List TOp') × (List Int) := Classical.epsilon fun t : (List TOp') × (List Int) => (q_drawCutsOk x0 t) ∧ TCon Try.prog 46 [(.c (.sl [(.int .u8)]) x0)] (s_DrawCutsOk_R t)
def s_DrawCutsOk_row : TRow := mkRow 46 [(.c (.sl [(.int .u8)]))] fun x => (some (p_new x.1), s_DrawCutsOk_R (e_drawCutsOk x.1))
def s_DrawCutsOk_C : Prop := ∀ (x0 : List Int), (p_new x0) → TCon Try.prog 46 [(.c (.sl [(.int .u8)]) x0)] (s_DrawCutsOk_R (e_drawCutsOk x0))

/-! spec.DrawCutsOk -/
def s_DrawCutsOk_G : List TRow := [s_l1New_row, s_l6Any_row, s_l8Any_row]
def s_DrawCutsOk_c : TCode :=
  (.seq (.reg [.op (some 2) (.new 66 [(.n ctOp)]),
    .op (some 3) (.mov (.k (.n [TI])))])
 (.seq (.reg [.op (some 6) (.mov (.s 0)),
     .op (some 7) (.call 114 [(.s 6)]),
     .op (some 4) (.mov (.s 7))])
  (.seq (.reg [.op (some 8) (.mov (.s 4)),
      .op (some 9) (.call 131 [(.s 8)]),
      .op (some 5) (.new 66 [(.n ctOp)]),
      .op none (.store (.s 5) (.s 9) 1)])
   (.seq (.draw [.op (some 10) (.load (.s 5) 1 true),
       .op (some 11) (.mov (.s 4)),
       .op (some 12) (.load (.s 5) 1 true),
       .op (some 13) (.call 132 [(.s 11), (.s 12)]),
       .op none (.store (.s 2) (.s 10) 1),
       .op (some 3) (.mov (.s 13))] [(0, 3)])
    .ret))))
def s_DrawCutsOk_rs : List (ARv × Md) := [(.l 2 1 true, .b [.d]), (.t 3, .one .d)]
theorem s_DrawCutsOk_st : compF Try.prog 46 = some (s_DrawCutsOk_c.er, s_DrawCutsOk_rs.map Prod.fst, 14) := by kernel_rfl
def s_DrawCutsOk_Q (K : TRes → Prop) : TPost := TQ 0 0 s_DrawCutsOk_rs K
theorem s_DrawCutsOk_v0 (K : TRes → Prop) (code : List Int) (h :
  ((p_new code) ∧ ((p_cur (e_new code)) ∧ ((p_cuts ((e_anyModel (e_new code)).2) ((e_anyModel (e_new code)).1)) ∧ K (s_DrawCutsOk_R ((e_anyModel (e_new code)).1, (e_anyCuts ((e_anyModel (e_new code)).2) ((e_anyModel (e_new code)).1)).1)))))) : Hold (tawp s_DrawCutsOk_G (0 + 0) s_DrawCutsOk_c (TQ 0 0 s_DrawCutsOk_rs K) (tstart [(.c (.sl [(.int .u8)]) code)])) :=
  Hold.of (by kernel_rfl) h
theorem s_DrawCutsOk_t (code : List Int) (K : TRes → Prop) (h : Hold (tawp s_DrawCutsOk_G (0 + 0) s_DrawCutsOk_c (TQ 0 0 s_DrawCutsOk_rs K) (tstart [(.c (.sl [(.int .u8)]) code)]))) : ∃ r, K r ∧ TCon Try.prog 46 [(.c (.sl [(.int .u8)]) code)] r :=
  tcon_gen_ex (sg := [(.c (.sl [(.int .u8)]))]) mixed (TOk.cons s_l1New_ok (TOk.cons s_l6Any_ok (TOk.cons s_l8Any_ok TOk.nil))) s_DrawCutsOk_st (by kernel_rfl) (by kernel_rfl) (by kernel_rfl) (by kernel_rfl) h
theorem s_DrawCutsOk_ex (code : List Int) (hp : p_new code) : ∃ t : (List TOp') × (List Int), (q_drawCutsOk code t) ∧ TCon Try.prog 46 [(.c (.sl [(.int .u8)]) code)] (s_DrawCutsOk_R t) := by
  refine tex_of (s_DrawCutsOk_t code _ (s_DrawCutsOk_v0 (fun r' => ∃ t, (q_drawCutsOk code t) ∧ r' = s_DrawCutsOk_R t) code ?_))
  have b1 := s_l6Any_post _ (s_l1New_post code hp)
  have hc : p_cuts (e_anyModel (e_new code)).2 (e_anyModel (e_new code)).1 := ⟨b1.2, b1.1⟩
  exact ⟨hp, s_l1New_post code hp, hc, leafP b1.1⟩
theorem s_DrawCutsOk_post (code : List Int) (hp : p_new code) : q_drawCutsOk code (e_drawCutsOk code) := (Classical.epsilon_spec (s_DrawCutsOk_ex code hp)).1
theorem s_DrawCutsOk_h : s_DrawCutsOk_C := by
  intro code hp
  exact (Classical.epsilon_spec (s_DrawCutsOk_ex code hp)).2

theorem s_DrawCutsOk_ok : TRowOk Try.prog s_DrawCutsOk_row := rowOk fun x h => s_DrawCutsOk_h x.1 h

def s_DrawBestCuts_R (t : (List TOp') × Int) : TRes := ⟨(.tp [(.a [(.c (.sl ctOp) t.1)]), (.c TI t.2)]), [], [], true, []⟩
def e_drawBestCuts (x0 : List Int) : (List TOp') × Int := Classical.epsilon fun t : (List TOp') × Int => (q_drawBestCuts x0 t) ∧ TCon Try.prog 58 [(.c (.sl [(.int .u8)]) x0)] (s_DrawBestCuts_R t)
def s_DrawBestCuts_row : TRow := mkRow 58 [(.c (.sl [(.int .u8)]))] fun x => (some (p_new x.1), s_DrawBestCuts_R (e_drawBestCuts x.1))
def s_DrawBestCuts_C : Prop := ∀ (x0 : List Int), (p_new x0) → TCon Try.prog 58 [(.c (.sl [(.int .u8)]) x0)] (s_DrawBestCuts_R (e_drawBestCuts x0))

/-! spec.DrawBestCuts -/
def s_DrawBestCuts_G : List TRow := [s_l1New_row, s_l6Any_row, s_l1Below_row]
def s_DrawBestCuts_c : TCode :=
  (.seq (.reg [.op (some 2) (.new 66 [(.n ctOp)]),
    .op (some 3) (.mov (.k (.c TI (0 : Int))))])
 (.seq (.reg [.op (some 6) (.mov (.s 0)),
     .op (some 7) (.call 114 [(.s 6)]),
     .op (some 4) (.mov (.s 7))])
  (.seq (.reg [.op (some 8) (.mov (.s 4)),
      .op (some 9) (.call 131 [(.s 8)]),
      .op (some 5) (.new 66 [(.n ctOp)]),
      .op none (.store (.s 5) (.s 9) 1)])
   (.seq (.draw [.op (some 10) (.load (.s 5) 1 true),
       .op (some 11) (.mov (.s 4)),
       .op (some 12) (.call 116 [(.s 11), (.k (.c TI (6 : Int)))]),
       .op none (.store (.s 2) (.s 10) 1),
       .op (some 3) (.mov (.s 12))] [(0, 2)])
    .ret))))
def s_DrawBestCuts_rs : List (ARv × Md) := [(.l 2 1 true, .b [.d]), (.t 3, .one .d)]
theorem s_DrawBestCuts_st : compF Try.prog 58 = some (s_DrawBestCuts_c.er, s_DrawBestCuts_rs.map Prod.fst, 13) := by kernel_rfl
def s_DrawBestCuts_Q (K : TRes → Prop) : TPost := TQ 0 0 s_DrawBestCuts_rs K
theorem s_DrawBestCuts_v0 (K : TRes → Prop) (code : List Int) (h :
  ((p_new code) ∧ ((p_cur (e_new code)) ∧ ((p_cur2 ((e_anyModel (e_new code)).2) (6 : Int)) ∧ K (s_DrawBestCuts_R ((e_anyModel (e_new code)).1, (e_below ((e_anyModel (e_new code)).2) (6 : Int)).1)))))) : Hold (tawp s_DrawBestCuts_G (0 + 0) s_DrawBestCuts_c (TQ 0 0 s_DrawBestCuts_rs K) (tstart [(.c (.sl [(.int .u8)]) code)])) :=
  Hold.of (by kernel_rfl) h
theorem s_DrawBestCuts_t (code : List Int) (K : TRes → Prop) (h : Hold (tawp s_DrawBestCuts_G (0 + 0) s_DrawBestCuts_c (TQ 0 0 s_DrawBestCuts_rs K) (tstart [(.c (.sl [(.int .u8)]) code)]))) : ∃ r, K r ∧ TCon Try.prog 58 [(.c (.sl [(.int .u8)]) code)] r :=
  tcon_gen_ex (sg := [(.c (.sl [(.int .u8)]))]) mixed (TOk.cons s_l1New_ok (TOk.cons s_l6Any_ok (TOk.cons s_l1Below_ok TOk.nil))) s_DrawBestCuts_st (by kernel_rfl) (by kernel_rfl) (by kernel_rfl) (by kernel_rfl) h
theorem s_DrawBestCuts_ex (code : List Int) (hp : p_new code) : ∃ t : (List TOp') × Int, (q_drawBestCuts code t) ∧ TCon Try.prog 58 [(.c (.sl [(.int .u8)]) code)] (s_DrawBestCuts_R t) := by
  refine tex_of (s_DrawBestCuts_t code _ (s_DrawBestCuts_v0 (fun r' => ∃ t, (q_drawBestCuts code t) ∧ r' = s_DrawBestCuts_R t) code ?_))
  have b1 := s_l6Any_post _ (s_l1New_post code hp)
  exact ⟨hp, s_l1New_post code hp, b1.2, leafP b1.1⟩
theorem s_DrawBestCuts_post (code : List Int) (hp : p_new code) : q_drawBestCuts code (e_drawBestCuts code) := (Classical.epsilon_spec (s_DrawBestCuts_ex code hp)).1
theorem s_DrawBestCuts_h : s_DrawBestCuts_C := by
  intro code hp
  exact (Classical.epsilon_spec (s_DrawBestCuts_ex code hp)).2

theorem s_DrawBestCuts_ok : TRowOk Try.prog s_DrawBestCuts_row := rowOk fun x h => s_DrawBestCuts_h x.1 h

end
end Go.Proofs.Ytephkbajoofeoaa.Am
