/-
  Written by program: the code of functions, what it asks, and that it comes to what the models say.
-/
import Derived.Test.YtephkbajoofeoaaPF
import Derived.Test.YtephkbajoofeoaaP2
import Derived.Test.YtephkbajoofeoaaP1
import Derived.Test.YtephkbajoofeoaaM9
namespace Go.Proofs.Ytephkbajoofeoaa.Am
open Go Go.RowKit Go.Proofs.Ytephkbajoofeoaa
set_option linter.unusedVariables false
set_option linter.unusedSimpArgs false
noncomputable section

def i_copyQueue_R (t : TQueue) : TRes := ⟨(.a [(.c TI t.1), (.r ctItem 0 0 ((t.2).length))]), [(.sl 39 ctItem true t.2)], [], true, []⟩
def i_copyQueue_row : TRow := mkRow 118 [(.a ctQueue)] fun x => (some (p_lim (α := TQueue) x.1), i_copyQueue_R (id (α := TQueue) x.1))
def i_copyQueue_C : Prop := ∀ (x0 : TQueue), (p_lim (α := TQueue) x0) → TCon Try.prog 118 [(.a [(.c TI x0.1), (.c (.sl ctItem) x0.2)])] (i_copyQueue_R (id (α := TQueue) x0))

/-! impl.copyQueue -/
def i_copyQueue_G : List TRow := [i_copyInts_row]
def i_copyQueue_b2 : TCode :=
  (.seq (.reg [.op (some 13) (.bin .lss (.s 12) (.s 11))])
 (.seq (.cond (.s 13) .skip (.exit 0))
  (.seq (.block 1 (.seq (.reg [.op (some 14) (.iad (.s 10) (.s 12) ctItem),
        .op (some 15) (.load (.s 14) 2 true),
        .op (some 5) (.new 39 [(.c TI (0 : Int)), (.n [TI])]),
        .op none (.store (.s 5) (.s 15) 2)])
     (.draw [.op (some 16) (.fad (.s 3) 1),
        .op (some 17) (.load (.s 16) 1 false),
        .op (some 18) (.fad (.s 5) 0),
        .op (some 19) (.load (.s 18) 1 false),
        .op (some 20) (.fad (.s 5) 1),
        .op (some 21) (.load (.s 20) 1 false),
        .op (some 22) (.call 121 [(.s 21)]),
        .op (some 23) (.build [(.c TI (0 : Int)), (.n [TI])] [(0, 1, (.s 19)), (1, 1, (.s 22))]),
        .op (some 24) (.bsl 39 ctItem [(.s 23)]),
        .op (some 25) (.app (.s 17) (.s 24) 39 ctItem),
        .op (some 26) (.fad (.s 3) 1),
        .op none (.store (.s 26) (.s 25) 1)] [(0, 6), (1, 6), (2, 6), (3, 6), (0, 8), (1, 8)])))
   (.reg [.op (some 27) (.bin .add (.s 12) (.k (.c TI (1 : Int)))),
      .op (some 12) (.mov (.s 27))]))))
def i_copyQueue_L2 : List (Nat × Md) := [(2, .b [.d, .d]), (3, .b [.d, .o 39]), (10, .one .d), (11, .one .d), (12, .one .d)]
def i_copyQueue_y1 : TCode :=
  (.seq (.reg [.op (some 28) (.load (.s 3) 2 true),
    .op none (.store (.s 2) (.s 28) 2)])
 .ret)
def i_copyQueue_c : TCode :=
  (.seq (.reg [.op (some 1) (.box 36 (.s 0) 2),
    .op (some 2) (.new 36 [(.c TI (0 : Int)), (.n ctItem)])])
 (.seq (.reg [.op (some 6) (.fad (.s 1) 0),
     .op (some 7) (.load (.s 6) 1 false),
     .op (some 8) (.build [(.c TI (0 : Int)), (.n ctItem)] [(0, 1, (.s 7))]),
     .op (some 3) (.new 36 [(.c TI (0 : Int)), (.n ctItem)]),
     .op none (.store (.s 3) (.s 8) 2)])
  (.seq (.seq (.reg [.op (some 9) (.fad (.s 1) 1),
       .op (some 10) (.load (.s 9) 1 false),
       .op (some 11) (.len (.s 10)),
       .op (some 12) (.mov (.k (.c TI (0 : Int))))])
    (.block 0 (.loop i_copyQueue_L2 i_copyQueue_b2)))
   i_copyQueue_y1)))
def i_copyQueue_rs : List (ARv × Md) := [(.l 2 2 true, .b [.d, .o 39])]
theorem i_copyQueue_st : compF Try.prog 118 = some (i_copyQueue_c.er, i_copyQueue_rs.map Prod.fst, 29) := by kernel_rfl
def i_copyQueue_Q (K : TRes → Prop) : TPost := TQ 0 0 i_copyQueue_rs K
def i_copyQueue_q1 (K : TRes → Prop) : TPost := Qseq (tawp i_copyQueue_G 0 i_copyQueue_y1 (i_copyQueue_Q K)) (i_copyQueue_Q K)
def i_copyQueue_q2 (K : TRes → Prop) : TPost := Qblk 0 (i_copyQueue_q1 K)
def i_copyQueue_A2 (K : TRes → Prop) (q : TQueue) (x : Int) (r1 : List TItem) : Prop := Loop i_copyQueue_G 0 i_copyQueue_L2 i_copyQueue_b2 (i_copyQueue_q2 K) ⟨[(2, (.p 0 0 0)), (3, (.p 2 0 0)), (10, (.c (.sl ctItem) q.2)), (11, (.c TI ((q.2).length : Int))), (12, (.c TI x))], [(0, (.box [(.c TI (0 : Int)), (.c (.sl ctItem) ([]))])), (1, (.sl 39 ctItem true r1)), (2, (.box [(.c TI q.1), (.r ctItem 1 0 r1.length)]))], 3⟩
theorem i_copyQueue_v2 (K : TRes → Prop) (q : TQueue) (x : Int) (r1 : List TItem) (h :
  (((decide (x < ((q.2).length : Int))) = true → (((0 : Int) ≤ x ∧ Int.toNat x < (q.2).length) ∧ (((p_lim (α := List Int) ((gtd ((0, []) : TItem) q.2 (Int.toNat x)).2)) ∧ ((r1.length = r1.length ∨ r1.length + 1 ≤ r1.length) ∧ r1.length + 1 ≤ big)) ∧ (i_copyQueue_A2 K q (w64 (x + (1 : Int))) (List.take (r1.length + 1) ((List.take r1.length r1) ++ ([((gtd ((0, []) : TItem) q.2 (Int.toNat x)).1, (List.take ((id (α := List Int) ((gtd ((0, []) : TItem) q.2 (Int.toNat x)).2)).length) (List.drop 0 (id (α := List Int) ((gtd ((0, []) : TItem) q.2 (Int.toNat x)).2)))))]))))))) ∧ ((decide (x < ((q.2).length : Int))) = false → K (i_copyQueue_R (q.1, (List.take r1.length r1)))))) : i_copyQueue_A2 K q x r1 :=
  Loop.of (by kernel_rfl) h
theorem i_copyQueue_v0 (K : TRes → Prop) (q : TQueue) (h :
  (i_copyQueue_A2 K q (0 : Int) ([] : List TItem))) : Hold (tawp i_copyQueue_G (0 + 0) i_copyQueue_c (TQ 0 0 i_copyQueue_rs K) (tstart [(.a [(.c TI q.1), (.c (.sl ctItem) q.2)])])) :=
  Hold.of (by kernel_rfl) h
theorem i_copyQueue_t (q : TQueue) (r : TRes) (h : Hold (tawp i_copyQueue_G (0 + 0) i_copyQueue_c (TQ 0 0 i_copyQueue_rs fun r' => r' = r) (tstart [(.a [(.c TI q.1), (.c (.sl ctItem) q.2)])]))) : TCon Try.prog 118 [(.a [(.c TI q.1), (.c (.sl ctItem) q.2)])] r :=
  tcon_gen (sg := [(.a ctQueue)]) mixed (TOk.cons i_copyInts_ok TOk.nil) i_copyQueue_st (by kernel_rfl) (by kernel_rfl) (by kernel_rfl) (by kernel_rfl) h
theorem i_copyQueue_h : i_copyQueue_C := by
  intro q hp
  refine tcon_bd rfl fun hb => i_copyQueue_t q _ (i_copyQueue_v0 _ q ?_)
  have hl_q_1 : (q.2).length ≤ 9223372036854775807 := hb.1.2.1.1
  unfold p_lim at hp
  simp only [sz_prod, sz_int] at hp
  refine cpLoop (l := q.2) (Q := fun z => i_copyQueue_R (q.1, z) = i_copyQueue_R (id (α := TQueue) q)) (by omega) (fun k x v hk hl hg hv hx ih => ?_) (fun hq => ?_) (R_eq rfl)
  · refine i_copyQueue_v2 (fun r' => r' = i_copyQueue_R (id (α := TQueue) q)) q _ _ ⟨fun _ => ?_, fun h => by simp at h; omega⟩
    simp only [sz_prod, sz_int] at hx
    rw [Int.toNat_natCast, hg, sc1 (by omega), take_app1, take_id0]
    exact ⟨⟨by omega, hk⟩, ⟨(show Sz.sz (_ : List Int) ≤ 2147483648 by omega), room (by omega)⟩, ih⟩
  · refine i_copyQueue_v2 (fun r' => r' = i_copyQueue_R (id (α := TQueue) q)) q _ _ ⟨fun h => by simp at h, fun _ => ?_⟩
    rw [List.take_length]; exact hq

theorem i_copyQueue_ok : TRowOk Try.prog i_copyQueue_row := rowOk fun x h => i_copyQueue_h x.1 h

def s_l10Copy_R (t : TQueue) : TRes := ⟨(.a [(.c TI t.1), (.r ctItem 0 0 ((t.2).length))]), [(.sl 39 ctItem true t.2)], [], true, []⟩
def s_l10Copy_row : TRow := mkRow 125 [(.a ctQueue)] fun x => (some (p_lim (α := TQueue) x.1), s_l10Copy_R (id (α := TQueue) x.1))
def s_l10Copy_C : Prop := ∀ (x0 : TQueue), (p_lim (α := TQueue) x0) → TCon Try.prog 125 [(.a [(.c TI x0.1), (.c (.sl ctItem) x0.2)])] (s_l10Copy_R (id (α := TQueue) x0))

/-! spec.l10Copy -/
def s_l10Copy_G : List TRow := []
def s_l10Copy_b2 : TCode :=
  (.seq (.seq (.reg [.op (some 6) (.mov (.s 4)),
     .op (some 7) (.fad (.s 1) 1),
     .op (some 8) (.load (.s 7) 1 false),
     .op (some 9) (.len (.s 8)),
     .op (some 10) (.bin .lss (.s 6) (.s 9))])
  (.cond (.s 10) .skip (.exit 0)))
 (.seq (.block 1 (.draw [.op (some 13) (.mov (.s 3)),
      .op (some 14) (.fad (.s 1) 1),
      .op (some 15) (.load (.s 14) 1 false),
      .op (some 16) (.mov (.s 4)),
      .op (some 17) (.iad (.s 15) (.s 16) ctItem),
      .op (some 18) (.fad (.s 17) 0),
      .op (some 19) (.load (.s 18) 1 false),
      .op (some 20) (.bsl 3 [TI] []),
      .op (some 21) (.fad (.s 1) 1),
      .op (some 22) (.load (.s 21) 1 false),
      .op (some 23) (.mov (.s 4)),
      .op (some 24) (.iad (.s 22) (.s 23) ctItem),
      .op (some 25) (.fad (.s 24) 1),
      .op (some 26) (.load (.s 25) 1 false),
      .op (some 27) (.app (.s 20) (.s 26) 3 [TI]),
      .op (some 28) (.build [(.c TI (0 : Int)), (.n [TI])] [(0, 1, (.s 19)), (1, 1, (.s 27))]),
      .op (some 29) (.bsl 39 ctItem [(.s 28)]),
      .op (some 30) (.app (.s 13) (.s 29) 39 ctItem),
      .op (some 3) (.mov (.s 30))] [(1, 7), (2, 7), (4, 7), (5, 7), (6, 7), (7, 8), (7, 9), (7, 11), (7, 12), (7, 13), (1, 14), (2, 14), (4, 14), (5, 14), (6, 14)]))
  (.reg [.op (some 11) (.mov (.s 4)),
     .op (some 12) (.bin .add (.s 11) (.k (.c TI (1 : Int)))),
     .op (some 4) (.mov (.s 12))])))
def s_l10Copy_L2 : List (Nat × Md) := [(1, .b [.d, .d]), (2, .b [.d, .d]), (3, .one .f), (4, .one .d)]
def s_l10Copy_y1 : TCode :=
  (.seq (.reg [.op (some 31) (.mov (.s 3)),
    .op (some 32) (.fad (.s 1) 1),
    .op none (.store (.s 32) (.s 31) 1)])
 (.seq (.reg [.op (some 33) (.load (.s 1) 2 true),
     .op none (.store (.s 2) (.s 33) 2)])
  .ret))
def s_l10Copy_c : TCode :=
  (.seq (.reg [.op (some 1) (.box 36 (.s 0) 2),
    .op (some 2) (.new 36 [(.c TI (0 : Int)), (.n ctItem)])])
 (.seq (.reg [.op (some 5) (.bsl 39 ctItem []),
     .op (some 3) (.mov (.s 5))])
  (.seq (.seq (.reg [.op (some 4) (.mov (.k (.c TI (0 : Int))))])
    (.block 0 (.loop s_l10Copy_L2 s_l10Copy_b2)))
   s_l10Copy_y1)))
def s_l10Copy_rs : List (ARv × Md) := [(.l 2 2 true, .b [.d, .o 39])]
theorem s_l10Copy_st : compF Try.prog 125 = some (s_l10Copy_c.er, s_l10Copy_rs.map Prod.fst, 34) := by kernel_rfl
def s_l10Copy_Q (K : TRes → Prop) : TPost := TQ 0 0 s_l10Copy_rs K
def s_l10Copy_q1 (K : TRes → Prop) : TPost := Qseq (tawp s_l10Copy_G 0 s_l10Copy_y1 (s_l10Copy_Q K)) (s_l10Copy_Q K)
def s_l10Copy_q2 (K : TRes → Prop) : TPost := Qblk 0 (s_l10Copy_q1 K)
def s_l10Copy_A2 (K : TRes → Prop) (q : TQueue) (i : Int) (l : List TItem) : Prop := Loop s_l10Copy_G 0 s_l10Copy_L2 s_l10Copy_b2 (s_l10Copy_q2 K) ⟨[(1, (.p 0 0 0)), (2, (.p 1 0 0)), (3, (.r ctItem 2 0 l.length)), (4, (.c TI i))], [(0, (.box [(.c TI q.1), (.c (.sl ctItem) q.2)])), (1, (.box [(.c TI (0 : Int)), (.c (.sl ctItem) ([]))])), (2, (.sl 39 ctItem true l))], 3⟩
theorem s_l10Copy_v2 (K : TRes → Prop) (q : TQueue) (i : Int) (l : List TItem) (h :
  (((decide (i < ((q.2).length : Int))) = true → ((((0 : Int) ≤ i ∧ Int.toNat i < (q.2).length) ∧ (((0 : Int) ≤ i ∧ Int.toNat i < (q.2).length) ∧ (((0 = 0 ∨ 0 + ((gtd ((0, []) : TItem) q.2 (Int.toNat i)).2).length ≤ 0) ∧ 0 + ((gtd ((0, []) : TItem) q.2 (Int.toNat i)).2).length ≤ big) ∧ ((l.length = l.length ∨ l.length + 1 ≤ l.length) ∧ l.length + 1 ≤ big)))) ∧ (s_l10Copy_A2 K q (w64 (i + (1 : Int))) (List.take (l.length + 1) ((List.take l.length l) ++ ([((gtd ((0, []) : TItem) q.2 (Int.toNat i)).1, (List.take (0 + ((gtd ((0, []) : TItem) q.2 (Int.toNat i)).2).length) (List.drop 0 ((gtd ((0, []) : TItem) q.2 (Int.toNat i)).2))))])))))) ∧ ((decide (i < ((q.2).length : Int))) = false → K (s_l10Copy_R (q.1, (List.take l.length l)))))) : s_l10Copy_A2 K q i l :=
  Loop.of (by kernel_rfl) h
theorem s_l10Copy_v0 (K : TRes → Prop) (q : TQueue) (h :
  (s_l10Copy_A2 K q (0 : Int) ([] : List TItem))) : Hold (tawp s_l10Copy_G (0 + 0) s_l10Copy_c (TQ 0 0 s_l10Copy_rs K) (tstart [(.a [(.c TI q.1), (.c (.sl ctItem) q.2)])])) :=
  Hold.of (by kernel_rfl) h
theorem s_l10Copy_t (q : TQueue) (r : TRes) (h : Hold (tawp s_l10Copy_G (0 + 0) s_l10Copy_c (TQ 0 0 s_l10Copy_rs fun r' => r' = r) (tstart [(.a [(.c TI q.1), (.c (.sl ctItem) q.2)])]))) : TCon Try.prog 125 [(.a [(.c TI q.1), (.c (.sl ctItem) q.2)])] r :=
  tcon_gen (sg := [(.a ctQueue)]) mixed TOk.nil s_l10Copy_st (by kernel_rfl) (by kernel_rfl) (by kernel_rfl) (by kernel_rfl) h
theorem s_l10Copy_h : s_l10Copy_C := by
  intro q hp
  refine tcon_bd rfl fun hb => s_l10Copy_t q _ (s_l10Copy_v0 _ q ?_)
  have hl_q_1 : (q.2).length ≤ 9223372036854775807 := hb.1.2.1.1
  unfold p_lim at hp
  simp only [sz_prod, sz_int] at hp
  refine cpLoop (l := q.2) (Q := fun z => s_l10Copy_R (q.1, z) = s_l10Copy_R (id (α := TQueue) q)) (by omega) (fun k x v hk hl hg hv hx ih => ?_) (fun hq => ?_) (R_eq rfl)
  · refine s_l10Copy_v2 (fun r' => r' = s_l10Copy_R (id (α := TQueue) q)) q _ _ ⟨fun _ => ?_, fun h => by simp at h; omega⟩
    simp only [sz_prod, sz_int] at hx
    rw [Int.toNat_natCast, hg, sc1 (by omega), take_app1, take_z0]
    have := sz_ints x.2
    exact ⟨⟨⟨by omega, hk⟩, ⟨by omega, hk⟩, ⟨.inl rfl, by rw [big_eq]; omega⟩, room (by omega)⟩, ih⟩
  · refine s_l10Copy_v2 (fun r' => r' = s_l10Copy_R (id (α := TQueue) q)) q _ _ ⟨fun h => by simp at h, fun _ => ?_⟩
    rw [List.take_length]; exact hq

theorem s_l10Copy_ok : TRowOk Try.prog s_l10Copy_row := rowOk fun x h => s_l10Copy_h x.1 h

def i_Push_R (t : TQueue × Bool) : TRes := ⟨(.tp [(.a [(.c TI t.1.1), (.r ctItem 0 0 ((t.1.2).length))]), (.c .bool t.2)]), [(.sl 39 ctItem true t.1.2)], [], true, []⟩
def i_Push_row : TRow := mkRow 28 [(.a ctQueue), (.a ctItem)] fun x => (some (p_lim2 (α := TQueue) (β := TItem) x.1 x.2.1), i_Push_R (m_push x.1 x.2.1))
def i_Push_C : Prop := ∀ (x0 : TQueue) (x1 : TItem), (p_lim2 (α := TQueue) (β := TItem) x0 x1) → TCon Try.prog 28 [(.a [(.c TI x0.1), (.c (.sl ctItem) x0.2)]), (.a [(.c TI x1.1), (.c (.sl [TI]) x1.2)])] (i_Push_R (m_push x0 x1))

/-! impl.Push -/
def i_Push_G : List TRow := [i_copyQueue_row, i_QueueOk_row, i_itemOk_row, i_copyInts_row]
def i_Push_c : TCode :=
  (.seq (.reg [.op (some 2) (.box 36 (.s 0) 2),
    .op (some 3) (.box 39 (.s 1) 2),
    .op (some 4) (.new 36 [(.c TI (0 : Int)), (.n ctItem)]),
    .op (some 5) (.mov (.k (.c .bool false)))])
 (.seq (.reg [.op (some 7) (.load (.s 2) 2 true),
     .op (some 8) (.call 118 [(.s 7)]),
     .op (some 6) (.new 36 [(.c TI (0 : Int)), (.n ctItem)]),
     .op none (.store (.s 6) (.s 8) 2)])
  (.seq (.seq (.reg [.op (some 9) (.load (.s 2) 2 true),
       .op (some 10) (.call 119 [(.s 9)]),
       .op (some 11) (.not (.s 10)),
       .op (some 12) (.mov (.s 11)),
       .grp 12 false [.op (some 13) (.load (.s 3) 2 true), .op (some 14) (.call 120 [(.s 13)]), .op (some 15) (.not (.s 14))] 16 (.s 15),
       .op (some 17) (.mov (.s 16)),
       .grp 17 false [.op (some 18) (.fad (.s 2) 1), .op (some 19) (.load (.s 18) 1 false), .op (some 20) (.len (.s 19)), .op (some 21) (.fad (.s 2) 0), .op (some 22) (.load (.s 21) 1 false), .op (some 23) (.bin .eql (.s 20) (.s 22))] 24 (.s 23)])
    (.cond (.s 24) (.seq (.reg [.op (some 25) (.load (.s 6) 2 true),
         .op none (.store (.s 4) (.s 25) 2),
         .op (some 5) (.mov (.k (.c .bool false)))])
      .ret) .skip))
   (.seq (.draw [.op (some 26) (.fad (.s 6) 1),
       .op (some 27) (.load (.s 26) 1 false),
       .op (some 28) (.fad (.s 3) 0),
       .op (some 29) (.load (.s 28) 1 false),
       .op (some 30) (.fad (.s 3) 1),
       .op (some 31) (.load (.s 30) 1 false),
       .op (some 32) (.call 121 [(.s 31)]),
       .op (some 33) (.build [(.c TI (0 : Int)), (.n [TI])] [(0, 1, (.s 29)), (1, 1, (.s 32))]),
       .op (some 34) (.bsl 39 ctItem [(.s 33)]),
       .op (some 35) (.app (.s 27) (.s 34) 39 ctItem),
       .op (some 36) (.fad (.s 6) 1),
       .op none (.store (.s 36) (.s 35) 1)] [(0, 6), (1, 6), (2, 6), (3, 6), (0, 8), (1, 8)])
    (.seq (.reg [.op (some 37) (.load (.s 6) 2 true),
        .op none (.store (.s 4) (.s 37) 2),
        .op (some 5) (.mov (.k (.c .bool true)))])
     .ret)))))
def i_Push_rs : List (ARv × Md) := [(.l 4 2 true, .b [.d, .o 39]), (.t 5, .one .d)]
theorem i_Push_st : compF Try.prog 28 = some (i_Push_c.er, i_Push_rs.map Prod.fst, 38) := by kernel_rfl
def i_Push_Q (K : TRes → Prop) : TPost := TQ 0 0 i_Push_rs K
theorem i_Push_v0 (K : TRes → Prop) (q : TQueue) (x : TItem) (h :
  ((p_lim (α := TQueue) q) ∧ (((((!(m_queueOk q)) || (!(m_itemOk x))) || (((q.2).length : Int) == q.1)) = true → K (i_Push_R (((id (α := TQueue) q).1, (List.take (((id (α := TQueue) q).2).length) ((id (α := TQueue) q).2))), false))) ∧ ((((!(m_queueOk q)) || (!(m_itemOk x))) || (((q.2).length : Int) == q.1)) = false → (((p_lim (α := List Int) x.2) ∧ ((((id (α := TQueue) q).2).length = ((id (α := TQueue) q).2).length ∨ ((id (α := TQueue) q).2).length + 1 ≤ ((id (α := TQueue) q).2).length) ∧ ((id (α := TQueue) q).2).length + 1 ≤ big)) ∧ K (i_Push_R (((id (α := TQueue) q).1, (List.take (((id (α := TQueue) q).2).length + 1) ((List.take (((id (α := TQueue) q).2).length) ((id (α := TQueue) q).2)) ++ ([(x.1, (List.take ((id (α := List Int) x.2).length) (List.drop 0 (id (α := List Int) x.2))))])))), true))))))) : Hold (tawp i_Push_G (0 + 0) i_Push_c (TQ 0 0 i_Push_rs K) (tstart [(.a [(.c TI q.1), (.c (.sl ctItem) q.2)]), (.a [(.c TI x.1), (.c (.sl [TI]) x.2)])])) :=
  Hold.of (by kernel_rfl) h
theorem i_Push_t (q : TQueue) (x : TItem) (r : TRes) (h : Hold (tawp i_Push_G (0 + 0) i_Push_c (TQ 0 0 i_Push_rs fun r' => r' = r) (tstart [(.a [(.c TI q.1), (.c (.sl ctItem) q.2)]), (.a [(.c TI x.1), (.c (.sl [TI]) x.2)])]))) : TCon Try.prog 28 [(.a [(.c TI q.1), (.c (.sl ctItem) q.2)]), (.a [(.c TI x.1), (.c (.sl [TI]) x.2)])] r :=
  tcon_gen (sg := [(.a ctQueue), (.a ctItem)]) mixed (TOk.cons i_copyQueue_ok (TOk.cons i_QueueOk_ok (TOk.cons i_itemOk_ok (TOk.cons i_copyInts_ok TOk.nil)))) i_Push_st (by kernel_rfl) (by kernel_rfl) (by kernel_rfl) (by kernel_rfl) h
theorem i_Push_h : i_Push_C := by
  intro q x hp
  refine tcon_bd rfl fun hb => i_Push_t q x _ (i_Push_v0 _ q x ?_)
  have hl_q_1 : (q.2).length ≤ 9223372036854775807 := hb.1.2.1.1
  have hl_x_1 : (x.2).length ≤ 9223372036854775807 := hb.2.1.2.1.1
  unfold p_lim2 at hp
  have hq : p_lim q := by unfold p_lim; omega
  simp only [sz_prod, sz_int] at hp
  have h1 := len_sz q.2
  have h2 := sz_ints x.2
  have e : ((((!(m_queueOk q)) || (!(m_itemOk x))) || (((q.2).length : Int) == q.1))) = !(m_queueOk q && m_itemOk x && decide ((q.2.length : Int) < q.1)) := by
    cases hk : m_queueOk q
    · rfl
    · have : (q.2.length : Int) ≤ q.1 := by
        simp only [m_queueOk, Bool.and_eq_true, decide_eq_true_eq] at hk
        exact hk.1.2
      cases m_itemOk x
      · rfl
      · rw [Bool.eq_iff_iff]; simp; omega
  rw [e]
  refine ⟨hq, fun h => R_eq ?_, fun h => ⟨⟨(show Sz.sz (_ : List Int) ≤ 2147483648 by omega), ⟨.inl rfl, by rw [big_eq]; simp only [id]; omega⟩⟩, R_eq ?_⟩⟩
  · simp only [Bool.not_eq_true'] at h
    simp [m_push, h]
  · simp only [Bool.not_eq_false'] at h
    simp [m_push, h, List.take_of_length_le]

theorem i_Push_ok : TRowOk Try.prog i_Push_row := rowOk fun x h => i_Push_h x.1 x.2.1 h

def s_Push_R (t : TQueue × Bool) : TRes := ⟨(.tp [(.a [(.c TI t.1.1), (.r ctItem 0 0 ((t.1.2).length))]), (.c .bool t.2)]), [(.sl 39 ctItem true t.1.2)], [], true, []⟩
def s_Push_row : TRow := mkRow 36 [(.a ctQueue), (.a ctItem)] fun x => (some (p_lim2 (α := TQueue) (β := TItem) x.1 x.2.1), s_Push_R (m_push x.1 x.2.1))
def s_Push_C : Prop := ∀ (x0 : TQueue) (x1 : TItem), (p_lim2 (α := TQueue) (β := TItem) x0 x1) → TCon Try.prog 36 [(.a [(.c TI x0.1), (.c (.sl ctItem) x0.2)]), (.a [(.c TI x1.1), (.c (.sl [TI]) x1.2)])] (s_Push_R (m_push x0 x1))

/-! spec.Push -/
def s_Push_G : List TRow := [s_l10Copy_row, s_QueueOk_row, s_VecOk_row, s_l1In_row]
def s_Push_c : TCode :=
  (.seq (.reg [.op (some 2) (.box 36 (.s 0) 2),
    .op (some 3) (.box 39 (.s 1) 2),
    .op (some 4) (.new 36 [(.c TI (0 : Int)), (.n ctItem)]),
    .op (some 5) (.mov (.k (.c .bool false)))])
 (.seq (.reg [.op (some 7) (.load (.s 2) 2 true),
     .op (some 8) (.call 125 [(.s 7)]),
     .op (some 6) (.new 36 [(.c TI (0 : Int)), (.n ctItem)]),
     .op none (.store (.s 6) (.s 8) 2)])
  (.seq (.seq (.reg [.op (some 9) (.load (.s 2) 2 true),
       .op (some 10) (.call 29 [(.s 9)]),
       .op (some 11) (.not (.s 10)),
       .op (some 12) (.mov (.s 11)),
       .grp 12 false [.op (some 13) (.fad (.s 2) 1), .op (some 14) (.load (.s 13) 1 false), .op (some 15) (.len (.s 14)), .op (some 16) (.fad (.s 2) 0), .op (some 17) (.load (.s 16) 1 false), .op (some 18) (.bin .geq (.s 15) (.s 17))] 19 (.s 18),
       .op (some 20) (.mov (.s 19)),
       .grp 20 false [.op (some 21) (.fad (.s 3) 1), .op (some 22) (.load (.s 21) 1 false), .op (some 23) (.call 31 [(.s 22)]), .op (some 24) (.not (.s 23))] 25 (.s 24),
       .op (some 26) (.mov (.s 25)),
       .grp 26 false [.op (some 27) (.fad (.s 3) 0), .op (some 28) (.load (.s 27) 1 false), .op (some 29) (.call 102 [(.s 28), (.k (.c TI (0 : Int))), (.k (.c TI (4 : Int)))]), .op (some 30) (.not (.s 29))] 31 (.s 30)])
    (.cond (.s 31) (.seq (.reg [.op (some 32) (.load (.s 6) 2 true),
         .op none (.store (.s 4) (.s 32) 2),
         .op (some 5) (.mov (.k (.c .bool false)))])
      .ret) .skip))
   (.seq (.draw [.op (some 33) (.fad (.s 6) 1),
       .op (some 34) (.load (.s 33) 1 false),
       .op (some 35) (.fad (.s 3) 0),
       .op (some 36) (.load (.s 35) 1 false),
       .op (some 37) (.bsl 3 [TI] []),
       .op (some 38) (.fad (.s 3) 1),
       .op (some 39) (.load (.s 38) 1 false),
       .op (some 40) (.app (.s 37) (.s 39) 3 [TI]),
       .op (some 41) (.build [(.c TI (0 : Int)), (.n [TI])] [(0, 1, (.s 36)), (1, 1, (.s 40))]),
       .op (some 42) (.bsl 39 ctItem [(.s 41)]),
       .op (some 43) (.app (.s 34) (.s 42) 39 ctItem),
       .op (some 44) (.fad (.s 6) 1),
       .op none (.store (.s 44) (.s 43) 1)] [(0, 4), (1, 4), (2, 4), (3, 4), (4, 5), (4, 6), (0, 7), (1, 7), (2, 7), (3, 7), (0, 9), (1, 9)])
    (.seq (.reg [.op (some 45) (.load (.s 6) 2 true),
        .op none (.store (.s 4) (.s 45) 2),
        .op (some 5) (.mov (.k (.c .bool true)))])
     .ret)))))
def s_Push_rs : List (ARv × Md) := [(.l 4 2 true, .b [.d, .o 39]), (.t 5, .one .d)]
theorem s_Push_st : compF Try.prog 36 = some (s_Push_c.er, s_Push_rs.map Prod.fst, 46) := by kernel_rfl
def s_Push_Q (K : TRes → Prop) : TPost := TQ 0 0 s_Push_rs K
theorem s_Push_v0 (K : TRes → Prop) (q : TQueue) (x : TItem) (h :
  ((p_lim (α := TQueue) q) ∧ ((((((!(m_queueOk q)) || (decide (((q.2).length : Int) ≥ q.1))) || (!(m_vecOk x.2))) || (!(m_in x.1 (0 : Int) (4 : Int)))) = true → K (s_Push_R (((id (α := TQueue) q).1, (List.take (((id (α := TQueue) q).2).length) ((id (α := TQueue) q).2))), false))) ∧ (((((!(m_queueOk q)) || (decide (((q.2).length : Int) ≥ q.1))) || (!(m_vecOk x.2))) || (!(m_in x.1 (0 : Int) (4 : Int)))) = false → ((((0 = 0 ∨ 0 + (x.2).length ≤ 0) ∧ 0 + (x.2).length ≤ big) ∧ ((((id (α := TQueue) q).2).length = ((id (α := TQueue) q).2).length ∨ ((id (α := TQueue) q).2).length + 1 ≤ ((id (α := TQueue) q).2).length) ∧ ((id (α := TQueue) q).2).length + 1 ≤ big)) ∧ K (s_Push_R (((id (α := TQueue) q).1, (List.take (((id (α := TQueue) q).2).length + 1) ((List.take (((id (α := TQueue) q).2).length) ((id (α := TQueue) q).2)) ++ ([(x.1, (List.take (0 + (x.2).length) (List.drop 0 (x.2 : List Int))))])))), true))))))) : Hold (tawp s_Push_G (0 + 0) s_Push_c (TQ 0 0 s_Push_rs K) (tstart [(.a [(.c TI q.1), (.c (.sl ctItem) q.2)]), (.a [(.c TI x.1), (.c (.sl [TI]) x.2)])])) :=
  Hold.of (by kernel_rfl) h
theorem s_Push_t (q : TQueue) (x : TItem) (r : TRes) (h : Hold (tawp s_Push_G (0 + 0) s_Push_c (TQ 0 0 s_Push_rs fun r' => r' = r) (tstart [(.a [(.c TI q.1), (.c (.sl ctItem) q.2)]), (.a [(.c TI x.1), (.c (.sl [TI]) x.2)])]))) : TCon Try.prog 36 [(.a [(.c TI q.1), (.c (.sl ctItem) q.2)]), (.a [(.c TI x.1), (.c (.sl [TI]) x.2)])] r :=
  tcon_gen (sg := [(.a ctQueue), (.a ctItem)]) mixed (TOk.cons s_l10Copy_ok (TOk.cons s_QueueOk_ok (TOk.cons s_VecOk_ok (TOk.cons s_l1In_ok TOk.nil)))) s_Push_st (by kernel_rfl) (by kernel_rfl) (by kernel_rfl) (by kernel_rfl) h
theorem s_Push_h : s_Push_C := by
  intro q x hp
  refine tcon_bd rfl fun hb => s_Push_t q x _ (s_Push_v0 _ q x ?_)
  have hl_q_1 : (q.2).length ≤ 9223372036854775807 := hb.1.2.1.1
  have hl_x_1 : (x.2).length ≤ 9223372036854775807 := hb.2.1.2.1.1
  unfold p_lim2 at hp
  have hq : p_lim q := by unfold p_lim; omega
  simp only [sz_prod, sz_int] at hp
  have h1 := len_sz q.2
  have h2 := sz_ints x.2
  have e : (((((!(m_queueOk q)) || (decide (((q.2).length : Int) ≥ q.1))) || (!(m_vecOk x.2))) || (!(m_in x.1 0 4)))) = !(m_queueOk q && m_itemOk x && decide ((q.2.length : Int) < q.1)) := by
    cases hk : m_queueOk q
    · rfl
    · cases hv : m_vecOk x.2
      · simp [m_itemOk, hv]
      · rw [Bool.eq_iff_iff]; simp [m_itemOk, hv, m_in]; omega
  rw [e]
  refine ⟨hq, fun h => R_eq ?_, fun h => ⟨⟨⟨.inl rfl, by rw [big_eq]; omega⟩, ⟨.inl rfl, by rw [big_eq]; simp only [id]; omega⟩⟩, R_eq ?_⟩⟩
  · simp only [Bool.not_eq_true'] at h
    simp [m_push, h]
  · simp only [Bool.not_eq_false'] at h
    simp [m_push, h, List.take_of_length_le]

theorem s_Push_ok : TRowOk Try.prog s_Push_row := rowOk fun x h => s_Push_h x.1 x.2.1 h

def i_Pop_R (t : TQueue × TItem × Bool) : TRes := ⟨(.tp [(.a [(.c TI t.1.1), (.c (.sl ctItem) t.1.2)]), (.a [(.c TI t.2.1.1), (.c (.sl [TI]) t.2.1.2)]), (.c .bool t.2.2)]), [], [], true, []⟩
def i_Pop_row : TRow := mkRow 30 [(.a ctQueue)] fun x => (some (p_lim (α := TQueue) x.1), i_Pop_R (m_pop x.1))
def i_Pop_C : Prop := ∀ (x0 : TQueue), (p_lim (α := TQueue) x0) → TCon Try.prog 30 [(.a [(.c TI x0.1), (.c (.sl ctItem) x0.2)])] (i_Pop_R (m_pop x0))

/-! impl.Pop -/
def i_Pop_G : List TRow := [i_copyQueue_row, i_QueueOk_row]
def i_Pop_c : TCode :=
  (.seq (.reg [.op (some 1) (.box 36 (.s 0) 2),
    .op (some 2) (.new 36 [(.c TI (0 : Int)), (.n ctItem)]),
    .op (some 3) (.new 39 [(.c TI (0 : Int)), (.n [TI])]),
    .op (some 4) (.mov (.k (.c .bool false)))])
 (.seq (.reg [.op (some 7) (.load (.s 1) 2 true),
     .op (some 8) (.call 118 [(.s 7)]),
     .op (some 5) (.new 36 [(.c TI (0 : Int)), (.n ctItem)]),
     .op none (.store (.s 5) (.s 8) 2)])
  (.seq (.seq (.reg [.op (some 9) (.load (.s 1) 2 true),
       .op (some 10) (.call 119 [(.s 9)]),
       .op (some 11) (.not (.s 10)),
       .op (some 12) (.mov (.s 11)),
       .grp 12 false [.op (some 13) (.fad (.s 1) 1), .op (some 14) (.load (.s 13) 1 false), .op (some 15) (.len (.s 14)), .op (some 16) (.bin .eql (.s 15) (.k (.c TI (0 : Int))))] 17 (.s 16)])
    (.cond (.s 17) (.seq (.reg [.op (some 18) (.load (.s 5) 2 true),
         .op (some 19) (.build [(.c TI (0 : Int)), (.n [TI])] []),
         .op none (.store (.s 2) (.s 18) 2),
         .op none (.store (.s 3) (.s 19) 2),
         .op (some 4) (.mov (.k (.c .bool false)))])
      .ret) .skip))
   (.seq (.reg [.op (some 20) (.fad (.s 5) 1),
       .op (some 21) (.load (.s 20) 1 false),
       .op (some 22) (.iad (.s 21) (.k (.c TI (0 : Int))) ctItem),
       .op (some 23) (.load (.s 22) 2 true),
       .op (some 6) (.new 39 [(.c TI (0 : Int)), (.n [TI])]),
       .op none (.store (.s 6) (.s 23) 2)])
    (.seq (.reg [.op (some 24) (.fad (.s 5) 1),
        .op (some 25) (.load (.s 24) 1 false),
        .op (some 26) (.slc (.s 25) (some (.k (.c TI (1 : Int)))) none ctItem),
        .op (some 27) (.fad (.s 5) 1),
        .op none (.store (.s 27) (.s 26) 1)])
     (.seq (.draw [.op (some 28) (.load (.s 5) 2 true),
         .op (some 29) (.load (.s 6) 2 true),
         .op none (.store (.s 2) (.s 28) 2),
         .op none (.store (.s 3) (.s 29) 2),
         .op (some 4) (.mov (.k (.c .bool true)))] [(1, 2)])
      .ret))))))
def i_Pop_rs : List (ARv × Md) := [(.l 2 2 true, .b [.d, .d]), (.l 3 2 true, .b [.d, .d]), (.t 4, .one .d)]
theorem i_Pop_st : compF Try.prog 30 = some (i_Pop_c.er, i_Pop_rs.map Prod.fst, 30) := by kernel_rfl
def i_Pop_Q (K : TRes → Prop) : TPost := TQ 0 0 i_Pop_rs K
theorem i_Pop_v0 (K : TRes → Prop) (q : TQueue) (h :
  ((p_lim (α := TQueue) q) ∧ ((((!(m_queueOk q)) || (((q.2).length : Int) == (0 : Int))) = true → K (i_Pop_R (((id (α := TQueue) q).1, (List.take (((id (α := TQueue) q).2).length) (List.drop 0 ((id (α := TQueue) q).2)))), ((0 : Int), []), false))) ∧ (((!(m_queueOk q)) || (((q.2).length : Int) == (0 : Int))) = false → ((((0 : Int) ≤ (0 : Int) ∧ Int.toNat (0 : Int) < ((id (α := TQueue) q).2).length) ∧ ((0 + (Int.toNat (0 : Int))) < ((id (α := TQueue) q).2).length)) ∧ (((0 : Int) ≤ (1 : Int) ∧ (1 : Int) ≤ ((((id (α := TQueue) q).2).length : Nat) : Int) ∧ ((((id (α := TQueue) q).2).length : Nat) : Int) ≤ ((((id (α := TQueue) q).2).length : Nat) : Int)) ∧ K (i_Pop_R (((id (α := TQueue) q).1, (List.take (Int.toNat ((((id (α := TQueue) q).2).length : Nat) : Int) - Int.toNat (1 : Int)) (List.drop (0 + Int.toNat (1 : Int)) ((id (α := TQueue) q).2)))), (gtd ((0, []) : TItem) ((id (α := TQueue) q).2) (0 + (Int.toNat (0 : Int)))), true)))))))) : Hold (tawp i_Pop_G (0 + 0) i_Pop_c (TQ 0 0 i_Pop_rs K) (tstart [(.a [(.c TI q.1), (.c (.sl ctItem) q.2)])])) :=
  Hold.of (by kernel_rfl) h
theorem i_Pop_t (q : TQueue) (r : TRes) (h : Hold (tawp i_Pop_G (0 + 0) i_Pop_c (TQ 0 0 i_Pop_rs fun r' => r' = r) (tstart [(.a [(.c TI q.1), (.c (.sl ctItem) q.2)])]))) : TCon Try.prog 30 [(.a [(.c TI q.1), (.c (.sl ctItem) q.2)])] r :=
  tcon_gen (sg := [(.a ctQueue)]) mixed (TOk.cons i_copyQueue_ok (TOk.cons i_QueueOk_ok TOk.nil)) i_Pop_st (by kernel_rfl) (by kernel_rfl) (by kernel_rfl) (by kernel_rfl) h
theorem i_Pop_h : i_Pop_C := by
  intro q hp
  refine tcon_bd rfl fun hb => i_Pop_t q _ (i_Pop_v0 _ q ?_)
  have hl_q_1 : (q.2).length ≤ 9223372036854775807 := hb.1.2.1.1
  have hq := hp
  unfold p_lim at hp
  simp only [sz_prod, sz_int] at hp
  have h1 := len_sz q.2
  have e : ((!(m_queueOk q)) || (((q.2).length : Int) == 0)) = !(m_queueOk q && decide (0 < q.2.length)) := by
    rw [Bool.eq_iff_iff]; simp
  rw [e]
  refine ⟨hq, fun h => R_eq ?_, fun h => ?_⟩
  · simp only [Bool.not_eq_true'] at h
    simp only [m_pop, h]; simp
  · simp only [Bool.not_eq_false'] at h
    have h2 : 0 < q.2.length := by simp at h; exact h.2
    have h3 := sz_mem (gtd_mem h2 (0, []))
    have h4 := sz_ints (gtd (0, []) q.2 0).2
    simp only [sz_prod, sz_int] at h3
    have hM : (m_pop q) = ((q.1, q.2.tail), gtd (0, []) q.2 0, true) := by simp only [m_pop, h]; simp
    simp only [id]
    exact ⟨⟨⟨by omega, by simpa using h2⟩, by simpa using h2⟩, ⟨by omega, by omega, by omega⟩, R_eq (by rw [hM]; simp [List.take_of_length_le])⟩

theorem i_Pop_ok : TRowOk Try.prog i_Pop_row := rowOk fun x h => i_Pop_h x.1 h

def s_Pop_R (t : TQueue × TItem × Bool) : TRes := ⟨(.tp [(.a [(.c TI t.1.1), (.c (.sl ctItem) t.1.2)]), (.a [(.c TI t.2.1.1), (.c (.sl [TI]) t.2.1.2)]), (.c .bool t.2.2)]), [], [], true, []⟩
def s_Pop_row : TRow := mkRow 44 [(.a ctQueue)] fun x => (some (p_lim (α := TQueue) x.1), s_Pop_R (m_pop x.1))
def s_Pop_C : Prop := ∀ (x0 : TQueue), (p_lim (α := TQueue) x0) → TCon Try.prog 44 [(.a [(.c TI x0.1), (.c (.sl ctItem) x0.2)])] (s_Pop_R (m_pop x0))

/-! spec.Pop -/
def s_Pop_G : List TRow := [s_l10Copy_row, s_QueueOk_row]
def s_Pop_c : TCode :=
  (.seq (.reg [.op (some 1) (.box 36 (.s 0) 2),
    .op (some 2) (.new 36 [(.c TI (0 : Int)), (.n ctItem)]),
    .op (some 3) (.new 39 [(.c TI (0 : Int)), (.n [TI])]),
    .op (some 4) (.mov (.k (.c .bool false)))])
 (.seq (.reg [.op (some 7) (.load (.s 1) 2 true),
     .op (some 8) (.call 125 [(.s 7)]),
     .op (some 5) (.new 36 [(.c TI (0 : Int)), (.n ctItem)]),
     .op none (.store (.s 5) (.s 8) 2)])
  (.seq (.seq (.reg [.op (some 9) (.load (.s 1) 2 true),
       .op (some 10) (.call 29 [(.s 9)]),
       .op (some 11) (.not (.s 10)),
       .op (some 12) (.mov (.s 11)),
       .grp 12 false [.op (some 13) (.fad (.s 1) 1), .op (some 14) (.load (.s 13) 1 false), .op (some 15) (.len (.s 14)), .op (some 16) (.bin .eql (.s 15) (.k (.c TI (0 : Int))))] 17 (.s 16)])
    (.cond (.s 17) (.seq (.reg [.op (some 18) (.load (.s 5) 2 true),
         .op (some 19) (.build [(.c TI (0 : Int)), (.n [TI])] []),
         .op none (.store (.s 2) (.s 18) 2),
         .op none (.store (.s 3) (.s 19) 2),
         .op (some 4) (.mov (.k (.c .bool false)))])
      .ret) .skip))
   (.seq (.reg [.op (some 20) (.fad (.s 1) 1),
       .op (some 21) (.load (.s 20) 1 false),
       .op (some 22) (.iad (.s 21) (.k (.c TI (0 : Int))) ctItem),
       .op (some 23) (.load (.s 22) 2 true),
       .op (some 6) (.new 39 [(.c TI (0 : Int)), (.n [TI])]),
       .op none (.store (.s 6) (.s 23) 2)])
    (.seq (.reg [.op (some 24) (.fad (.s 5) 1),
        .op (some 25) (.load (.s 24) 1 false),
        .op (some 26) (.slc (.s 25) (some (.k (.c TI (1 : Int)))) none ctItem),
        .op (some 27) (.fad (.s 5) 1),
        .op none (.store (.s 27) (.s 26) 1)])
     (.seq (.draw [.op (some 28) (.load (.s 5) 2 true),
         .op (some 29) (.fad (.s 6) 0),
         .op (some 30) (.load (.s 29) 1 false),
         .op (some 31) (.bsl 3 [TI] []),
         .op (some 32) (.fad (.s 6) 1),
         .op (some 33) (.load (.s 32) 1 false),
         .op (some 34) (.app (.s 31) (.s 33) 3 [TI]),
         .op (some 35) (.build [(.c TI (0 : Int)), (.n [TI])] [(0, 1, (.s 30)), (1, 1, (.s 34))]),
         .op none (.store (.s 2) (.s 28) 2),
         .op none (.store (.s 3) (.s 35) 2),
         .op (some 4) (.mov (.k (.c .bool true)))] [(0, 3), (1, 3), (2, 3), (3, 4), (3, 5), (0, 6), (1, 6), (2, 6), (1, 8), (2, 8)])
      .ret))))))
def s_Pop_rs : List (ARv × Md) := [(.l 2 2 true, .b [.d, .d]), (.l 3 2 true, .b [.d, .d]), (.t 4, .one .d)]
theorem s_Pop_st : compF Try.prog 44 = some (s_Pop_c.er, s_Pop_rs.map Prod.fst, 36) := by kernel_rfl
def s_Pop_Q (K : TRes → Prop) : TPost := TQ 0 0 s_Pop_rs K
theorem s_Pop_v0 (K : TRes → Prop) (q : TQueue) (h :
  ((p_lim (α := TQueue) q) ∧ ((((!(m_queueOk q)) || (((q.2).length : Int) == (0 : Int))) = true → K (s_Pop_R (((id (α := TQueue) q).1, (List.take (((id (α := TQueue) q).2).length) (List.drop 0 ((id (α := TQueue) q).2)))), ((0 : Int), []), false))) ∧ (((!(m_queueOk q)) || (((q.2).length : Int) == (0 : Int))) = false → (((0 : Int) ≤ (0 : Int) ∧ Int.toNat (0 : Int) < (q.2).length) ∧ (((0 : Int) ≤ (1 : Int) ∧ (1 : Int) ≤ ((((id (α := TQueue) q).2).length : Nat) : Int) ∧ ((((id (α := TQueue) q).2).length : Nat) : Int) ≤ ((((id (α := TQueue) q).2).length : Nat) : Int)) ∧ (((0 = 0 ∨ 0 + ((gtd ((0, []) : TItem) q.2 (Int.toNat (0 : Int))).2).length ≤ 0) ∧ 0 + ((gtd ((0, []) : TItem) q.2 (Int.toNat (0 : Int))).2).length ≤ big) ∧ K (s_Pop_R (((id (α := TQueue) q).1, (List.take (Int.toNat ((((id (α := TQueue) q).2).length : Nat) : Int) - Int.toNat (1 : Int)) (List.drop (0 + Int.toNat (1 : Int)) ((id (α := TQueue) q).2)))), ((gtd ((0, []) : TItem) q.2 (Int.toNat (0 : Int))).1, (List.take (0 + ((gtd ((0, []) : TItem) q.2 (Int.toNat (0 : Int))).2).length) (List.drop 0 ((gtd ((0, []) : TItem) q.2 (Int.toNat (0 : Int))).2)))), true))))))))) : Hold (tawp s_Pop_G (0 + 0) s_Pop_c (TQ 0 0 s_Pop_rs K) (tstart [(.a [(.c TI q.1), (.c (.sl ctItem) q.2)])])) :=
  Hold.of (by kernel_rfl) h
theorem s_Pop_t (q : TQueue) (r : TRes) (h : Hold (tawp s_Pop_G (0 + 0) s_Pop_c (TQ 0 0 s_Pop_rs fun r' => r' = r) (tstart [(.a [(.c TI q.1), (.c (.sl ctItem) q.2)])]))) : TCon Try.prog 44 [(.a [(.c TI q.1), (.c (.sl ctItem) q.2)])] r :=
  tcon_gen (sg := [(.a ctQueue)]) mixed (TOk.cons s_l10Copy_ok (TOk.cons s_QueueOk_ok TOk.nil)) s_Pop_st (by kernel_rfl) (by kernel_rfl) (by kernel_rfl) (by kernel_rfl) h
theorem s_Pop_h : s_Pop_C := by
  intro q hp
  refine tcon_bd rfl fun hb => s_Pop_t q _ (s_Pop_v0 _ q ?_)
  have hl_q_1 : (q.2).length ≤ 9223372036854775807 := hb.1.2.1.1
  have hq := hp
  unfold p_lim at hp
  simp only [sz_prod, sz_int] at hp
  have h1 := len_sz q.2
  have e : ((!(m_queueOk q)) || (((q.2).length : Int) == 0)) = !(m_queueOk q && decide (0 < q.2.length)) := by
    rw [Bool.eq_iff_iff]; simp
  rw [e]
  refine ⟨hq, fun h => R_eq ?_, fun h => ?_⟩
  · simp only [Bool.not_eq_true'] at h
    simp only [m_pop, h]; simp
  · simp only [Bool.not_eq_false'] at h
    have h2 : 0 < q.2.length := by simp at h; exact h.2
    have h3 := sz_mem (gtd_mem h2 (0, []))
    have h4 := sz_ints (gtd (0, []) q.2 0).2
    simp only [sz_prod, sz_int] at h3
    have hM : (m_pop q) = ((q.1, q.2.tail), gtd (0, []) q.2 0, true) := by simp only [m_pop, h]; simp
    simp only [id]
    exact ⟨⟨by omega, by simpa using h2⟩, ⟨by omega, by omega, by omega⟩, ⟨by simp, by rw [big_eq]; simp; omega⟩, R_eq (by rw [hM]; simp [List.take_of_length_le])⟩

theorem s_Pop_ok : TRowOk Try.prog s_Pop_row := rowOk fun x h => s_Pop_h x.1 h

end
end Go.Proofs.Ytephkbajoofeoaa.Am
