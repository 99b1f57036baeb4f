/-
  Written by program: the code of functions, what it asks, and that it comes to what the models say.
-/
import Derived.Test.YtephkbajoofeoaaPL
import Derived.Test.YtephkbajoofeoaaPE
import Derived.Test.YtephkbajoofeoaaP1
import Derived.Test.YtephkbajoofeoaaP5
import Derived.Test.YtephkbajoofeoaaM7
namespace Go.Proofs.Ytephkbajoofeoaa.Am
open Go Go.RowKit Go.Proofs.Ytephkbajoofeoaa
set_option linter.unusedVariables false
set_option linter.unusedSimpArgs false
noncomputable section

def s_l9Place_R (t : Int) : TRes := ⟨(.c TI t), [], [], false, []⟩
def s_l9Place_row : TRow := mkRow 111 [(.c (.sl ctIns)), (.c TI), (.c TI)] fun x => (none, s_l9Place_R (m_l9Place x.1 x.2.1 x.2.2.1))
def s_l9Place_C : Prop := ∀ (x0 : List TIns) (x1 : Int) (x2 : Int), TCon Try.prog 111 [(.c (.sl ctIns) x0), (.c TI x1), (.c TI x2)] (s_l9Place_R (m_l9Place x0 x1 x2))

/-! spec.l9Place -/
def s_l9Place_G : List TRow := []
def s_l9Place_b2 : TCode :=
  (.seq (.seq (.reg [.op (some 9) (.mov (.s 8)),
     .op (some 10) (.mov (.s 0)),
     .op (some 11) (.len (.s 10)),
     .op (some 12) (.bin .lss (.s 9) (.s 11))])
  (.cond (.s 12) .skip (.exit 0)))
 (.seq (.block 1 (.seq (.reg [.op (some 15) (.mov (.s 0)),
       .op (some 16) (.mov (.s 8)),
       .op (some 17) (.iad (.s 15) (.s 16) ctIns),
       .op (some 18) (.fad (.s 17) 0),
       .op (some 19) (.load (.s 18) 1 false),
       .op (some 20) (.mov (.s 1)),
       .op (some 21) (.bin .eql (.s 19) (.s 20)),
       .op (some 22) (.mov (.s 21)),
       .grp 22 true [.op (some 23) (.mov (.s 0)), .op (some 24) (.mov (.s 8)), .op (some 25) (.iad (.s 23) (.s 24) ctIns), .op (some 26) (.fad (.s 25) 1), .op (some 27) (.load (.s 26) 1 false), .op (some 28) (.mov (.s 2)), .op (some 29) (.bin .eql (.s 27) (.s 28))] 30 (.s 29)])
    (.cond (.s 30) (.seq (.seq (.reg [.op (some 31) (.mov (.s 7)),
          .op (some 32) (.bin .geq (.s 31) (.k (.c TI (0 : Int))))])
       (.cond (.s 32) (.seq (.reg [.op (some 6) (.mov (.k (.c TI (-1 : Int))))])
         .ret) .skip))
      (.reg [.op (some 33) (.mov (.s 8)),
         .op (some 7) (.mov (.s 33))])) .skip)))
  (.reg [.op (some 13) (.mov (.s 8)),
     .op (some 14) (.bin .add (.s 13) (.k (.c TI (1 : Int)))),
     .op (some 8) (.mov (.s 14))])))
def s_l9Place_L2 : List (Nat × Md) := [(0, .one .d), (1, .one .d), (2, .one .d), (7, .one .d), (8, .one .d)]
def s_l9Place_y1 : TCode :=
  (.seq (.reg [.op (some 34) (.mov (.s 7)),
    .op (some 6) (.mov (.s 34))])
 .ret)
def s_l9Place_c : TCode :=
  (.seq (.reg [.op (some 6) (.mov (.k (.c TI (0 : Int))))])
 (.seq (.reg [.op (some 7) (.mov (.k (.c TI (-1 : Int))))])
  (.seq (.seq (.reg [.op (some 8) (.mov (.k (.c TI (0 : Int))))])
    (.block 0 (.loop s_l9Place_L2 s_l9Place_b2)))
   s_l9Place_y1)))
def s_l9Place_rs : List (ARv × Md) := [(.t 6, .one .d)]
theorem s_l9Place_st : compF Try.prog 111 = some (s_l9Place_c.er, s_l9Place_rs.map Prod.fst, 35) := by kernel_rfl
def s_l9Place_Q (K : TRes → Prop) : TPost := TQ 0 0 s_l9Place_rs K
def s_l9Place_q1 (K : TRes → Prop) : TPost := Qseq (tawp s_l9Place_G 0 s_l9Place_y1 (s_l9Place_Q K)) (s_l9Place_Q K)
def s_l9Place_q2 (K : TRes → Prop) : TPost := Qblk 0 (s_l9Place_q1 K)
def s_l9Place_A2 (K : TRes → Prop) (l : List TIns) (kind : Int) (m : Int) (att : Int) (i : Int) : Prop := Loop s_l9Place_G 0 s_l9Place_L2 s_l9Place_b2 (s_l9Place_q2 K) ⟨[(0, (.c (.sl ctIns) l)), (1, (.c TI kind)), (2, (.c TI m)), (7, (.c TI att)), (8, (.c TI i))], [], 0⟩
theorem s_l9Place_v2 (K : TRes → Prop) (l : List TIns) (kind : Int) (m : Int) (att : Int) (i : Int) (h :
  (((decide (i < (l.length : Int))) = true → ((((0 : Int) ≤ i ∧ Int.toNat i < l.length) ∧ ((((gtd dIns l (Int.toNat i)).1) == kind) = true → ((0 : Int) ≤ i ∧ Int.toNat i < l.length))) ∧ ((((((gtd dIns l (Int.toNat i)).1) == kind) && (((gtd dIns l (Int.toNat i)).2) == m)) = true → (((decide (att ≥ (0 : Int))) = true → K (s_l9Place_R (-1 : Int))) ∧ ((decide (att ≥ (0 : Int))) = false → (s_l9Place_A2 K l kind m i (w64 (i + (1 : Int))))))) ∧ (((((gtd dIns l (Int.toNat i)).1) == kind) && (((gtd dIns l (Int.toNat i)).2) == m)) = false → (s_l9Place_A2 K l kind m att (w64 (i + (1 : Int)))))))) ∧ ((decide (i < (l.length : Int))) = false → K (s_l9Place_R att)))) : s_l9Place_A2 K l kind m att i :=
  Loop.of (by kernel_rfl) h
theorem s_l9Place_v0 (K : TRes → Prop) (l : List TIns) (kind : Int) (m : Int) (h :
  (s_l9Place_A2 K l kind m (-1 : Int) (0 : Int))) : Hold (tawp s_l9Place_G (0 + 0) s_l9Place_c (TQ 0 0 s_l9Place_rs K) (tstart [(.c (.sl ctIns) l), (.c TI kind), (.c TI m)])) :=
  Hold.of (by kernel_rfl) h
theorem s_l9Place_t (l : List TIns) (kind : Int) (m : Int) (r : TRes) (h : Hold (tawp s_l9Place_G (0 + 0) s_l9Place_c (TQ 0 0 s_l9Place_rs fun r' => r' = r) (tstart [(.c (.sl ctIns) l), (.c TI kind), (.c TI m)]))) : TCon Try.prog 111 [(.c (.sl ctIns) l), (.c TI kind), (.c TI m)] r :=
  tcon_gen (sg := [(.c (.sl ctIns)), (.c TI), (.c TI)]) mixed TOk.nil s_l9Place_st (by kernel_rfl) (by kernel_rfl) (by kernel_rfl) (by kernel_rfl) h
theorem s_l9Place_h : s_l9Place_C := by
  intro l kind m
  refine tcon_bd rfl fun hb => s_l9Place_t l kind m _ (s_l9Place_v0 _ l kind m ?_)
  have hl_l : l.length ≤ 9223372036854775807 := hb.1.1
  refine listLoop l (fun r k => ∀ a : Int, placeGo (kind, m) r k a = (m_l9Place l kind m) → s_l9Place_A2 (fun r' => r' = s_l9Place_R (m_l9Place l kind m)) l kind m a k) ?_ ?_ (-1) rfl
  · intro a he
    refine s_l9Place_v2 (fun r' => r' = s_l9Place_R (m_l9Place l kind m)) l kind m _ _ ⟨fun h => by simp at h, fun _ => R_eq ?_⟩
    rw [← he]; rfl
  · intro k x r hk hlt hg ih a he
    refine s_l9Place_v2 (fun r' => r' = s_l9Place_R (m_l9Place l kind m)) l kind m _ _ ⟨fun _ => ?_, fun h => by simp at h; omega⟩
    rw [Int.toNat_natCast, hg, sc1 (by omega)]
    rw [placeGo] at he
    refine ⟨⟨⟨by omega, hlt⟩, fun _ => ⟨by omega, hlt⟩⟩, fun h => ?_, fun h => ih _ ?_⟩
    · have hx : x = (kind, m) := by simp at h; exact Prod.ext h.1 h.2
      rw [if_pos hx] at he
      refine ⟨fun h => R_eq ?_, fun h => ih _ ?_⟩
      · rw [if_pos (by simpa using h)] at he; exact he
      · rw [if_neg (by simpa using h)] at he; exact he
    · have hx : ¬ x = (kind, m) := by rintro rfl; simp at h
      rw [if_neg hx] at he; exact he

theorem s_l9Place_ok : TRowOk Try.prog s_l9Place_row := rowOk fun x _ => s_l9Place_h x.1 x.2.1 x.2.2.1

def s_l9Order_R (t : (List Int)) : TRes := ⟨(.c (.sl [TI]) t), [], [], true, []⟩
def s_l9Order_row : TRow := mkRow 110 [(.c TI), (.c TI), (.c .bool)] fun x => (some (p_l9o x.1 x.2.1 x.2.2.1), s_l9Order_R (m_l9Order x.1 x.2.1 x.2.2.1))
def s_l9Order_C : Prop := ∀ (x0 : Int) (x1 : Int) (x2 : Bool), (p_l9o x0 x1 x2) → TCon Try.prog 110 [(.c TI x0), (.c TI x1), (.c .bool x2)] (s_l9Order_R (m_l9Order x0 x1 x2))

/-! spec.l9Order -/
def s_l9Order_G : List TRow := [s_l9Ahead_row, s_l9Back_row]
def s_l9Order_b2 : TCode :=
  (.seq (.seq (.reg [.op (some 20) (.mov (.s 9)),
     .op (some 21) (.mov (.s 7)),
     .op (some 22) (.len (.s 21)),
     .op (some 23) (.bin .lss (.s 20) (.s 22))])
  (.cond (.s 23) .skip (.exit 0)))
 (.seq (.block 1 (.reg [.op (some 26) (.mov (.s 8)),
      .op (some 27) (.mov (.s 7)),
      .op (some 28) (.mov (.s 9)),
      .op (some 29) (.iad (.s 27) (.s 28) ctIns),
      .op (some 30) (.fad (.s 29) 0),
      .op (some 31) (.load (.s 30) 1 false),
      .op (some 32) (.bsl 3 [TI] [(.s 31)]),
      .op (some 33) (.app (.s 26) (.s 32) 3 [TI]),
      .op (some 8) (.mov (.s 33))]))
  (.reg [.op (some 24) (.mov (.s 9)),
     .op (some 25) (.bin .add (.s 24) (.k (.c TI (1 : Int)))),
     .op (some 9) (.mov (.s 25))])))
def s_l9Order_L2 : List (Nat × Md) := [(7, .one .f), (8, .one .f), (9, .one .d)]
def s_l9Order_y1 : TCode :=
  (.seq (.reg [.op (some 34) (.mov (.s 8)),
    .op (some 6) (.mov (.s 34))])
 .ret)
def s_l9Order_c : TCode :=
  (.seq (.reg [.op (some 6) (.mov (.k (.n [TI])))])
 (.seq (.reg [.op (some 10) (.bsl 151 ctIns []),
     .op (some 7) (.mov (.s 10))])
  (.seq (.reg [.op (some 11) (.mov (.s 7)),
      .op (some 12) (.mov (.s 0)),
      .op (some 13) (.mov (.s 1)),
      .op (some 14) (.call 104 [(.s 11), (.s 12), (.s 13), (.k (.c TI (0 : Int)))]),
      .op (some 15) (.mov (.s 0)),
      .op (some 16) (.mov (.s 1)),
      .op (some 17) (.mov (.s 2)),
      .op (some 18) (.call 105 [(.s 14), (.s 15), (.s 16), (.k (.c TI (0 : Int))), (.s 17)]),
      .op (some 7) (.mov (.s 18))])
   (.seq (.reg [.op (some 19) (.bsl 3 [TI] []),
       .op (some 8) (.mov (.s 19))])
    (.seq (.seq (.reg [.op (some 9) (.mov (.k (.c TI (0 : Int))))])
      (.block 0 (.loop s_l9Order_L2 s_l9Order_b2)))
     s_l9Order_y1)))))
def s_l9Order_rs : List (ARv × Md) := [(.t 6, .one .d)]
theorem s_l9Order_st : compF Try.prog 110 = some (s_l9Order_c.er, s_l9Order_rs.map Prod.fst, 35) := by kernel_rfl
def s_l9Order_Q (K : TRes → Prop) : TPost := TQ 0 0 s_l9Order_rs K
def s_l9Order_q1 (K : TRes → Prop) : TPost := Qseq (tawp s_l9Order_G 0 s_l9Order_y1 (s_l9Order_Q K)) (s_l9Order_Q K)
def s_l9Order_q2 (K : TRes → Prop) : TPost := Qblk 0 (s_l9Order_q1 K)
def s_l9Order_A2 (K : TRes → Prop) (i : Int) (l : List TIns) (out : List Int) : Prop := Loop s_l9Order_G 0 s_l9Order_L2 s_l9Order_b2 (s_l9Order_q2 K) ⟨[(7, (.r ctIns 0 0 l.length)), (8, (.r [TI] 1 0 out.length)), (9, (.c TI i))], [(0, (.sl 151 ctIns true l)), (1, (.sl 3 [TI] true out))], 2⟩
theorem s_l9Order_v2 (K : TRes → Prop) (i : Int) (l : List TIns) (out : List Int) (h :
  (((decide (i < ((l.length : Nat) : Int))) = true → ((((0 : Int) ≤ i ∧ Int.toNat i < l.length) ∧ (((0 + (Int.toNat i)) < l.length) ∧ ((out.length = out.length ∨ out.length + 1 ≤ out.length) ∧ out.length + 1 ≤ big))) ∧ (s_l9Order_A2 K (w64 (i + (1 : Int))) (List.take l.length l) (List.take (out.length + 1) ((List.take out.length out) ++ ([(gtd dIns l (0 + (Int.toNat i))).1])))))) ∧ ((decide (i < ((l.length : Nat) : Int))) = false → K (s_l9Order_R (List.take out.length (List.drop 0 out)))))) : s_l9Order_A2 K i l out :=
  Loop.of (by kernel_rfl) h
theorem s_l9Order_v0 (K : TRes → Prop) (stages : Int) (s : Int) (redo : Bool) (h :
  ((((0 = 0) ∧ (p_l9 ([] : List TIns) stages s (0 : Int))) ∧ (((m_l9Ahead ([] : List TIns) stages s (0 : Int)).length = (m_l9Ahead ([] : List TIns) stages s (0 : Int)).length) ∧ (p_l9b (m_l9Ahead ([] : List TIns) stages s (0 : Int)) stages s (0 : Int) redo))) ∧ (s_l9Order_A2 K (0 : Int) (List.take ((m_l9Back (m_l9Ahead ([] : List TIns) stages s (0 : Int)) stages s (0 : Int) redo).length) (m_l9Back (m_l9Ahead ([] : List TIns) stages s (0 : Int)) stages s (0 : Int) redo)) ([] : List Int)))) : Hold (tawp s_l9Order_G (0 + 0) s_l9Order_c (TQ 0 0 s_l9Order_rs K) (tstart [(.c TI stages), (.c TI s), (.c .bool redo)])) :=
  Hold.of (by kernel_rfl) h
theorem s_l9Order_t (stages : Int) (s : Int) (redo : Bool) (r : TRes) (h : Hold (tawp s_l9Order_G (0 + 0) s_l9Order_c (TQ 0 0 s_l9Order_rs fun r' => r' = r) (tstart [(.c TI stages), (.c TI s), (.c .bool redo)]))) : TCon Try.prog 110 [(.c TI stages), (.c TI s), (.c .bool redo)] r :=
  tcon_gen (sg := [(.c TI), (.c TI), (.c .bool)]) mixed (TOk.cons s_l9Ahead_ok (TOk.cons s_l9Back_ok TOk.nil)) s_l9Order_st (by kernel_rfl) (by kernel_rfl) (by kernel_rfl) (by kernel_rfl) h
theorem s_l9Order_h : s_l9Order_C := by
  intro stages s redo hp
  refine tcon_bd rfl fun hb => s_l9Order_t stages s redo _ (s_l9Order_v0 _ stages s redo ?_)
  have hW : m_l9Back (m_l9Ahead [] stages s 0) stages s 0 redo = want stages s 0 redo := rfl
  have h7 : (want stages s 0 redo).length ≤ 7 := by rw [want_len]; exact order_le _ _ _
  obtain ⟨h1, h2⟩ := hp
  have ha := ahead_len stages s 0
  refine ⟨⟨⟨rfl, ⟨by omega, by omega⟩, by simp⟩, rfl, ⟨by omega, by omega⟩, by show (m_ahead stages s 0).length ≤ _; omega⟩, ?_⟩
  rw [List.take_length, hW]
  refine listLoop (want stages s 0 redo) (fun r k => ∀ v : List Int, v.length = k → v ++ r.map Prod.fst = (m_l9Order stages s redo) → s_l9Order_A2 (fun r' => r' = s_l9Order_R (m_l9Order stages s redo)) k (want stages s 0 redo) v) ?_ ?_ [] rfl rfl
  · intro v hv he
    refine s_l9Order_v2 (fun r' => r' = s_l9Order_R (m_l9Order stages s redo)) _ _ _ ⟨fun h => by simp at h, fun _ => R_eq ?_⟩
    rw [List.drop_zero, List.take_length, ← he]; simp
  · intro k x r hk hlt hg ih v hv he
    refine s_l9Order_v2 (fun r' => r' = s_l9Order_R (m_l9Order stages s redo)) _ _ _ ⟨fun _ => ?_, fun h => by simp at h; omega⟩
    rw [Int.toNat_natCast, Nat.zero_add, hg, sc1 (by omega), take_app1, List.take_length]
    exact ⟨⟨⟨by omega, hlt⟩, hlt, room (by omega)⟩, ih _ (snoc_len hv) (by rw [← he]; simp)⟩

theorem s_l9Order_ok : TRowOk Try.prog s_l9Order_row := rowOk fun x h => s_l9Order_h x.1 x.2.1 x.2.2.1 h

def i_risesByKind_R (t : Bool) : TRes := ⟨(.c .bool t), [], [], false, []⟩
def i_risesByKind_row : TRow := mkRow 113 [(.c (.sl ctIns))] fun x => (none, i_risesByKind_R (m_rises x.1))
def i_risesByKind_C : Prop := ∀ (x0 : List TIns), TCon Try.prog 113 [(.c (.sl ctIns) x0)] (i_risesByKind_R (m_rises x0))

/-! impl.risesByKind -/
def i_risesByKind_G : List TRow := []
def i_risesByKind_b4 : TCode :=
  (.seq (.reg [.op (some 19) (.bin .lss (.s 18) (.s 17))])
 (.seq (.cond (.s 19) .skip (.exit 2))
  (.seq (.block 3 (.seq (.reg [.op (some 20) (.iad (.s 16) (.s 18) ctIns),
        .op (some 21) (.load (.s 20) 2 true),
        .op (some 6) (.new 151 [(.c TI (0 : Int)), (.c TI (0 : Int))]),
        .op none (.store (.s 6) (.s 21) 2)])
     (.seq (.reg [.op (some 22) (.fad (.s 4) 0),
         .op (some 23) (.load (.s 22) 1 false),
         .op (some 24) (.fad (.s 6) 0),
         .op (some 25) (.load (.s 24) 1 false),
         .op (some 26) (.bin .eql (.s 23) (.s 25)),
         .op (some 27) (.mov (.s 26)),
         .grp 27 true [.op (some 28) (.fad (.s 4) 1), .op (some 29) (.load (.s 28) 1 false), .op (some 30) (.fad (.s 6) 1), .op (some 31) (.load (.s 30) 1 false), .op (some 32) (.bin .leq (.s 29) (.s 31))] 33 (.s 32)])
      (.cond (.s 33) (.seq (.reg [.op (some 2) (.mov (.k (.c .bool false)))])
        .ret) .skip))))
   (.reg [.op (some 34) (.bin .add (.s 18) (.k (.c TI (1 : Int)))),
      .op (some 18) (.mov (.s 34))]))))
def i_risesByKind_L4 : List (Nat × Md) := [(0, .one .d), (4, .b [.d, .d]), (7, .one .d), (8, .one .d), (9, .one .d), (16, .one .d), (17, .one .d), (18, .one .d)]
def i_risesByKind_y3 : TCode :=
  (.reg [.op (some 35) (.bin .add (.s 9) (.k (.c TI (1 : Int)))),
   .op (some 9) (.mov (.s 35))])
def i_risesByKind_b2 : TCode :=
  (.seq (.reg [.op (some 10) (.bin .lss (.s 9) (.s 8))])
 (.seq (.cond (.s 10) .skip (.exit 0))
  (.seq (.block 1 (.seq (.reg [.op (some 11) (.mov (.s 9)),
        .op (some 12) (.iad (.s 7) (.s 9) ctIns),
        .op (some 13) (.load (.s 12) 2 true),
        .op (some 4) (.new 151 [(.c TI (0 : Int)), (.c TI (0 : Int))]),
        .op (some 3) (.mov (.s 11)),
        .op none (.store (.s 4) (.s 13) 2)])
     (.seq (.reg [.op (some 14) (.mov (.s 0)),
         .op (some 15) (.mov (.s 3)),
         .op (some 16) (.slc (.s 14) none (some (.s 15)) ctIns),
         .op (some 17) (.len (.s 16)),
         .op (some 18) (.mov (.k (.c TI (0 : Int))))])
      (.block 2 (.loop i_risesByKind_L4 i_risesByKind_b4)))))
   i_risesByKind_y3)))
def i_risesByKind_L2 : List (Nat × Md) := [(0, .one .d), (7, .one .d), (8, .one .d), (9, .one .d)]
def i_risesByKind_y1 : TCode :=
  (.seq (.reg [.op (some 2) (.mov (.k (.c .bool true)))])
 .ret)
def i_risesByKind_c : TCode :=
  (.seq (.reg [.op (some 2) (.mov (.k (.c .bool false)))])
 (.seq (.seq (.reg [.op (some 7) (.mov (.s 0)),
      .op (some 8) (.len (.s 7)),
      .op (some 9) (.mov (.k (.c TI (0 : Int))))])
   (.block 0 (.loop i_risesByKind_L2 i_risesByKind_b2)))
  i_risesByKind_y1))
def i_risesByKind_rs : List (ARv × Md) := [(.t 2, .one .d)]
theorem i_risesByKind_st : compF Try.prog 113 = some (i_risesByKind_c.er, i_risesByKind_rs.map Prod.fst, 36) := by kernel_rfl
def i_risesByKind_Q (K : TRes → Prop) : TPost := TQ 0 0 i_risesByKind_rs K
def i_risesByKind_q1 (K : TRes → Prop) : TPost := Qseq (tawp i_risesByKind_G 0 i_risesByKind_y1 (i_risesByKind_Q K)) (i_risesByKind_Q K)
def i_risesByKind_q2 (K : TRes → Prop) : TPost := Qblk 0 (i_risesByKind_q1 K)
def i_risesByKind_q3 (K : TRes → Prop) : TPost := Qseq (fun s' => Loop i_risesByKind_G 0 i_risesByKind_L2 i_risesByKind_b2 (i_risesByKind_q2 K) (gc 0 i_risesByKind_L2 s')) (i_risesByKind_q2 K)
def i_risesByKind_q4 (K : TRes → Prop) : TPost := Qseq (tawp i_risesByKind_G 0 i_risesByKind_y3 (i_risesByKind_q3 K)) (i_risesByKind_q3 K)
def i_risesByKind_q5 (K : TRes → Prop) : TPost := Qblk 1 (i_risesByKind_q4 K)
def i_risesByKind_q6 (K : TRes → Prop) : TPost := Qblk 2 (i_risesByKind_q5 K)
def i_risesByKind_A4 (K : TRes → Prop) (l : List TIns) (x : Int) (x1 : Int) : Prop := Loop i_risesByKind_G 0 i_risesByKind_L4 i_risesByKind_b4 (i_risesByKind_q6 K) ⟨[(0, (.c (.sl ctIns) l)), (4, (.p 0 0 0)), (7, (.c (.sl ctIns) l)), (8, (.c TI (l.length : Int))), (9, (.c TI x1)), (16, (.c (.sl ctIns) (List.take (Int.toNat x1 - Int.toNat (0 : Int)) (List.drop (Int.toNat (0 : Int)) l)))), (17, (.c TI ((List.take (Int.toNat x1 - Int.toNat (0 : Int)) (List.drop (Int.toNat (0 : Int)) l)).length : Int))), (18, (.c TI x))], [(0, (.box [(.c TI ((gtd dIns l (Int.toNat x1)).1)), (.c TI ((gtd dIns l (Int.toNat x1)).2))]))], 1⟩
def i_risesByKind_A2 (K : TRes → Prop) (l : List TIns) (x1 : Int) : Prop := Loop i_risesByKind_G 0 i_risesByKind_L2 i_risesByKind_b2 (i_risesByKind_q2 K) ⟨[(0, (.c (.sl ctIns) l)), (7, (.c (.sl ctIns) l)), (8, (.c TI (l.length : Int))), (9, (.c TI x1))], [], 0⟩
theorem i_risesByKind_v4 (K : TRes → Prop) (l : List TIns) (x : Int) (x1 : Int) (h :
  (((decide (x < ((List.take (Int.toNat x1 - Int.toNat (0 : Int)) (List.drop (Int.toNat (0 : Int)) l)).length : Int))) = true → (((0 : Int) ≤ x ∧ Int.toNat x < (List.take (Int.toNat x1 - Int.toNat (0 : Int)) (List.drop (Int.toNat (0 : Int)) l)).length) ∧ ((((((gtd dIns l (Int.toNat x1)).1) == ((gtd dIns (List.take (Int.toNat x1 - Int.toNat (0 : Int)) (List.drop (Int.toNat (0 : Int)) l)) (Int.toNat x)).1)) && (decide (((gtd dIns l (Int.toNat x1)).2) ≤ ((gtd dIns (List.take (Int.toNat x1 - Int.toNat (0 : Int)) (List.drop (Int.toNat (0 : Int)) l)) (Int.toNat x)).2)))) = true → K (i_risesByKind_R false)) ∧ (((((gtd dIns l (Int.toNat x1)).1) == ((gtd dIns (List.take (Int.toNat x1 - Int.toNat (0 : Int)) (List.drop (Int.toNat (0 : Int)) l)) (Int.toNat x)).1)) && (decide (((gtd dIns l (Int.toNat x1)).2) ≤ ((gtd dIns (List.take (Int.toNat x1 - Int.toNat (0 : Int)) (List.drop (Int.toNat (0 : Int)) l)) (Int.toNat x)).2)))) = false → (i_risesByKind_A4 K l (w64 (x + (1 : Int))) x1))))) ∧ ((decide (x < ((List.take (Int.toNat x1 - Int.toNat (0 : Int)) (List.drop (Int.toNat (0 : Int)) l)).length : Int))) = false → (i_risesByKind_A2 K l (w64 (x1 + (1 : Int))))))) : i_risesByKind_A4 K l x x1 :=
  Loop.of (by kernel_rfl) h
theorem i_risesByKind_v2 (K : TRes → Prop) (l : List TIns) (x1 : Int) (h :
  (((decide (x1 < (l.length : Int))) = true → (((0 : Int) ≤ x1 ∧ Int.toNat x1 < l.length) ∧ (((0 : Int) ≤ (0 : Int) ∧ (0 : Int) ≤ x1 ∧ x1 ≤ (l.length : Int)) ∧ (i_risesByKind_A4 K l (0 : Int) x1)))) ∧ ((decide (x1 < (l.length : Int))) = false → K (i_risesByKind_R true)))) : i_risesByKind_A2 K l x1 :=
  Loop.of (by kernel_rfl) h
theorem i_risesByKind_v0 (K : TRes → Prop) (l : List TIns) (h :
  (i_risesByKind_A2 K l (0 : Int))) : Hold (tawp i_risesByKind_G (0 + 0) i_risesByKind_c (TQ 0 0 i_risesByKind_rs K) (tstart [(.c (.sl ctIns) l)])) :=
  Hold.of (by kernel_rfl) h
theorem i_risesByKind_t (l : List TIns) (r : TRes) (h : Hold (tawp i_risesByKind_G (0 + 0) i_risesByKind_c (TQ 0 0 i_risesByKind_rs fun r' => r' = r) (tstart [(.c (.sl ctIns) l)]))) : TCon Try.prog 113 [(.c (.sl ctIns) l)] r :=
  tcon_gen (sg := [(.c (.sl ctIns))]) mixed TOk.nil i_risesByKind_st (by kernel_rfl) (by kernel_rfl) (by kernel_rfl) (by kernel_rfl) h
theorem i_risesByKind_h : i_risesByKind_C := by
  intro l
  refine tcon_bd rfl fun hb => i_risesByKind_t l _ (i_risesByKind_v0 _ l ?_)
  have hl_l : l.length ≤ 9223372036854775807 := hb.1.1
  refine upLoop l.length (fun k => ((List.range k).all fun k => (List.range k).all fun j => !(((gtd dIns l k).1 == (gtd dIns l j).1) && decide ((gtd dIns l k).2 ≤ (gtd dIns l j).2))) = true → i_risesByKind_A2 (fun r' => r' = i_risesByKind_R (m_rises l)) l k) ?_ ?_ rfl
  · intro hd
    exact i_risesByKind_v2 (fun r' => r' = i_risesByKind_R (m_rises l)) l _ ⟨fun h => by simp at h, fun _ => R_eq hd.symm⟩
  · intro k hk ih hd
    refine i_risesByKind_v2 (fun r' => r' = i_risesByKind_R (m_rises l)) l _ ⟨fun _ => ⟨⟨by omega, by simpa using hk⟩, ⟨by omega, by omega, by omega⟩, ?_⟩, fun h => by simp at h; omega⟩
    refine upLoop k (fun j => ((List.range j).all fun j => !(((gtd dIns l k).1 == (gtd dIns l j).1) && decide ((gtd dIns l k).2 ≤ (gtd dIns l j).2))) = true → i_risesByKind_A4 (fun r' => r' = i_risesByKind_R (m_rises l)) l j k) ?_ ?_ rfl
    · intro hd2
      refine i_risesByKind_v4 (fun r' => r' = i_risesByKind_R (m_rises l)) l _ _ ?_
      simp only [Int.toNat_natCast, Int.toNat_zero, Nat.sub_zero, List.drop_zero, List.length_take]
      refine ⟨fun h => by simp at h; omega, fun _ => ?_⟩
      rw [sc1 (by omega)]
      exact ih (by rw [List.range_succ, List.all_append, hd]; simp only [List.all_cons, List.all_nil, Bool.and_true, Bool.true_and]; exact hd2)
    · intro j hj ih2 hd2
      refine i_risesByKind_v4 (fun r' => r' = i_risesByKind_R (m_rises l)) l _ _ ?_
      simp only [Int.toNat_natCast, Int.toNat_zero, Nat.sub_zero, List.drop_zero, List.length_take, gtd_take hj]
      refine ⟨fun _ => ⟨⟨by omega, by omega⟩, fun h => R_eq ?_, fun h => ?_⟩, fun h => by simp at h; omega⟩
      · symm
        rw [← Bool.not_eq_true]
        unfold m_rises
        rw [List.all_eq_true]
        intro hA
        have := List.all_eq_true.1 (hA k (List.mem_range.2 hk)) j (List.mem_range.2 hj)
        rw [h] at this; simp at this
      · rw [sc1 (by omega)]
        exact ih2 (by rw [List.range_succ, List.all_append, hd2]; simp only [List.all_cons, List.all_nil, Bool.and_true, Bool.true_and]; rw [h]; rfl)

theorem i_risesByKind_ok : TRowOk Try.prog i_risesByKind_row := rowOk fun x _ => i_risesByKind_h x.1

def i_PlanOk_R (t : Bool) : TRes := ⟨(.c .bool t), [], [], false, []⟩
def i_PlanOk_row : TRow := mkRow 25 [(.c (.sl ctIns)), (.c TI), (.c TI), (.c TI), (.c .bool)] fun x => (none, i_PlanOk_R (m_planOk x.1 x.2.1 x.2.2.1 x.2.2.2.1 x.2.2.2.2.1))
def i_PlanOk_C : Prop := ∀ (x0 : List TIns) (x1 : Int) (x2 : Int) (x3 : Int) (x4 : Bool), TCon Try.prog 25 [(.c (.sl ctIns) x0), (.c TI x1), (.c TI x2), (.c TI x3), (.c .bool x4)] (i_PlanOk_R (m_planOk x0 x1 x2 x3 x4))

/-! impl.PlanOk -/
def i_PlanOk_G : List TRow := [i_planned_row, i_ahead_row, i_backOf_row, i_risesByKind_row]
def i_PlanOk_b5 : TCode :=
  (.seq (.reg [.op (some 60) (.bin .lss (.s 59) (.s 58))])
 (.seq (.cond (.s 60) .skip (.exit 2))
  (.seq (.block 3 (.seq (.reg [.op (some 61) (.iad (.s 57) (.s 59) ctIns),
        .op (some 62) (.load (.s 61) 2 true),
        .op (some 18) (.new 151 [(.c TI (0 : Int)), (.c TI (0 : Int))]),
        .op none (.store (.s 18) (.s 62) 2)])
     (.seq (.seq (.reg [.op (some 63) (.fad (.s 18) 1),
          .op (some 64) (.load (.s 63) 1 false),
          .op (some 65) (.mov (.s 14)),
          .op (some 66) (.bin .neq (.s 64) (.s 65))])
       (.cond (.s 66) (.exit 3) .skip))
      (.seq (.seq (.draw [.op (some 67) (.mov (.s 16)),
           .op (some 68) (.mov (.s 15)),
           .op (some 69) (.len (.s 68)),
           .op (some 70) (.bin .eql (.s 67) (.s 69)),
           .op (some 71) (.mov (.s 70)),
           .grp 71 false [.op (some 72) (.load (.s 18) 2 true), .op (some 73) (.mov (.s 15)), .op (some 74) (.mov (.s 16)), .op (some 75) (.iad (.s 73) (.s 74) ctIns), .op (some 76) (.load (.s 75) 2 true), .op (some 77) (.cmpa 2 true (.s 72) (.s 76))] 78 (.s 77)] [])
        (.cond (.s 78) (.seq (.reg [.op (some 10) (.mov (.k (.c .bool false)))])
          .ret) .skip))
       (.reg [.op (some 79) (.mov (.s 16)),
          .op (some 80) (.bin .add (.s 79) (.k (.c TI (1 : Int)))),
          .op (some 16) (.mov (.s 80))])))))
   (.reg [.op (some 81) (.bin .add (.s 59) (.k (.c TI (1 : Int)))),
      .op (some 59) (.mov (.s 81))]))))
def i_PlanOk_L5 : List (Nat × Md) := [(1, .one .d), (2, .one .d), (3, .one .d), (4, .one .d), (11, .one .d), (12, .one .d), (13, .one .d), (14, .one .d), (15, .one .d), (16, .one .d), (57, .one .d), (58, .one .d), (59, .one .d)]
def i_PlanOk_y4 : TCode :=
  (.seq (.seq (.reg [.op (some 82) (.mov (.s 16)),
     .op (some 83) (.mov (.s 15)),
     .op (some 84) (.len (.s 83)),
     .op (some 85) (.bin .lss (.s 82) (.s 84))])
  (.cond (.s 85) (.seq (.reg [.op (some 10) (.mov (.k (.c .bool false)))])
    .ret) .skip))
 (.reg [.op (some 86) (.mov (.s 13)),
    .op (some 87) (.mov (.s 16)),
    .op (some 88) (.bin .add (.s 86) (.s 87)),
    .op (some 13) (.mov (.s 88))]))
def i_PlanOk_y3 : TCode :=
  (.reg [.op (some 45) (.mov (.s 14)),
   .op (some 46) (.bin .add (.s 45) (.k (.c TI (1 : Int)))),
   .op (some 14) (.mov (.s 46))])
def i_PlanOk_b2 : TCode :=
  (.seq (.seq (.reg [.op (some 42) (.mov (.s 14)),
     .op (some 43) (.mov (.s 3)),
     .op (some 44) (.bin .lss (.s 42) (.s 43))])
  (.cond (.s 44) .skip (.exit 0)))
 (.seq (.block 1 (.seq (.reg [.op (some 47) (.mov (.s 1)),
       .op (some 48) (.mov (.s 2)),
       .op (some 49) (.mov (.s 14)),
       .op (some 50) (.call 107 [(.s 47), (.s 48), (.s 49)]),
       .op (some 51) (.mov (.s 1)),
       .op (some 52) (.mov (.s 2)),
       .op (some 53) (.mov (.s 14)),
       .op (some 54) (.mov (.s 4)),
       .op (some 55) (.call 108 [(.s 51), (.s 52), (.s 53), (.s 54)]),
       .op (some 56) (.app (.s 50) (.s 55) 151 ctIns),
       .op (some 15) (.mov (.s 56))])
    (.seq (.reg [.op (some 16) (.mov (.k (.c TI (0 : Int))))])
     (.seq (.seq (.reg [.op (some 57) (.mov (.s 12)),
          .op (some 58) (.len (.s 57)),
          .op (some 59) (.mov (.k (.c TI (0 : Int))))])
       (.block 2 (.loop i_PlanOk_L5 i_PlanOk_b5)))
      i_PlanOk_y4))))
  i_PlanOk_y3))
def i_PlanOk_L2 : List (Nat × Md) := [(1, .one .d), (2, .one .d), (3, .one .d), (4, .one .d), (11, .one .d), (12, .one .d), (13, .one .d), (14, .one .d)]
def i_PlanOk_y1 : TCode :=
  (.seq (.reg [.op (some 89) (.mov (.s 13)),
    .op (some 90) (.mov (.s 11)),
    .op (some 91) (.bin .eql (.s 89) (.s 90)),
    .op (some 92) (.mov (.s 91)),
    .grp 92 true [.op (some 93) (.mov (.s 12)), .op (some 94) (.call 113 [(.s 93)])] 95 (.s 94),
    .op (some 10) (.mov (.s 95))])
 .ret)
def i_PlanOk_c : TCode :=
  (.seq (.reg [.op (some 10) (.mov (.k (.c .bool false)))])
 (.seq (.reg [.op (some 19) (.mov (.s 0)),
     .op (some 20) (.len (.s 19)),
     .op (some 21) (.bin .sub (.s 20) (.k (.c TI (1 : Int)))),
     .op (some 11) (.mov (.s 21))])
  (.seq (.seq (.reg [.op (some 22) (.mov (.s 1)),
       .op (some 23) (.mov (.s 2)),
       .op (some 24) (.mov (.s 3)),
       .op (some 25) (.call 106 [(.s 22), (.s 23), (.s 24)]),
       .op (some 26) (.not (.s 25)),
       .op (some 27) (.mov (.s 26)),
       .grp 27 false [.op (some 28) (.mov (.s 11)), .op (some 29) (.bin .lss (.s 28) (.k (.c TI (0 : Int))))] 30 (.s 29),
       .op (some 31) (.mov (.s 30)),
       .grp 31 false [.op (some 32) (.mov (.s 0)), .op (some 33) (.mov (.s 11)), .op (some 34) (.iad (.s 32) (.s 33) ctIns), .op (some 35) (.load (.s 34) 2 true), .op (some 36) (.build [(.c TI (0 : Int)), (.c TI (0 : Int))] [(0, 1, (.k (.c TI (8 : Int)))), (1, 1, (.k (.c TI (0 : Int))))]), .op (some 37) (.cmpa 2 true (.s 35) (.s 36))] 38 (.s 37)])
    (.cond (.s 38) (.seq (.reg [.op (some 10) (.mov (.k (.c .bool false)))])
      .ret) .skip))
   (.seq (.reg [.op (some 39) (.mov (.s 0)),
       .op (some 40) (.mov (.s 11)),
       .op (some 41) (.slc (.s 39) none (some (.s 40)) ctIns),
       .op (some 12) (.mov (.s 41))])
    (.seq (.reg [.op (some 13) (.mov (.k (.c TI (0 : Int))))])
     (.seq (.seq (.reg [.op (some 14) (.mov (.k (.c TI (0 : Int))))])
       (.block 0 (.loop i_PlanOk_L2 i_PlanOk_b2)))
      i_PlanOk_y1))))))
def i_PlanOk_rs : List (ARv × Md) := [(.t 10, .one .d)]
theorem i_PlanOk_st : compF Try.prog 25 = some (i_PlanOk_c.er, i_PlanOk_rs.map Prod.fst, 96) := by kernel_rfl
def i_PlanOk_Q (K : TRes → Prop) : TPost := TQ 0 0 i_PlanOk_rs K
def i_PlanOk_q1 (K : TRes → Prop) : TPost := Qseq (tawp i_PlanOk_G 0 i_PlanOk_y1 (i_PlanOk_Q K)) (i_PlanOk_Q K)
def i_PlanOk_q2 (K : TRes → Prop) : TPost := Qblk 0 (i_PlanOk_q1 K)
def i_PlanOk_q3 (K : TRes → Prop) : TPost := Qseq (fun s' => Loop i_PlanOk_G 0 i_PlanOk_L2 i_PlanOk_b2 (i_PlanOk_q2 K) (gc 0 i_PlanOk_L2 s')) (i_PlanOk_q2 K)
def i_PlanOk_q4 (K : TRes → Prop) : TPost := Qseq (tawp i_PlanOk_G 0 i_PlanOk_y3 (i_PlanOk_q3 K)) (i_PlanOk_q3 K)
def i_PlanOk_q5 (K : TRes → Prop) : TPost := Qblk 1 (i_PlanOk_q4 K)
def i_PlanOk_q6 (K : TRes → Prop) : TPost := Qseq (tawp i_PlanOk_G 0 i_PlanOk_y4 (i_PlanOk_q5 K)) (i_PlanOk_q5 K)
def i_PlanOk_q7 (K : TRes → Prop) : TPost := Qblk 2 (i_PlanOk_q6 K)
def i_PlanOk_A5 (K : TRes → Prop) (l : List TIns) (stages : Int) (s : Int) (micro : Int) (redo : Bool) (k : Int) (x : Int) (count : Int) (m : Int) : Prop := Loop i_PlanOk_G 0 i_PlanOk_L5 i_PlanOk_b5 (i_PlanOk_q7 K) ⟨[(1, (.c TI stages)), (2, (.c TI s)), (3, (.c TI micro)), (4, (.c .bool redo)), (11, (.c TI (w64 ((l.length : Int) - (1 : Int))))), (12, (.c (.sl ctIns) (List.take (Int.toNat (w64 ((l.length : Int) - (1 : Int))) - Int.toNat (0 : Int)) (List.drop (Int.toNat (0 : Int)) l)))), (13, (.c TI count)), (14, (.c TI m)), (15, (.c (.sl ctIns) (List.take ((m_ahead stages s m).length + (List.take ((m_backOf stages s m redo).length) (List.drop 0 (m_backOf stages s m redo))).length) (List.drop 0 ((List.take ((m_ahead stages s m).length) (m_ahead stages s m)) ++ (List.take ((m_backOf stages s m redo).length) (List.drop 0 (m_backOf stages s m redo)))))))), (16, (.c TI k)), (57, (.c (.sl ctIns) (List.take (Int.toNat (w64 ((l.length : Int) - (1 : Int))) - Int.toNat (0 : Int)) (List.drop (Int.toNat (0 : Int)) l)))), (58, (.c TI ((List.take (Int.toNat (w64 ((l.length : Int) - (1 : Int))) - Int.toNat (0 : Int)) (List.drop (Int.toNat (0 : Int)) l)).length : Int))), (59, (.c TI x))], [], 0⟩
def i_PlanOk_A2 (K : TRes → Prop) (l : List TIns) (stages : Int) (s : Int) (micro : Int) (redo : Bool) (count : Int) (m : Int) : Prop := Loop i_PlanOk_G 0 i_PlanOk_L2 i_PlanOk_b2 (i_PlanOk_q2 K) ⟨[(1, (.c TI stages)), (2, (.c TI s)), (3, (.c TI micro)), (4, (.c .bool redo)), (11, (.c TI (w64 ((l.length : Int) - (1 : Int))))), (12, (.c (.sl ctIns) (List.take (Int.toNat (w64 ((l.length : Int) - (1 : Int))) - Int.toNat (0 : Int)) (List.drop (Int.toNat (0 : Int)) l)))), (13, (.c TI count)), (14, (.c TI m))], [], 0⟩
theorem i_PlanOk_v5 (K : TRes → Prop) (l : List TIns) (stages : Int) (s : Int) (micro : Int) (redo : Bool) (k : Int) (x : Int) (count : Int) (m : Int) (h :
  (((decide (x < ((List.take (Int.toNat (w64 ((l.length : Int) - (1 : Int))) - Int.toNat (0 : Int)) (List.drop (Int.toNat (0 : Int)) l)).length : Int))) = true → (((0 : Int) ≤ x ∧ Int.toNat x < (List.take (Int.toNat (w64 ((l.length : Int) - (1 : Int))) - Int.toNat (0 : Int)) (List.drop (Int.toNat (0 : Int)) l)).length) ∧ (((((gtd dIns (List.take (Int.toNat (w64 ((l.length : Int) - (1 : Int))) - Int.toNat (0 : Int)) (List.drop (Int.toNat (0 : Int)) l)) (Int.toNat x)).2) != m) = true → (i_PlanOk_A5 K l stages s micro redo k (w64 (x + (1 : Int))) count m)) ∧ ((((gtd dIns (List.take (Int.toNat (w64 ((l.length : Int) - (1 : Int))) - Int.toNat (0 : Int)) (List.drop (Int.toNat (0 : Int)) l)) (Int.toNat x)).2) != m) = false → (((!(k == ((List.take ((m_ahead stages s m).length + (List.take ((m_backOf stages s m redo).length) (List.drop 0 (m_backOf stages s m redo))).length) (List.drop 0 ((List.take ((m_ahead stages s m).length) (m_ahead stages s m)) ++ (List.take ((m_backOf stages s m redo).length) (List.drop 0 (m_backOf stages s m redo)))))).length : Int))) = true → ((0 : Int) ≤ k ∧ Int.toNat k < (List.take ((m_ahead stages s m).length + (List.take ((m_backOf stages s m redo).length) (List.drop 0 (m_backOf stages s m redo))).length) (List.drop 0 ((List.take ((m_ahead stages s m).length) (m_ahead stages s m)) ++ (List.take ((m_backOf stages s m redo).length) (List.drop 0 (m_backOf stages s m redo)))))).length)) ∧ ((((k == ((List.take ((m_ahead stages s m).length + (List.take ((m_backOf stages s m redo).length) (List.drop 0 (m_backOf stages s m redo))).length) (List.drop 0 ((List.take ((m_ahead stages s m).length) (m_ahead stages s m)) ++ (List.take ((m_backOf stages s m redo).length) (List.drop 0 (m_backOf stages s m redo)))))).length : Int)) || (!decide (([(gtd dIns (List.take (Int.toNat (w64 ((l.length : Int) - (1 : Int))) - Int.toNat (0 : Int)) (List.drop (Int.toNat (0 : Int)) l)) (Int.toNat x)).1, (gtd dIns (List.take (Int.toNat (w64 ((l.length : Int) - (1 : Int))) - Int.toNat (0 : Int)) (List.drop (Int.toNat (0 : Int)) l)) (Int.toNat x)).2] : List Int) = [(gtd dIns (List.take ((m_ahead stages s m).length + (List.take ((m_backOf stages s m redo).length) (List.drop 0 (m_backOf stages s m redo))).length) (List.drop 0 ((List.take ((m_ahead stages s m).length) (m_ahead stages s m)) ++ (List.take ((m_backOf stages s m redo).length) (List.drop 0 (m_backOf stages s m redo)))))) (Int.toNat k)).1, (gtd dIns (List.take ((m_ahead stages s m).length + (List.take ((m_backOf stages s m redo).length) (List.drop 0 (m_backOf stages s m redo))).length) (List.drop 0 ((List.take ((m_ahead stages s m).length) (m_ahead stages s m)) ++ (List.take ((m_backOf stages s m redo).length) (List.drop 0 (m_backOf stages s m redo)))))) (Int.toNat k)).2]))) = true → K (i_PlanOk_R false)) ∧ (((k == ((List.take ((m_ahead stages s m).length + (List.take ((m_backOf stages s m redo).length) (List.drop 0 (m_backOf stages s m redo))).length) (List.drop 0 ((List.take ((m_ahead stages s m).length) (m_ahead stages s m)) ++ (List.take ((m_backOf stages s m redo).length) (List.drop 0 (m_backOf stages s m redo)))))).length : Int)) || (!decide (([(gtd dIns (List.take (Int.toNat (w64 ((l.length : Int) - (1 : Int))) - Int.toNat (0 : Int)) (List.drop (Int.toNat (0 : Int)) l)) (Int.toNat x)).1, (gtd dIns (List.take (Int.toNat (w64 ((l.length : Int) - (1 : Int))) - Int.toNat (0 : Int)) (List.drop (Int.toNat (0 : Int)) l)) (Int.toNat x)).2] : List Int) = [(gtd dIns (List.take ((m_ahead stages s m).length + (List.take ((m_backOf stages s m redo).length) (List.drop 0 (m_backOf stages s m redo))).length) (List.drop 0 ((List.take ((m_ahead stages s m).length) (m_ahead stages s m)) ++ (List.take ((m_backOf stages s m redo).length) (List.drop 0 (m_backOf stages s m redo)))))) (Int.toNat k)).1, (gtd dIns (List.take ((m_ahead stages s m).length + (List.take ((m_backOf stages s m redo).length) (List.drop 0 (m_backOf stages s m redo))).length) (List.drop 0 ((List.take ((m_ahead stages s m).length) (m_ahead stages s m)) ++ (List.take ((m_backOf stages s m redo).length) (List.drop 0 (m_backOf stages s m redo)))))) (Int.toNat k)).2]))) = false → (i_PlanOk_A5 K l stages s micro redo (w64 (k + (1 : Int))) (w64 (x + (1 : Int))) count m)))))))) ∧ ((decide (x < ((List.take (Int.toNat (w64 ((l.length : Int) - (1 : Int))) - Int.toNat (0 : Int)) (List.drop (Int.toNat (0 : Int)) l)).length : Int))) = false → (((decide (k < ((List.take ((m_ahead stages s m).length + (List.take ((m_backOf stages s m redo).length) (List.drop 0 (m_backOf stages s m redo))).length) (List.drop 0 ((List.take ((m_ahead stages s m).length) (m_ahead stages s m)) ++ (List.take ((m_backOf stages s m redo).length) (List.drop 0 (m_backOf stages s m redo)))))).length : Int))) = true → K (i_PlanOk_R false)) ∧ ((decide (k < ((List.take ((m_ahead stages s m).length + (List.take ((m_backOf stages s m redo).length) (List.drop 0 (m_backOf stages s m redo))).length) (List.drop 0 ((List.take ((m_ahead stages s m).length) (m_ahead stages s m)) ++ (List.take ((m_backOf stages s m redo).length) (List.drop 0 (m_backOf stages s m redo)))))).length : Int))) = false → (i_PlanOk_A2 K l stages s micro redo (w64 (count + k)) (w64 (m + (1 : Int))))))))) : i_PlanOk_A5 K l stages s micro redo k x count m :=
  Loop.of (by kernel_rfl) h
theorem i_PlanOk_v2 (K : TRes → Prop) (l : List TIns) (stages : Int) (s : Int) (micro : Int) (redo : Bool) (count : Int) (m : Int) (h :
  (((decide (m < micro)) = true → (((p_st stages s m) ∧ ((p_st4 stages s m redo) ∧ (((m_ahead stages s m).length = (m_ahead stages s m).length ∨ (m_ahead stages s m).length + (List.take ((m_backOf stages s m redo).length) (List.drop 0 (m_backOf stages s m redo))).length ≤ (m_ahead stages s m).length) ∧ (m_ahead stages s m).length + (List.take ((m_backOf stages s m redo).length) (List.drop 0 (m_backOf stages s m redo))).length ≤ big))) ∧ (i_PlanOk_A5 K l stages s micro redo (0 : Int) (0 : Int) count m))) ∧ ((decide (m < micro)) = false → K (i_PlanOk_R ((count == (w64 ((l.length : Int) - (1 : Int)))) && (m_rises (List.take (Int.toNat (w64 ((l.length : Int) - (1 : Int))) - Int.toNat (0 : Int)) (List.drop (Int.toNat (0 : Int)) l)))))))) : i_PlanOk_A2 K l stages s micro redo count m :=
  Loop.of (by kernel_rfl) h
theorem i_PlanOk_v0 (K : TRes → Prop) (l : List TIns) (stages : Int) (s : Int) (micro : Int) (redo : Bool) (h :
  (((!((!(m_planned stages s micro)) || (decide ((w64 ((l.length : Int) - (1 : Int))) < (0 : Int))))) = true → ((0 : Int) ≤ w64 ((l.length : Int) - (1 : Int)) ∧ Int.toNat (w64 ((l.length : Int) - (1 : Int))) < l.length)) ∧ (((((!(m_planned stages s micro)) || (decide ((w64 ((l.length : Int) - (1 : Int))) < (0 : Int)))) || (!decide (([(gtd dIns l (Int.toNat (w64 ((l.length : Int) - (1 : Int))))).1, (gtd dIns l (Int.toNat (w64 ((l.length : Int) - (1 : Int))))).2] : List Int) = [(8 : Int), (0 : Int)]))) = true → K (i_PlanOk_R false)) ∧ ((((!(m_planned stages s micro)) || (decide ((w64 ((l.length : Int) - (1 : Int))) < (0 : Int)))) || (!decide (([(gtd dIns l (Int.toNat (w64 ((l.length : Int) - (1 : Int))))).1, (gtd dIns l (Int.toNat (w64 ((l.length : Int) - (1 : Int))))).2] : List Int) = [(8 : Int), (0 : Int)]))) = false → (((0 : Int) ≤ (0 : Int) ∧ (0 : Int) ≤ w64 ((l.length : Int) - (1 : Int)) ∧ w64 ((l.length : Int) - (1 : Int)) ≤ (l.length : Int)) ∧ (i_PlanOk_A2 K l stages s micro redo (0 : Int) (0 : Int))))))) : Hold (tawp i_PlanOk_G (0 + 0) i_PlanOk_c (TQ 0 0 i_PlanOk_rs K) (tstart [(.c (.sl ctIns) l), (.c TI stages), (.c TI s), (.c TI micro), (.c .bool redo)])) :=
  Hold.of (by kernel_rfl) h
theorem i_PlanOk_t (l : List TIns) (stages : Int) (s : Int) (micro : Int) (redo : Bool) (r : TRes) (h : Hold (tawp i_PlanOk_G (0 + 0) i_PlanOk_c (TQ 0 0 i_PlanOk_rs fun r' => r' = r) (tstart [(.c (.sl ctIns) l), (.c TI stages), (.c TI s), (.c TI micro), (.c .bool redo)]))) : TCon Try.prog 25 [(.c (.sl ctIns) l), (.c TI stages), (.c TI s), (.c TI micro), (.c .bool redo)] r :=
  tcon_gen (sg := [(.c (.sl ctIns)), (.c TI), (.c TI), (.c TI), (.c .bool)]) mixed (TOk.cons i_planned_ok (TOk.cons i_ahead_ok (TOk.cons i_backOf_ok (TOk.cons i_risesByKind_ok TOk.nil)))) i_PlanOk_st (by kernel_rfl) (by kernel_rfl) (by kernel_rfl) (by kernel_rfl) h
theorem i_PlanOk_h : i_PlanOk_C := by
  intro l stages s micro redo
  refine tcon_bd rfl fun hb => i_PlanOk_t l stages s micro redo _ (i_PlanOk_v0 _ l stages s micro redo ?_)
  have hl_l : l.length ≤ 9223372036854775807 := hb.1.1
  by_cases hq : m_planned stages s micro = true
  case neg =>
    rw [show m_planned stages s micro = false by simpa using hq]
    exact ⟨fun h => by simp at h, fun _ => R_eq (by unfold m_planOk; simp [hq]), fun h => by simp at h⟩
  have hr := planned_iff.1 hq
  by_cases hn : l = []
  · subst hn
    have e : w64 ((([] : List TIns).length : Int) - 1) = -1 := rfl
    rw [e]
    exact ⟨fun h => by simp at h, fun _ => R_eq (by unfold m_planOk; simp), fun h => by simp at h⟩
  have hn1 : 1 ≤ l.length := by cases l with | nil => exact absurd rfl hn | cons _ _ => simp
  have e : w64 ((l.length : Int) - 1) = ((l.length - 1 : Nat) : Int) := by rw [w64_ok (by omega) (by omega)]; omega
  rw [e]
  simp only [Int.toNat_natCast, pair_80]
  refine ⟨fun _ => ⟨by omega, by omega⟩, fun h => R_eq ?_, fun h => ⟨⟨by omega, by omega, by omega⟩, ?_⟩⟩
  · have hz : ¬ gtd dIns l (l.length - 1) = (8, 0) := by
      intro e2; simp [e2, hq] at h; omega
    unfold m_planOk; simp [hz]
  have hz : gtd dIns l (l.length - 1) = (8, 0) := by simp at h; exact h.2
  have hfalse : ∀ m : Nat, m < micro.toNat → ¬ (l.take (l.length - 1)).filter (fun x => x.2 == (m : Int)) = want stages s m redo → (m_planOk l stages s micro redo) = false := by
    intro m hm hne
    rw [← Bool.not_eq_true]
    unfold m_planOk
    simp only [Bool.and_eq_true]
    intro ⟨⟨_, h2⟩, _⟩
    exact hne (of_decide_eq_true (List.all_eq_true.1 h2 m (List.mem_range.2 hm)))
  have ho := order_le stages s redo
  refine upLoop micro.toNat (fun k => ((List.range k).all fun m => decide ((l.take (l.length - 1)).filter (fun x => x.2 == (m : Int)) = want stages s m redo)) = true → i_PlanOk_A2 (fun r' => r' = i_PlanOk_R (m_planOk l stages s micro redo)) l stages s micro redo ((k * (m_l9Order stages s redo).length : Nat) : Int) k) ?_ ?_ rfl |> fun h => by simpa using h
  · intro hd
    refine i_PlanOk_v2 (fun r' => r' = i_PlanOk_R (m_planOk l stages s micro redo)) l stages s micro redo _ _ ?_
    rw [e]
    simp only [Int.toNat_natCast, Int.toNat_zero, Nat.sub_zero, List.drop_zero]
    refine ⟨fun h => by simp at h; omega, fun _ => R_eq ?_⟩
    unfold m_planOk
    rw [hq, hd, hz]
    simp only [hn1, decide_true, Bool.true_and, Bool.and_true]
    congr 1
    rw [Bool.eq_iff_iff, beq_iff_eq, decide_eq_true_eq]
    exact ⟨fun h => (Int.ofNat_inj.1 h).symm, fun h => by rw [h]⟩
  · intro k hk ih hd
    have h1 := ahead_len stages s k
    have h2 := bof_len stages s k redo
    have hm5 := Nat.mul_le_mul (show k ≤ 5 by omega) ho
    refine i_PlanOk_v2 (fun r' => r' = i_PlanOk_R (m_planOk l stages s micro redo)) l stages s micro redo _ _ ⟨fun _ => ⟨⟨⟨by omega, by omega⟩, ⟨by omega, by omega⟩, roomL (by omega)⟩, ?_⟩, fun h => by simp at h; omega⟩
    have hwl := want_len stages s k redo
    refine listLoop (l.take (l.length - 1)) (fun r i => ∀ kk : Nat, kk ≤ (want stages s k redo).length → ((l.take (l.length - 1)).filter (fun x => x.2 == (k : Int)) = want stages s k redo ↔ r.filter (fun x => x.2 == (k : Int)) = (want stages s k redo).drop kk) → i_PlanOk_A5 (fun r' => r' = i_PlanOk_R (m_planOk l stages s micro redo)) l stages s micro redo kk i ((k * (m_l9Order stages s redo).length : Nat) : Int) k) ?_ ?_ 0 (by omega) (by rw [List.drop_zero])
    · intro kk hkk hiff
      refine i_PlanOk_v5 (fun r' => r' = i_PlanOk_R (m_planOk l stages s micro redo)) l stages s micro redo _ _ _ _ ?_
      rw [e]
      simp only [Int.toNat_natCast, Int.toNat_zero, Nat.sub_zero, List.drop_zero, List.take_length, wantE2]
      refine ⟨fun h => by simp at h, fun _ => ⟨fun h => R_eq (hfalse k (by omega) ?_).symm, fun h => ?_⟩⟩
      · rw [hiff, List.filter_nil]
        intro e2
        have := congrArg List.length e2
        simp at this h; omega
      · have hkl : kk = (want stages s k redo).length := by simp at h; omega
        rw [sc1 (by omega), w64_ok (by omega) (by omega)]
        have := ih (by
          rw [List.range_succ, List.all_append, hd]
          simp only [List.all_cons, List.all_nil, Bool.and_true, Bool.true_and]
          refine decide_eq_true (hiff.2 ?_)
          rw [hkl, List.drop_length]; rfl)
        rw [hkl, hwl]
        rw [Nat.add_mul, Nat.one_mul, Int.natCast_add] at this
        exact this
    · intro i x r hi hlt hg ih2 kk hkk hiff
      refine i_PlanOk_v5 (fun r' => r' = i_PlanOk_R (m_planOk l stages s micro redo)) l stages s micro redo _ _ _ _ ?_
      rw [e]
      simp only [Int.toNat_natCast, Int.toNat_zero, Nat.sub_zero, List.drop_zero, List.take_length, wantE2]
      rw [hg]
      have hll : i < 9223372036854775807 := by rw [List.length_take] at hlt; omega
      rw [pair_dec, sc1 hll]
      refine ⟨fun _ => ⟨⟨by omega, hlt⟩, fun h => ?_, fun h => ?_⟩, fun h => absurd (Int.ofNat_lt.2 hlt) (of_decide_eq_false h)⟩
      · refine ih2 kk hkk (hiff.trans ?_)
        have : (x.2 == (k : Int)) = false := by simpa using h
        rw [List.filter_cons, this]; rfl
      · have hx : (x.2 == (k : Int)) = true := by simpa using h
        refine ⟨fun h => ⟨by omega, by simp at h; omega⟩, fun h => R_eq (hfalse k (by omega) ?_).symm, fun h => ?_⟩
        · rw [hiff, List.filter_cons, hx, if_pos rfl]
          intro e2
          by_cases hkl : kk < (want stages s k redo).length
          · rw [drop_at (gtd_get hkl dIns)] at e2
            simp only [List.cons.injEq] at e2
            simp [e2.1] at h
            omega
          · have := congrArg List.length e2
            simp at this; omega
        · have hkl : kk < (want stages s k redo).length := by simp at h; omega
          have hxw : x = gtd dIns (want stages s k redo) kk := by simp at h; exact h.2
          rw [sc1 (by omega)]
          refine ih2 (kk + 1) (by omega) (hiff.trans ?_)
          rw [List.filter_cons, hx, if_pos rfl, drop_at (gtd_get hkl dIns), ← hxw]
          simp

theorem i_PlanOk_ok : TRowOk Try.prog i_PlanOk_row := rowOk fun x _ => i_PlanOk_h x.1 x.2.1 x.2.2.1 x.2.2.2.1 x.2.2.2.2.1

def s_PlanOk_R (t : Bool) : TRes := ⟨(.c .bool t), [], [], false, []⟩
def s_PlanOk_row : TRow := mkRow 23 [(.c (.sl ctIns)), (.c TI), (.c TI), (.c TI), (.c .bool)] fun x => (none, s_PlanOk_R (m_planOk x.1 x.2.1 x.2.2.1 x.2.2.2.1 x.2.2.2.2.1))
def s_PlanOk_C : Prop := ∀ (x0 : List TIns) (x1 : Int) (x2 : Int) (x3 : Int) (x4 : Bool), TCon Try.prog 23 [(.c (.sl ctIns) x0), (.c TI x1), (.c TI x2), (.c TI x3), (.c .bool x4)] (s_PlanOk_R (m_planOk x0 x1 x2 x3 x4))

/-! spec.PlanOk -/
def s_PlanOk_G : List TRow := [s_l1In_row, s_l9Order_row, s_l9Place_row]
def s_PlanOk_b4 : TCode :=
  (.seq (.seq (.reg [.op (some 58) (.mov (.s 13)),
     .op (some 59) (.mov (.s 3)),
     .op (some 60) (.bin .lss (.s 58) (.s 59))])
  (.cond (.s 60) .skip (.exit 2)))
 (.seq (.block 3 (.seq (.reg [.op (some 63) (.mov (.s 0)),
       .op (some 64) (.mov (.s 11)),
       .op (some 65) (.mov (.s 12)),
       .op (some 66) (.iad (.s 64) (.s 65) [TI]),
       .op (some 67) (.load (.s 66) 1 false),
       .op (some 68) (.mov (.s 13)),
       .op (some 69) (.call 111 [(.s 63), (.s 67), (.s 68)]),
       .op (some 14) (.mov (.s 69))])
    (.seq (.reg [.op (some 70) (.mov (.s 14)),
        .op (some 71) (.bin .lss (.s 70) (.k (.c TI (0 : Int)))),
        .op (some 72) (.mov (.s 71)),
        .grp 72 false [.op (some 73) (.mov (.s 12)), .op (some 74) (.bin .gtr (.s 73) (.k (.c TI (0 : Int)))), .op (some 75) (.mov (.s 74)), .grp 75 true [.op (some 76) (.mov (.s 0)), .op (some 77) (.mov (.s 11)), .op (some 78) (.mov (.s 12)), .op (some 79) (.bin .sub (.s 78) (.k (.c TI (1 : Int)))), .op (some 80) (.iad (.s 77) (.s 79) [TI]), .op (some 81) (.load (.s 80) 1 false), .op (some 82) (.mov (.s 13)), .op (some 83) (.call 111 [(.s 76), (.s 81), (.s 82)]), .op (some 84) (.mov (.s 14)), .op (some 85) (.bin .geq (.s 83) (.s 84))] 86 (.s 85)] 87 (.s 86),
        .op (some 88) (.mov (.s 87)),
        .grp 88 false [.op (some 89) (.mov (.s 13)), .op (some 90) (.bin .gtr (.s 89) (.k (.c TI (0 : Int)))), .op (some 91) (.mov (.s 90)), .grp 91 true [.op (some 92) (.mov (.s 0)), .op (some 93) (.mov (.s 11)), .op (some 94) (.mov (.s 12)), .op (some 95) (.iad (.s 93) (.s 94) [TI]), .op (some 96) (.load (.s 95) 1 false), .op (some 97) (.mov (.s 13)), .op (some 98) (.bin .sub (.s 97) (.k (.c TI (1 : Int)))), .op (some 99) (.call 111 [(.s 92), (.s 96), (.s 98)]), .op (some 100) (.mov (.s 14)), .op (some 101) (.bin .geq (.s 99) (.s 100))] 102 (.s 101)] 103 (.s 102)])
     (.cond (.s 103) (.seq (.reg [.op (some 10) (.mov (.k (.c .bool false)))])
       .ret) .skip))))
  (.reg [.op (some 61) (.mov (.s 13)),
     .op (some 62) (.bin .add (.s 61) (.k (.c TI (1 : Int)))),
     .op (some 13) (.mov (.s 62))])))
def s_PlanOk_L4 : List (Nat × Md) := [(0, .one .d), (3, .one .d), (11, .one .d), (12, .one .d), (13, .one .d)]
def s_PlanOk_y3 : TCode :=
  (.reg [.op (some 56) (.mov (.s 12)),
   .op (some 57) (.bin .add (.s 56) (.k (.c TI (1 : Int)))),
   .op (some 12) (.mov (.s 57))])
def s_PlanOk_b2 : TCode :=
  (.seq (.seq (.reg [.op (some 52) (.mov (.s 12)),
     .op (some 53) (.mov (.s 11)),
     .op (some 54) (.len (.s 53)),
     .op (some 55) (.bin .lss (.s 52) (.s 54))])
  (.cond (.s 55) .skip (.exit 0)))
 (.seq (.block 1 (.seq (.reg [.op (some 13) (.mov (.k (.c TI (0 : Int))))])
    (.block 2 (.loop s_PlanOk_L4 s_PlanOk_b4))))
  s_PlanOk_y3))
def s_PlanOk_L2 : List (Nat × Md) := [(0, .one .d), (3, .one .d), (11, .one .d), (12, .one .d)]
def s_PlanOk_y1 : TCode :=
  (.seq (.reg [.op (some 10) (.mov (.k (.c .bool true)))])
 .ret)
def s_PlanOk_c : TCode :=
  (.seq (.reg [.op (some 10) (.mov (.k (.c .bool false)))])
 (.seq (.seq (.reg [.op (some 15) (.mov (.s 1)),
      .op (some 16) (.call 102 [(.s 15), (.k (.c TI (1 : Int))), (.k (.c TI (4 : Int)))]),
      .op (some 17) (.not (.s 16)),
      .op (some 18) (.mov (.s 17)),
      .grp 18 false [.op (some 19) (.mov (.s 2)), .op (some 20) (.mov (.s 1)), .op (some 21) (.bin .sub (.s 20) (.k (.c TI (1 : Int)))), .op (some 22) (.call 102 [(.s 19), (.k (.c TI (0 : Int))), (.s 21)]), .op (some 23) (.not (.s 22))] 24 (.s 23),
      .op (some 25) (.mov (.s 24)),
      .grp 25 false [.op (some 26) (.mov (.s 3)), .op (some 27) (.call 102 [(.s 26), (.k (.c TI (1 : Int))), (.k (.c TI (5 : Int)))]), .op (some 28) (.not (.s 27))] 29 (.s 28)])
   (.cond (.s 29) (.seq (.reg [.op (some 10) (.mov (.k (.c .bool false)))])
     .ret) .skip))
  (.seq (.reg [.op (some 30) (.mov (.s 1)),
      .op (some 31) (.mov (.s 2)),
      .op (some 32) (.mov (.s 4)),
      .op (some 33) (.call 110 [(.s 30), (.s 31), (.s 32)]),
      .op (some 11) (.mov (.s 33))])
   (.seq (.seq (.reg [.op (some 34) (.mov (.s 0)),
        .op (some 35) (.len (.s 34)),
        .op (some 36) (.mov (.s 3)),
        .op (some 37) (.mov (.s 11)),
        .op (some 38) (.len (.s 37)),
        .op (some 39) (.bin .mul (.s 36) (.s 38)),
        .op (some 40) (.bin .add (.s 39) (.k (.c TI (1 : Int)))),
        .op (some 41) (.bin .neq (.s 35) (.s 40)),
        .op (some 42) (.mov (.s 41)),
        .grp 42 false [.op (some 43) (.mov (.s 0)), .op (some 44) (.mov (.s 0)), .op (some 45) (.len (.s 44)), .op (some 46) (.bin .sub (.s 45) (.k (.c TI (1 : Int)))), .op (some 47) (.iad (.s 43) (.s 46) ctIns), .op (some 48) (.load (.s 47) 2 true), .op (some 49) (.build [(.c TI (0 : Int)), (.c TI (0 : Int))] [(0, 1, (.k (.c TI (8 : Int))))]), .op (some 50) (.cmpa 2 true (.s 48) (.s 49))] 51 (.s 50)])
     (.cond (.s 51) (.seq (.reg [.op (some 10) (.mov (.k (.c .bool false)))])
       .ret) .skip))
    (.seq (.seq (.reg [.op (some 12) (.mov (.k (.c TI (0 : Int))))])
      (.block 0 (.loop s_PlanOk_L2 s_PlanOk_b2)))
     s_PlanOk_y1)))))
def s_PlanOk_rs : List (ARv × Md) := [(.t 10, .one .d)]
theorem s_PlanOk_st : compF Try.prog 23 = some (s_PlanOk_c.er, s_PlanOk_rs.map Prod.fst, 104) := by kernel_rfl
def s_PlanOk_Q (K : TRes → Prop) : TPost := TQ 0 0 s_PlanOk_rs K
def s_PlanOk_q1 (K : TRes → Prop) : TPost := Qseq (tawp s_PlanOk_G 0 s_PlanOk_y1 (s_PlanOk_Q K)) (s_PlanOk_Q K)
def s_PlanOk_q2 (K : TRes → Prop) : TPost := Qblk 0 (s_PlanOk_q1 K)
def s_PlanOk_q3 (K : TRes → Prop) : TPost := Qseq (fun s' => Loop s_PlanOk_G 0 s_PlanOk_L2 s_PlanOk_b2 (s_PlanOk_q2 K) (gc 0 s_PlanOk_L2 s')) (s_PlanOk_q2 K)
def s_PlanOk_q4 (K : TRes → Prop) : TPost := Qseq (tawp s_PlanOk_G 0 s_PlanOk_y3 (s_PlanOk_q3 K)) (s_PlanOk_q3 K)
def s_PlanOk_q5 (K : TRes → Prop) : TPost := Qblk 1 (s_PlanOk_q4 K)
def s_PlanOk_q6 (K : TRes → Prop) : TPost := Qblk 2 (s_PlanOk_q5 K)
def s_PlanOk_A4 (K : TRes → Prop) (l : List TIns) (stages : Int) (s : Int) (micro : Int) (redo : Bool) (m : Int) (k : Int) : Prop := Loop s_PlanOk_G 0 s_PlanOk_L4 s_PlanOk_b4 (s_PlanOk_q6 K) ⟨[(0, (.c (.sl ctIns) l)), (3, (.c TI micro)), (11, (.c (.sl [TI]) (m_l9Order stages s redo))), (12, (.c TI k)), (13, (.c TI m))], [], 0⟩
def s_PlanOk_A2 (K : TRes → Prop) (l : List TIns) (stages : Int) (s : Int) (micro : Int) (redo : Bool) (k : Int) : Prop := Loop s_PlanOk_G 0 s_PlanOk_L2 s_PlanOk_b2 (s_PlanOk_q2 K) ⟨[(0, (.c (.sl ctIns) l)), (3, (.c TI micro)), (11, (.c (.sl [TI]) (m_l9Order stages s redo))), (12, (.c TI k))], [], 0⟩
theorem s_PlanOk_v4 (K : TRes → Prop) (l : List TIns) (stages : Int) (s : Int) (micro : Int) (redo : Bool) (m : Int) (k : Int) (h :
  (((decide (m < micro)) = true → (((0 : Int) ≤ k ∧ Int.toNat k < (m_l9Order stages s redo).length) ∧ ((((!(decide ((m_l9Place l (gtd (0 : Int) (m_l9Order stages s redo) (Int.toNat k)) m) < (0 : Int)))) = true → ((decide (k > (0 : Int))) = true → ((0 : Int) ≤ w64 (k - (1 : Int)) ∧ Int.toNat (w64 (k - (1 : Int))) < (m_l9Order stages s redo).length))) ∧ ((!((decide ((m_l9Place l (gtd (0 : Int) (m_l9Order stages s redo) (Int.toNat k)) m) < (0 : Int))) || ((decide (k > (0 : Int))) && (decide ((m_l9Place l (gtd (0 : Int) (m_l9Order stages s redo) (Int.toNat (w64 (k - (1 : Int))))) m) ≥ (m_l9Place l (gtd (0 : Int) (m_l9Order stages s redo) (Int.toNat k)) m)))))) = true → ((decide (m > (0 : Int))) = true → ((0 : Int) ≤ k ∧ Int.toNat k < (m_l9Order stages s redo).length)))) ∧ (((((decide ((m_l9Place l (gtd (0 : Int) (m_l9Order stages s redo) (Int.toNat k)) m) < (0 : Int))) || ((decide (k > (0 : Int))) && (decide ((m_l9Place l (gtd (0 : Int) (m_l9Order stages s redo) (Int.toNat (w64 (k - (1 : Int))))) m) ≥ (m_l9Place l (gtd (0 : Int) (m_l9Order stages s redo) (Int.toNat k)) m))))) || ((decide (m > (0 : Int))) && (decide ((m_l9Place l (gtd (0 : Int) (m_l9Order stages s redo) (Int.toNat k)) (w64 (m - (1 : Int)))) ≥ (m_l9Place l (gtd (0 : Int) (m_l9Order stages s redo) (Int.toNat k)) m))))) = true → K (s_PlanOk_R false)) ∧ ((((decide ((m_l9Place l (gtd (0 : Int) (m_l9Order stages s redo) (Int.toNat k)) m) < (0 : Int))) || ((decide (k > (0 : Int))) && (decide ((m_l9Place l (gtd (0 : Int) (m_l9Order stages s redo) (Int.toNat (w64 (k - (1 : Int))))) m) ≥ (m_l9Place l (gtd (0 : Int) (m_l9Order stages s redo) (Int.toNat k)) m))))) || ((decide (m > (0 : Int))) && (decide ((m_l9Place l (gtd (0 : Int) (m_l9Order stages s redo) (Int.toNat k)) (w64 (m - (1 : Int)))) ≥ (m_l9Place l (gtd (0 : Int) (m_l9Order stages s redo) (Int.toNat k)) m))))) = false → (s_PlanOk_A4 K l stages s micro redo (w64 (m + (1 : Int))) k)))))) ∧ ((decide (m < micro)) = false → (s_PlanOk_A2 K l stages s micro redo (w64 (k + (1 : Int))))))) : s_PlanOk_A4 K l stages s micro redo m k :=
  Loop.of (by kernel_rfl) h
theorem s_PlanOk_v2 (K : TRes → Prop) (l : List TIns) (stages : Int) (s : Int) (micro : Int) (redo : Bool) (k : Int) (h :
  (((decide (k < ((m_l9Order stages s redo).length : Int))) = true → (s_PlanOk_A4 K l stages s micro redo (0 : Int) k)) ∧ ((decide (k < ((m_l9Order stages s redo).length : Int))) = false → K (s_PlanOk_R true)))) : s_PlanOk_A2 K l stages s micro redo k :=
  Loop.of (by kernel_rfl) h
theorem s_PlanOk_v0 (K : TRes → Prop) (l : List TIns) (stages : Int) (s : Int) (micro : Int) (redo : Bool) (h :
  (((((!(m_in stages (1 : Int) (4 : Int))) || (!(m_in s (0 : Int) (w64 (stages - (1 : Int)))))) || (!(m_in micro (1 : Int) (5 : Int)))) = true → K (s_PlanOk_R false)) ∧ ((((!(m_in stages (1 : Int) (4 : Int))) || (!(m_in s (0 : Int) (w64 (stages - (1 : Int)))))) || (!(m_in micro (1 : Int) (5 : Int)))) = false → ((p_l9o stages s redo) ∧ (((!((l.length : Int) != (w64 ((w64 (micro * ((m_l9Order stages s redo).length : Int))) + (1 : Int))))) = true → ((0 : Int) ≤ w64 ((l.length : Int) - (1 : Int)) ∧ Int.toNat (w64 ((l.length : Int) - (1 : Int))) < l.length)) ∧ (((((l.length : Int) != (w64 ((w64 (micro * ((m_l9Order stages s redo).length : Int))) + (1 : Int)))) || (!decide (([(gtd dIns l (Int.toNat (w64 ((l.length : Int) - (1 : Int))))).1, (gtd dIns l (Int.toNat (w64 ((l.length : Int) - (1 : Int))))).2] : List Int) = [(8 : Int), (0 : Int)]))) = true → K (s_PlanOk_R false)) ∧ ((((l.length : Int) != (w64 ((w64 (micro * ((m_l9Order stages s redo).length : Int))) + (1 : Int)))) || (!decide (([(gtd dIns l (Int.toNat (w64 ((l.length : Int) - (1 : Int))))).1, (gtd dIns l (Int.toNat (w64 ((l.length : Int) - (1 : Int))))).2] : List Int) = [(8 : Int), (0 : Int)]))) = false → (s_PlanOk_A2 K l stages s micro redo (0 : Int))))))))) : Hold (tawp s_PlanOk_G (0 + 0) s_PlanOk_c (TQ 0 0 s_PlanOk_rs K) (tstart [(.c (.sl ctIns) l), (.c TI stages), (.c TI s), (.c TI micro), (.c .bool redo)])) :=
  Hold.of (by kernel_rfl) h
theorem s_PlanOk_t (l : List TIns) (stages : Int) (s : Int) (micro : Int) (redo : Bool) (r : TRes) (h : Hold (tawp s_PlanOk_G (0 + 0) s_PlanOk_c (TQ 0 0 s_PlanOk_rs fun r' => r' = r) (tstart [(.c (.sl ctIns) l), (.c TI stages), (.c TI s), (.c TI micro), (.c .bool redo)]))) : TCon Try.prog 23 [(.c (.sl ctIns) l), (.c TI stages), (.c TI s), (.c TI micro), (.c .bool redo)] r :=
  tcon_gen (sg := [(.c (.sl ctIns)), (.c TI), (.c TI), (.c TI), (.c .bool)]) mixed (TOk.cons s_l1In_ok (TOk.cons s_l9Order_ok (TOk.cons s_l9Place_ok TOk.nil))) s_PlanOk_st (by kernel_rfl) (by kernel_rfl) (by kernel_rfl) (by kernel_rfl) h
theorem s_PlanOk_h : s_PlanOk_C := by
  intro l stages s micro redo
  refine tcon_bd rfl fun hb => s_PlanOk_t l stages s micro redo _ (s_PlanOk_v0 _ l stages s micro redo ?_)
  have hl_l : l.length ≤ 9223372036854775807 := hb.1.1
  rw [guard3]
  by_cases hq : m_planned stages s micro = true
  case neg =>
    rw [show m_planned stages s micro = false by simpa using hq]
    exact ⟨fun _ => R_eq (by unfold m_planOk; simp [hq]), fun h => by simp at h⟩
  have hr := planned_iff.1 hq
  obtain ⟨mi, rfl⟩ : ∃ mi : Nat, micro = (mi : Int) := ⟨micro.toNat, by omega⟩
  have ho := order_le stages s redo
  have hmul : mi * (m_l9Order stages s redo).length ≤ 35 := by have := Nat.mul_le_mul (show mi ≤ 5 by omega) ho; omega
  rw [hq]
  refine ⟨fun h => by simp at h, fun _ => ⟨⟨by omega, by omega⟩, ?_⟩⟩
  have e1 : w64 (w64 ((mi : Int) * ((m_l9Order stages s redo).length : Int)) + 1) = ((mi * (m_l9Order stages s redo).length + 1 : Nat) : Int) := by
    rw [← Int.natCast_mul, w64_ok (x := ((mi * (m_l9Order stages s redo).length : Nat) : Int)) (by omega) (by omega), w64_ok (by omega) (by omega)]; omega
  rw [e1, ← plan_same l stages s mi redo]
  by_cases hl : l.length = mi * (m_l9Order stages s redo).length + 1
  case neg =>
    have c1 : ((l.length : Int) != ((mi * (m_l9Order stages s redo).length + 1 : Nat) : Int)) = true := bne_iff_ne.2 (fun e => hl (Int.ofNat_inj.1 e))
    rw [c1]
    exact ⟨fun h => by simp at h, fun _ => R_eq (by unfold m_planOkS; simp [hl]), fun h => by simp at h⟩
  have c1 : ((l.length : Int) != ((mi * (m_l9Order stages s redo).length + 1 : Nat) : Int)) = false := by rw [hl]; simp
  have e : w64 ((l.length : Int) - 1) = ((l.length - 1 : Nat) : Int) := by rw [w64_ok (by omega) (by omega)]; omega
  rw [c1, e]
  simp only [Int.toNat_natCast, pair_80]
  refine ⟨fun _ => ⟨by omega, by omega⟩, fun h => R_eq ?_, fun h => ?_⟩
  · have hz : ¬ gtd dIns l (l.length - 1) = (8, 0) := by intro e2; simp [e2] at h
    unfold m_planOkS; simp [hz]
  have hz : gtd dIns l (l.length - 1) = (8, 0) := by simpa using h
  have hfalse : ∀ k m : Nat, k < (m_l9Order stages s redo).length → m < mi → placeOk l (m_l9Order stages s redo) k m = false → m_planOkS l stages s mi redo = false := by
    intro k m hk hm hne
    rw [← Bool.not_eq_true]
    unfold m_planOkS
    simp only [Bool.and_eq_true]
    intro ⟨_, h2⟩
    have := List.all_eq_true.1 (List.all_eq_true.1 h2 k (List.mem_range.2 hk)) m (List.mem_range.2 (by simpa using hm))
    rw [hne] at this; simp at this
  refine upLoop (m_l9Order stages s redo).length (fun k => ((List.range k).all fun k => (List.range mi).all fun m => placeOk l (m_l9Order stages s redo) k m) = true → s_PlanOk_A2 (fun r' => r' = s_PlanOk_R (m_planOkS l stages s mi redo)) l stages s (mi : Int) redo k) ?_ ?_ rfl
  · intro hd
    refine s_PlanOk_v2 _ l stages s _ redo _ ⟨fun h => by simp at h, fun _ => R_eq ?_⟩
    unfold m_planOkS
    rw [hq, hz, Int.toNat_natCast, hd]
    simp [hl]
  · intro k hk ih hd
    refine s_PlanOk_v2 _ l stages s _ redo _ ⟨fun _ => ?_, fun h => by simp at h; omega⟩
    refine upLoop mi (fun m => ((List.range m).all fun m => placeOk l (m_l9Order stages s redo) k m) = true → s_PlanOk_A4 (fun r' => r' = s_PlanOk_R (m_planOkS l stages s mi redo)) l stages s (mi : Int) redo m k) ?_ ?_ rfl
    · intro hd2
      refine s_PlanOk_v4 _ l stages s _ redo _ _ ⟨fun h => by simp at h, fun _ => ?_⟩
      rw [sc1 (by omega)]
      exact ih (by rw [List.range_succ, List.all_append, hd]; simp [hd2])
    · intro m hm ih2 hd2
      refine s_PlanOk_v4 _ l stages s _ redo _ _ ⟨fun _ => ?_, fun h => by simp at h; omega⟩
      have hk0 : Int.toNat (k : Int) = k := Int.toNat_natCast k
      rw [hk0, place_cond l _ (by omega) (by omega)]
      refine ⟨⟨by omega, hk⟩, ⟨fun _ h => ?_, fun _ _ => ⟨by omega, hk⟩⟩, fun h => R_eq (hfalse k m hk hm (by simpa using h)).symm, fun h => ?_⟩
      · simp at h; rw [w64_ok (by omega) (by omega)]; omega
      · rw [sc1 (by omega)]
        exact ih2 (by rw [List.range_succ, List.all_append, hd2]; simpa using h)

theorem s_PlanOk_ok : TRowOk Try.prog s_PlanOk_row := rowOk fun x _ => s_PlanOk_h x.1 x.2.1 x.2.2.1 x.2.2.2.1 x.2.2.2.2.1

def i_Total_R (t : Int) : TRes := ⟨(.c TI t), [], [], false, []⟩
def i_Total_row : TRow := mkRow 80 [(.a ctConfig), (.c TI)] fun x => (none, i_Total_R (m_total x.1 x.2.1))
def i_Total_C : Prop := ∀ (x0 : TConfig) (x1 : Int), TCon Try.prog 80 [(.a (Tup.cells ctConfig x0)), (.c TI x1)] (i_Total_R (m_total x0 x1))

/-! impl.Total -/
def i_Total_G : List TRow := [i_StagesOf_row, i_Plan_row]
def i_Total_b2 : TCode :=
  (.seq (.seq (.reg [.op (some 7) (.mov (.s 6)),
     .op (some 8) (.fad (.s 2) 3),
     .op (some 9) (.load (.s 8) 1 false),
     .op (some 10) (.len (.s 9)),
     .op (some 11) (.bin .lss (.s 7) (.s 10)),
     .op (some 12) (.mov (.s 11)),
     .grp 12 true [.op (some 13) (.mov (.s 6)), .op (some 14) (.load (.s 2) 6 true), .op (some 15) (.call 141 [(.s 14)]), .op (some 16) (.bin .lss (.s 13) (.s 15))] 17 (.s 16)])
  (.cond (.s 17) .skip (.exit 0)))
 (.seq (.block 1 (.draw [.op (some 20) (.mov (.s 5)),
      .op (some 21) (.fad (.s 2) 2),
      .op (some 22) (.load (.s 21) 1 false),
      .op (some 23) (.load (.s 2) 6 true),
      .op (some 24) (.call 141 [(.s 23)]),
      .op (some 25) (.mov (.s 6)),
      .op (some 26) (.mov (.s 1)),
      .op (some 27) (.fad (.s 2) 3),
      .op (some 28) (.load (.s 27) 1 false),
      .op (some 29) (.mov (.s 6)),
      .op (some 30) (.iad (.s 28) (.s 29) [.bool]),
      .op (some 31) (.load (.s 30) 1 false),
      .op (some 32) (.call 18 [(.s 22), (.s 24), (.s 25), (.s 26), (.s 31)]),
      .op (some 33) (.len (.s 32)),
      .op (some 34) (.bin .add (.s 20) (.s 33)),
      .op (some 5) (.mov (.s 34))] [(1, 4), (2, 4), (4, 7), (4, 8), (4, 10), (4, 11)]))
  (.reg [.op (some 18) (.mov (.s 6)),
     .op (some 19) (.bin .add (.s 18) (.k (.c TI (1 : Int)))),
     .op (some 6) (.mov (.s 19))])))
def i_Total_L2 : List (Nat × Md) := [(1, .one .d), (2, .b [.d, .d, .d, .d, .d, .d]), (5, .one .d), (6, .one .d)]
def i_Total_y1 : TCode :=
  (.seq (.reg [.op (some 35) (.mov (.s 5)),
    .op (some 4) (.mov (.s 35))])
 .ret)
def i_Total_c : TCode :=
  (.seq (.reg [.op (some 2) (.box 103 (.s 0) 6),
    .op (some 4) (.mov (.k (.c TI (0 : Int))))])
 (.seq (.reg [.op (some 5) (.mov (.k (.c TI (0 : Int))))])
  (.seq (.seq (.reg [.op (some 6) (.mov (.k (.c TI (0 : Int))))])
    (.block 0 (.loop i_Total_L2 i_Total_b2)))
   i_Total_y1)))
def i_Total_rs : List (ARv × Md) := [(.t 4, .one .d)]
theorem i_Total_st : compF Try.prog 80 = some (i_Total_c.er, i_Total_rs.map Prod.fst, 36) := by kernel_rfl
def i_Total_Q (K : TRes → Prop) : TPost := TQ 0 0 i_Total_rs K
def i_Total_q1 (K : TRes → Prop) : TPost := Qseq (tawp i_Total_G 0 i_Total_y1 (i_Total_Q K)) (i_Total_Q K)
def i_Total_q2 (K : TRes → Prop) : TPost := Qblk 0 (i_Total_q1 K)
def i_Total_A2 (K : TRes → Prop) (c : TConfig) (micro : Int) (n : Int) (s : Int) : Prop := Loop i_Total_G 0 i_Total_L2 i_Total_b2 (i_Total_q2 K) ⟨[(1, (.c TI micro)), (2, (.p 0 0 0)), (5, (.c TI n)), (6, (.c TI s))], [(0, (.box [(.c (.sl ctOp) c.1), (.c (.sl [TI]) c.2.1), (.c TI c.2.2.1), (.c (.sl [.bool]) c.2.2.2.1), (.c (.sl [TI]) c.2.2.2.2.1), (.c (.sl [TI]) c.2.2.2.2.2)]))], 1⟩
theorem i_Total_v2 (K : TRes → Prop) (c : TConfig) (micro : Int) (n : Int) (s : Int) (h :
  ((((decide (s < ((c.2.2.2.1).length : Int))) && (decide (s < (m_stagesOf c)))) = true → (((0 : Int) ≤ s ∧ Int.toNat s < (c.2.2.2.1).length) ∧ (i_Total_A2 K c micro (w64 (n + (((m_plan c.2.2.1 (m_stagesOf c) s micro (gtd (false : Bool) c.2.2.2.1 (Int.toNat s))).length : Nat) : Int))) (w64 (s + (1 : Int)))))) ∧ (((decide (s < ((c.2.2.2.1).length : Int))) && (decide (s < (m_stagesOf c)))) = false → K (i_Total_R n)))) : i_Total_A2 K c micro n s :=
  Loop.of (by kernel_rfl) h
theorem i_Total_v0 (K : TRes → Prop) (c : TConfig) (micro : Int) (h :
  (i_Total_A2 K c micro (0 : Int) (0 : Int))) : Hold (tawp i_Total_G (0 + 0) i_Total_c (TQ 0 0 i_Total_rs K) (tstart [(.a (Tup.cells ctConfig c)), (.c TI micro)])) :=
  Hold.of (by kernel_rfl) h
theorem i_Total_t (c : TConfig) (micro : Int) (r : TRes) (h : Hold (tawp i_Total_G (0 + 0) i_Total_c (TQ 0 0 i_Total_rs fun r' => r' = r) (tstart [(.a (Tup.cells ctConfig c)), (.c TI micro)]))) : TCon Try.prog 80 [(.a (Tup.cells ctConfig c)), (.c TI micro)] r :=
  tcon_gen (sg := [(.a ctConfig), (.c TI)]) mixed (TOk.cons i_StagesOf_ok (TOk.cons i_Plan_ok TOk.nil)) i_Total_st (by kernel_rfl) (by kernel_rfl) (by kernel_rfl) (by kernel_rfl) h
theorem i_Total_h : i_Total_C := by
  intro c micro
  refine tcon_bd rfl fun hb => i_Total_t c micro _ (i_Total_v0 _ c micro ?_)
  have hl_c_0 : (c.1).length ≤ 9223372036854775807 := hb.1.1.1
  have hl_c_1 : (c.2.1).length ≤ 9223372036854775807 := hb.1.2.1.1
  have hl_c_3 : (c.2.2.2.1).length ≤ 9223372036854775807 := hb.1.2.2.2.1.1
  have hl_c_4 : (c.2.2.2.2.1).length ≤ 9223372036854775807 := hb.1.2.2.2.2.1.1
  have hl_c_5 : (c.2.2.2.2.2).length ≤ 9223372036854775807 := hb.1.2.2.2.2.2.1.1
  have hs := stages_le (c := c)
  refine upLoop (min c.2.2.2.1.length (m_stagesOf c).toNat) (fun k => i_Total_A2 (fun r' => r' = i_Total_R (m_total c micro)) c micro (totGo c micro k) k) ?_ ?_
  · refine i_Total_v2 (fun r' => r' = i_Total_R (m_total c micro)) c micro _ _ ⟨fun h => by simp at h; omega, fun _ => R_eq rfl⟩
  · intro k hk ih
    have h1 := tot_rng c micro k
    have h2 := plan_le c.2.2.1 (m_stagesOf c) k micro (gtd false c.2.2.2.1 k)
    refine i_Total_v2 (fun r' => r' = i_Total_R (m_total c micro)) c micro _ _ ⟨fun _ => ?_, fun h => by simp at h; omega⟩
    rw [Int.toNat_natCast, sc1 (by omega), w64_ok (by omega) (by omega)]
    exact ⟨⟨by omega, by omega⟩, ih⟩

theorem i_Total_ok : TRowOk Try.prog i_Total_row := rowOk fun x _ => i_Total_h x.1 x.2.1

def s_Total_R (t : Int) : TRes := ⟨(.c TI t), [], [], false, []⟩
def s_Total_row : TRow := mkRow 78 [(.a ctConfig), (.c TI)] fun x => (none, s_Total_R (m_total x.1 x.2.1))
def s_Total_C : Prop := ∀ (x0 : TConfig) (x1 : Int), TCon Try.prog 78 [(.a (Tup.cells ctConfig x0)), (.c TI x1)] (s_Total_R (m_total x0 x1))

/-! spec.Total -/
def s_Total_G : List TRow := [s_StagesOf_row, s_Plan_row]
def s_Total_b2 : TCode :=
  (.seq (.seq (.reg [.op (some 7) (.mov (.s 6)),
     .op (some 8) (.load (.s 2) 6 true),
     .op (some 9) (.call 148 [(.s 8)]),
     .op (some 10) (.bin .lss (.s 7) (.s 9)),
     .op (some 11) (.mov (.s 10)),
     .grp 11 true [.op (some 12) (.mov (.s 6)), .op (some 13) (.fad (.s 2) 3), .op (some 14) (.load (.s 13) 1 false), .op (some 15) (.len (.s 14)), .op (some 16) (.bin .lss (.s 12) (.s 15))] 17 (.s 16)])
  (.cond (.s 17) .skip (.exit 0)))
 (.seq (.block 1 (.draw [.op (some 20) (.mov (.s 5)),
      .op (some 21) (.fad (.s 2) 2),
      .op (some 22) (.load (.s 21) 1 false),
      .op (some 23) (.load (.s 2) 6 true),
      .op (some 24) (.call 148 [(.s 23)]),
      .op (some 25) (.mov (.s 6)),
      .op (some 26) (.mov (.s 1)),
      .op (some 27) (.fad (.s 2) 3),
      .op (some 28) (.load (.s 27) 1 false),
      .op (some 29) (.mov (.s 6)),
      .op (some 30) (.iad (.s 28) (.s 29) [.bool]),
      .op (some 31) (.load (.s 30) 1 false),
      .op (some 32) (.call 17 [(.s 22), (.s 24), (.s 25), (.s 26), (.s 31)]),
      .op (some 33) (.len (.s 32)),
      .op (some 34) (.bin .add (.s 20) (.s 33)),
      .op (some 5) (.mov (.s 34))] [(1, 4), (2, 4), (4, 7), (4, 8), (4, 10), (4, 11)]))
  (.reg [.op (some 18) (.mov (.s 6)),
     .op (some 19) (.bin .add (.s 18) (.k (.c TI (1 : Int)))),
     .op (some 6) (.mov (.s 19))])))
def s_Total_L2 : List (Nat × Md) := [(1, .one .d), (2, .b [.d, .d, .d, .d, .d, .d]), (5, .one .d), (6, .one .d)]
def s_Total_y1 : TCode :=
  (.seq (.reg [.op (some 35) (.mov (.s 5)),
    .op (some 4) (.mov (.s 35))])
 .ret)
def s_Total_c : TCode :=
  (.seq (.reg [.op (some 2) (.box 103 (.s 0) 6),
    .op (some 4) (.mov (.k (.c TI (0 : Int))))])
 (.seq (.reg [.op (some 5) (.mov (.k (.c TI (0 : Int))))])
  (.seq (.seq (.reg [.op (some 6) (.mov (.k (.c TI (0 : Int))))])
    (.block 0 (.loop s_Total_L2 s_Total_b2)))
   s_Total_y1)))
def s_Total_rs : List (ARv × Md) := [(.t 4, .one .d)]
theorem s_Total_st : compF Try.prog 78 = some (s_Total_c.er, s_Total_rs.map Prod.fst, 36) := by kernel_rfl
def s_Total_Q (K : TRes → Prop) : TPost := TQ 0 0 s_Total_rs K
def s_Total_q1 (K : TRes → Prop) : TPost := Qseq (tawp s_Total_G 0 s_Total_y1 (s_Total_Q K)) (s_Total_Q K)
def s_Total_q2 (K : TRes → Prop) : TPost := Qblk 0 (s_Total_q1 K)
def s_Total_A2 (K : TRes → Prop) (c : TConfig) (micro : Int) (n : Int) (s : Int) : Prop := Loop s_Total_G 0 s_Total_L2 s_Total_b2 (s_Total_q2 K) ⟨[(1, (.c TI micro)), (2, (.p 0 0 0)), (5, (.c TI n)), (6, (.c TI s))], [(0, (.box [(.c (.sl ctOp) c.1), (.c (.sl [TI]) c.2.1), (.c TI c.2.2.1), (.c (.sl [.bool]) c.2.2.2.1), (.c (.sl [TI]) c.2.2.2.2.1), (.c (.sl [TI]) c.2.2.2.2.2)]))], 1⟩
theorem s_Total_v2 (K : TRes → Prop) (c : TConfig) (micro : Int) (n : Int) (s : Int) (h :
  ((((decide (s < (m_stagesOf c))) && (decide (s < ((c.2.2.2.1).length : Int)))) = true → (((0 : Int) ≤ s ∧ Int.toNat s < (c.2.2.2.1).length) ∧ (s_Total_A2 K c micro (w64 (n + (((m_plan c.2.2.1 (m_stagesOf c) s micro (gtd (false : Bool) c.2.2.2.1 (Int.toNat s))).length : Nat) : Int))) (w64 (s + (1 : Int)))))) ∧ (((decide (s < (m_stagesOf c))) && (decide (s < ((c.2.2.2.1).length : Int)))) = false → K (s_Total_R n)))) : s_Total_A2 K c micro n s :=
  Loop.of (by kernel_rfl) h
theorem s_Total_v0 (K : TRes → Prop) (c : TConfig) (micro : Int) (h :
  (s_Total_A2 K c micro (0 : Int) (0 : Int))) : Hold (tawp s_Total_G (0 + 0) s_Total_c (TQ 0 0 s_Total_rs K) (tstart [(.a (Tup.cells ctConfig c)), (.c TI micro)])) :=
  Hold.of (by kernel_rfl) h
theorem s_Total_t (c : TConfig) (micro : Int) (r : TRes) (h : Hold (tawp s_Total_G (0 + 0) s_Total_c (TQ 0 0 s_Total_rs fun r' => r' = r) (tstart [(.a (Tup.cells ctConfig c)), (.c TI micro)]))) : TCon Try.prog 78 [(.a (Tup.cells ctConfig c)), (.c TI micro)] r :=
  tcon_gen (sg := [(.a ctConfig), (.c TI)]) mixed (TOk.cons s_StagesOf_ok (TOk.cons s_Plan_ok TOk.nil)) s_Total_st (by kernel_rfl) (by kernel_rfl) (by kernel_rfl) (by kernel_rfl) h
theorem s_Total_h : s_Total_C := by
  intro c micro
  refine tcon_bd rfl fun hb => s_Total_t c micro _ (s_Total_v0 _ c micro ?_)
  have hl_c_0 : (c.1).length ≤ 9223372036854775807 := hb.1.1.1
  have hl_c_1 : (c.2.1).length ≤ 9223372036854775807 := hb.1.2.1.1
  have hl_c_3 : (c.2.2.2.1).length ≤ 9223372036854775807 := hb.1.2.2.2.1.1
  have hl_c_4 : (c.2.2.2.2.1).length ≤ 9223372036854775807 := hb.1.2.2.2.2.1.1
  have hl_c_5 : (c.2.2.2.2.2).length ≤ 9223372036854775807 := hb.1.2.2.2.2.2.1.1
  have hs := stages_le (c := c)
  refine upLoop (min c.2.2.2.1.length (m_stagesOf c).toNat) (fun k => s_Total_A2 (fun r' => r' = s_Total_R (m_total c micro)) c micro (totGo c micro k) k) ?_ ?_
  · refine s_Total_v2 (fun r' => r' = s_Total_R (m_total c micro)) c micro _ _ ⟨fun h => by simp at h; omega, fun _ => R_eq rfl⟩
  · intro k hk ih
    have h1 := tot_rng c micro k
    have h2 := plan_le c.2.2.1 (m_stagesOf c) k micro (gtd false c.2.2.2.1 k)
    refine s_Total_v2 (fun r' => r' = s_Total_R (m_total c micro)) c micro _ _ ⟨fun _ => ?_, fun h => by simp at h; omega⟩
    rw [Int.toNat_natCast, sc1 (by omega), w64_ok (by omega) (by omega)]
    exact ⟨⟨by omega, by omega⟩, ih⟩

theorem s_Total_ok : TRowOk Try.prog s_Total_row := rowOk fun x _ => s_Total_h x.1 x.2.1

end
end Go.Proofs.Ytephkbajoofeoaa.Am
