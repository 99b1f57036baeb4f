/-
  Written by program: the code of functions, what it asks, and that it comes to what the models say.
-/
import Derived.Test.YtpnblnkggeopkaaM3
namespace Go.Proofs.Ytpnblnkggeopkaa.Am
open Go Go.RowKit Go.Proofs.Ytpnblnkggeopkaa
set_option linter.unusedVariables false
set_option linter.unusedSimpArgs false
noncomputable section

def s_Left_R (t : Int) : TRes := ⟨(.c TI t), [], [], false⟩
def s_Left_row : TRow := mkRow 93 [(.a ctPipe)] fun x => (some (p_left x.1), s_Left_R (m_left x.1))
def s_Left_C : Prop := ∀ (x0 : TPipe), (p_left x0) → TCon Try.prog 93 [(.a (Tup.cells ctPipe x0))] (s_Left_R (m_left x0))

/-! spec.Left -/
def s_Left_G : List TRow := []
def s_Left_b2 : TCode :=
  (.seq (.seq (.reg [.op (some 5) (.mov (.s 4)),
     .op (some 6) (.fad (.s 1) 1),
     .op (some 7) (.load (.s 6) 1 false),
     .op (some 8) (.len (.s 7)),
     .op (some 9) (.bin .lss (.s 5) (.s 8))])
  (.cond (.s 9) .skip (.exit 0)))
 (.seq (.block 1 (.draw [.op (some 12) (.mov (.s 3)),
      .op (some 13) (.fad (.s 1) 1),
      .op (some 14) (.load (.s 13) 1 false),
      .op (some 15) (.mov (.s 4)),
      .op (some 16) (.iad (.s 14) (.s 15) ctStage),
      .op (some 17) (.fad (.s 16) 1),
      .op (some 18) (.load (.s 17) 1 false),
      .op (some 19) (.len (.s 18)),
      .op (some 20) (.fad (.s 1) 1),
      .op (some 21) (.load (.s 20) 1 false),
      .op (some 22) (.mov (.s 4)),
      .op (some 23) (.iad (.s 21) (.s 22) ctStage),
      .op (some 24) (.fad (.s 23) 0),
      .op (some 25) (.load (.s 24) 1 false),
      .op (some 26) (.mm true (.k (.c TI (0 : Int))) (.s 25)),
      .op (some 27) (.bin .sub (.s 19) (.s 26)),
      .op (some 28) (.mm true (.k (.c TI (0 : Int))) (.s 27)),
      .op (some 29) (.bin .add (.s 12) (.s 28)),
      .op (some 3) (.mov (.s 29))] []))
  (.reg [.op (some 10) (.mov (.s 4)),
     .op (some 11) (.bin .add (.s 10) (.k (.c TI (1 : Int)))),
     .op (some 4) (.mov (.s 11))])))
def s_Left_L2 : List (Nat × Md) := [(1, .b [.d, .d, .d, .d]), (3, .one .d), (4, .one .d)]
def s_Left_y1 : TCode :=
  (.seq (.reg [.op (some 30) (.mov (.s 3)),
    .op (some 2) (.mov (.s 30))])
 .ret)
def s_Left_c : TCode :=
  (.seq (.reg [.op (some 1) (.box 123 (.s 0) 4),
    .op (some 2) (.mov (.k (.c TI (0 : Int))))])
 (.seq (.reg [.op (some 3) (.mov (.k (.c TI (0 : Int))))])
  (.seq (.seq (.reg [.op (some 4) (.mov (.k (.c TI (0 : Int))))])
    (.block 0 (.loop s_Left_L2 s_Left_b2)))
   s_Left_y1)))
def s_Left_rs : List (ARv × Md) := [(.t 2, .one .d)]
theorem s_Left_st : compF Try.prog 93 = some (s_Left_c.er, s_Left_rs.map Prod.fst, 31) := by kernel_rfl
def s_Left_Q (K : TRes → Prop) : TPost := TQ 0 s_Left_rs K
def s_Left_q1 (K : TRes → Prop) : TPost := Qseq (tawp s_Left_G 0 s_Left_y1 (s_Left_Q K)) (s_Left_Q K)
def s_Left_q2 (K : TRes → Prop) : TPost := Qblk 0 (s_Left_q1 K)
def s_Left_A2 (K : TRes → Prop) (p : TPipe) (n : Int) (s : Int) : Prop := Loop s_Left_G 0 s_Left_L2 s_Left_b2 (s_Left_q2 K) ⟨[(1, (.p 0 0 0)), (3, (.c TI n)), (4, (.c TI s))], [(0, (.box [(.c (.sl ctPair) p.1), (.c (.sl ctStage) p.2.1), (.c (.sl ctQueue) p.2.2.1), (.c (.sl ctQueue) p.2.2.2)]))], 1⟩
theorem s_Left_v2 (K : TRes → Prop) (p : TPipe) (n : Int) (s : Int) (h :
  (((decide (s < ((p.2.1).length : Int))) = true → ((((0 : Int) ≤ s ∧ Int.toNat s < (p.2.1).length) ∧ ((0 : Int) ≤ s ∧ Int.toNat s < (p.2.1).length)) ∧ (s_Left_A2 K p (w64 (n + (if (0 : Int) < (w64 ((((gtd dStage p.2.1 (Int.toNat s)).2.1).length : Int) - (if (0 : Int) < ((gtd dStage p.2.1 (Int.toNat s)).1) then ((gtd dStage p.2.1 (Int.toNat s)).1) else (0 : Int)))) then (w64 ((((gtd dStage p.2.1 (Int.toNat s)).2.1).length : Int) - (if (0 : Int) < ((gtd dStage p.2.1 (Int.toNat s)).1) then ((gtd dStage p.2.1 (Int.toNat s)).1) else (0 : Int)))) else (0 : Int)))) (w64 (s + (1 : Int)))))) ∧ ((decide (s < ((p.2.1).length : Int))) = false → K (s_Left_R n)))) : s_Left_A2 K p n s :=
  Loop.of (by kernel_rfl) h
theorem s_Left_v0 (K : TRes → Prop) (p : TPipe) (h :
  (s_Left_A2 K p (0 : Int) (0 : Int))) : Hold (tawp s_Left_G 0 s_Left_c (TQ 0 s_Left_rs K) (tstart [(.a (Tup.cells ctPipe p))])) :=
  Hold.of (by kernel_rfl) h
theorem s_Left_t (p : TPipe) (r : TRes) (h : Hold (tawp s_Left_G 0 s_Left_c (TQ 0 s_Left_rs fun r' => r' = r) (tstart [(.a (Tup.cells ctPipe p))]))) : TCon Try.prog 93 [(.a (Tup.cells ctPipe p))] r :=
  tcon_gen (sg := [(.a ctPipe)]) mixed TOk.nil s_Left_st (by kernel_rfl) (by kernel_rfl) (by kernel_rfl) h
theorem s_Left_h : s_Left_C := by
  intro p hp
  refine tcon_bd rfl fun hb => s_Left_t p _ (s_Left_v0 _ p ?_)
  have hl_p_0 : (p.1).length ≤ 9223372036854775807 := hb.1.1.1
  have hl_p_1 : (p.2.1).length ≤ 9223372036854775807 := hb.1.2.1.1
  have hl_p_2 : (p.2.2.1).length ≤ 9223372036854775807 := hb.1.2.2.1.1
  have hl_p_3 : (p.2.2.2).length ≤ 9223372036854775807 := hb.1.2.2.2.1.1
  refine listLoop p.2.1 (fun r k => ∀ y : Int, w64 (y + (r.map m_left1).sum) = (m_left p) → s_Left_A2 (fun r' => r' = s_Left_R (m_left p)) p (w64 y) k) ?_ ?_ 0 (by simp [m_left])
  · intro y he
    refine s_Left_v2 (fun r' => r' = s_Left_R (m_left p)) p _ _ ⟨fun h => by simp at h, fun _ => R_eq ?_⟩
    simpa using he
  · intro k x r hk hlt hg ih y he
    have hmem : x ∈ p.2.1 := List.mem_of_mem_drop (i := k) (by rw [hk]; exact List.mem_cons_self)
    have hbx : x.2.1.length ≤ 9223372036854775807 := (hb.1.2.1.2 x hmem).2.1.1
    refine s_Left_v2 (fun r' => r' = s_Left_R (m_left p)) p _ _ ⟨fun _ => ?_, fun h => by simp at h; omega⟩
    rw [Int.toNat_natCast, hg, w64_ok (x := (k : Int) + 1) (by omega) (by omega), left_spec (hp x hmem) hbx, w64_add_l]
    refine ⟨⟨⟨by omega, hlt⟩, by omega, hlt⟩, ih _ ?_⟩
    rw [← he, List.map_cons, List.sum_cons, Int.add_assoc]

theorem s_Left_ok : TRowOk Try.prog s_Left_row := rowOk fun x h => s_Left_h x.1 h

def i_Left_R (t : Int) : TRes := ⟨(.c TI t), [], [], false⟩
def i_Left_row : TRow := mkRow 95 [(.a ctPipe)] fun x => (none, i_Left_R (m_left x.1))
def i_Left_C : Prop := ∀ (x0 : TPipe), TCon Try.prog 95 [(.a (Tup.cells ctPipe x0))] (i_Left_R (m_left x0))

/-! impl.Left -/
def i_Left_G : List TRow := []
def i_Left_b2 : TCode :=
  (.seq (.reg [.op (some 10) (.bin .lss (.s 9) (.s 8))])
 (.seq (.cond (.s 10) .skip (.exit 0))
  (.seq (.block 1 (.seq (.reg [.op (some 11) (.iad (.s 7) (.s 9) ctStage),
        .op (some 12) (.load (.s 11) 14 true),
        .op (some 5) (.new 100 [(.c TI (0 : Int)), (.n ctIns), (.n ctOp), (.c .bool false), (.c .bool false), (.n ctSaved), (.n [(.sl [TI])]), (.n [TI]), (.n [TI]), (.n [TI]), (.n [TI]), (.n [(.sl [TI])]), (.c TI (0 : Int)), (.c .bool false)]),
        .op none (.store (.s 5) (.s 12) 14)])
     (.reg [.op (some 13) (.mov (.s 3)),
        .op (some 14) (.fad (.s 5) 1),
        .op (some 15) (.load (.s 14) 1 false),
        .op (some 16) (.len (.s 15)),
        .op (some 17) (.fad (.s 5) 0),
        .op (some 18) (.load (.s 17) 1 false),
        .op (some 19) (.mm true (.s 18) (.k (.c TI (0 : Int)))),
        .op (some 20) (.fad (.s 5) 1),
        .op (some 21) (.load (.s 20) 1 false),
        .op (some 22) (.len (.s 21)),
        .op (some 23) (.mm false (.s 19) (.s 22)),
        .op (some 24) (.bin .sub (.s 16) (.s 23)),
        .op (some 25) (.bin .add (.s 13) (.s 24)),
        .op (some 3) (.mov (.s 25))])))
   (.reg [.op (some 26) (.bin .add (.s 9) (.k (.c TI (1 : Int)))),
      .op (some 9) (.mov (.s 26))]))))
def i_Left_L2 : List (Nat × Md) := [(3, .one .d), (7, .one .d), (8, .one .d), (9, .one .d)]
def i_Left_y1 : TCode :=
  (.seq (.reg [.op (some 27) (.mov (.s 3)),
    .op (some 2) (.mov (.s 27))])
 .ret)
def i_Left_c : TCode :=
  (.seq (.reg [.op (some 1) (.box 123 (.s 0) 4),
    .op (some 2) (.mov (.k (.c TI (0 : Int))))])
 (.seq (.reg [.op (some 3) (.mov (.k (.c TI (0 : Int))))])
  (.seq (.seq (.reg [.op (some 6) (.fad (.s 1) 1),
       .op (some 7) (.load (.s 6) 1 false),
       .op (some 8) (.len (.s 7)),
       .op (some 9) (.mov (.k (.c TI (0 : Int))))])
    (.block 0 (.loop i_Left_L2 i_Left_b2)))
   i_Left_y1)))
def i_Left_rs : List (ARv × Md) := [(.t 2, .one .d)]
theorem i_Left_st : compF Try.prog 95 = some (i_Left_c.er, i_Left_rs.map Prod.fst, 28) := by kernel_rfl
def i_Left_Q (K : TRes → Prop) : TPost := TQ 0 i_Left_rs K
def i_Left_q1 (K : TRes → Prop) : TPost := Qseq (tawp i_Left_G 0 i_Left_y1 (i_Left_Q K)) (i_Left_Q K)
def i_Left_q2 (K : TRes → Prop) : TPost := Qblk 0 (i_Left_q1 K)
def i_Left_A2 (K : TRes → Prop) (p : TPipe) (n : Int) (x : Int) : Prop := Loop i_Left_G 0 i_Left_L2 i_Left_b2 (i_Left_q2 K) ⟨[(3, (.c TI n)), (7, (.c (.sl ctStage) p.2.1)), (8, (.c TI ((p.2.1).length : Int))), (9, (.c TI x))], [], 0⟩
theorem i_Left_v2 (K : TRes → Prop) (p : TPipe) (n : Int) (x : Int) (h :
  (((decide (x < ((p.2.1).length : Int))) = true → (((0 : Int) ≤ x ∧ Int.toNat x < (p.2.1).length) ∧ (i_Left_A2 K p (w64 (n + (w64 ((((gtd dStage p.2.1 (Int.toNat x)).2.1).length : Int) - (if (((gtd dStage p.2.1 (Int.toNat x)).2.1).length : Int) < (if ((gtd dStage p.2.1 (Int.toNat x)).1) < (0 : Int) then (0 : Int) else ((gtd dStage p.2.1 (Int.toNat x)).1)) then (((gtd dStage p.2.1 (Int.toNat x)).2.1).length : Int) else (if ((gtd dStage p.2.1 (Int.toNat x)).1) < (0 : Int) then (0 : Int) else ((gtd dStage p.2.1 (Int.toNat x)).1))))))) (w64 (x + (1 : Int)))))) ∧ ((decide (x < ((p.2.1).length : Int))) = false → K (i_Left_R n)))) : i_Left_A2 K p n x :=
  Loop.of (by kernel_rfl) h
theorem i_Left_v0 (K : TRes → Prop) (p : TPipe) (h :
  (i_Left_A2 K p (0 : Int) (0 : Int))) : Hold (tawp i_Left_G 0 i_Left_c (TQ 0 i_Left_rs K) (tstart [(.a (Tup.cells ctPipe p))])) :=
  Hold.of (by kernel_rfl) h
theorem i_Left_t (p : TPipe) (r : TRes) (h : Hold (tawp i_Left_G 0 i_Left_c (TQ 0 i_Left_rs fun r' => r' = r) (tstart [(.a (Tup.cells ctPipe p))]))) : TCon Try.prog 95 [(.a (Tup.cells ctPipe p))] r :=
  tcon_gen (sg := [(.a ctPipe)]) mixed TOk.nil i_Left_st (by kernel_rfl) (by kernel_rfl) (by kernel_rfl) h
theorem i_Left_h : i_Left_C := by
  intro p
  refine tcon_bd rfl fun hb => i_Left_t p _ (i_Left_v0 _ p ?_)
  have hl_p_0 : (p.1).length ≤ 9223372036854775807 := hb.1.1.1
  have hl_p_1 : (p.2.1).length ≤ 9223372036854775807 := hb.1.2.1.1
  have hl_p_2 : (p.2.2.1).length ≤ 9223372036854775807 := hb.1.2.2.1.1
  have hl_p_3 : (p.2.2.2).length ≤ 9223372036854775807 := hb.1.2.2.2.1.1
  refine listLoop p.2.1 (fun r k => ∀ y : Int, w64 (y + (r.map m_left1).sum) = (m_left p) → i_Left_A2 (fun r' => r' = i_Left_R (m_left p)) p (w64 y) k) ?_ ?_ 0 (by simp [m_left])
  · intro y he
    refine i_Left_v2 (fun r' => r' = i_Left_R (m_left p)) p _ _ ⟨fun h => by simp at h, fun _ => R_eq ?_⟩
    simpa using he
  · intro k x r hk hlt hg ih y he
    have hmem : x ∈ p.2.1 := List.mem_of_mem_drop (i := k) (by rw [hk]; exact List.mem_cons_self)
    have hbx : x.2.1.length ≤ 9223372036854775807 := (hb.1.2.1.2 x hmem).2.1.1
    refine i_Left_v2 (fun r' => r' = i_Left_R (m_left p)) p _ _ ⟨fun _ => ?_, fun h => by simp at h; omega⟩
    rw [Int.toNat_natCast, hg, w64_ok (x := (k : Int) + 1) (by omega) (by omega), left_impl hbx, w64_add_l]
    refine ⟨⟨by omega, hlt⟩, ih _ ?_⟩
    rw [← he, List.map_cons, List.sum_cons, Int.add_assoc]

theorem i_Left_ok : TRowOk Try.prog i_Left_row := rowOk fun x _ => i_Left_h x.1

def i_Done_R (t : Bool) : TRes := ⟨(.c .bool t), [], [], false⟩
def i_Done_row : TRow := mkRow 98 [(.a ctPipe)] fun x => (none, i_Done_R (m_done x.1))
def i_Done_C : Prop := ∀ (x0 : TPipe), TCon Try.prog 98 [(.a (Tup.cells ctPipe x0))] (i_Done_R (m_done x0))

/-! impl.Done -/
def i_Done_G : List TRow := [i_Left_row]
def i_Done_c : TCode :=
  (.seq (.reg [.op (some 1) (.box 123 (.s 0) 4),
    .op (some 2) (.mov (.k (.c .bool false)))])
 (.seq (.reg [.op (some 3) (.fad (.s 1) 1),
     .op (some 4) (.load (.s 3) 1 false),
     .op (some 5) (.len (.s 4)),
     .op (some 6) (.bin .gtr (.s 5) (.k (.c TI (0 : Int)))),
     .op (some 7) (.mov (.s 6)),
     .grp 7 true [.op (some 8) (.load (.s 1) 4 true), .op (some 9) (.call 95 [(.s 8)]), .op (some 10) (.bin .eql (.s 9) (.k (.c TI (0 : Int))))] 11 (.s 10),
     .op (some 2) (.mov (.s 11))])
  .ret))
def i_Done_rs : List (ARv × Md) := [(.t 2, .one .d)]
theorem i_Done_st : compF Try.prog 98 = some (i_Done_c.er, i_Done_rs.map Prod.fst, 12) := by kernel_rfl
def i_Done_Q (K : TRes → Prop) : TPost := TQ 0 i_Done_rs K
theorem i_Done_v0 (K : TRes → Prop) (p : TPipe) (h :
  K (i_Done_R ((decide (((p.2.1).length : Int) > (0 : Int))) && ((m_left p) == (0 : Int))))) : Hold (tawp i_Done_G 0 i_Done_c (TQ 0 i_Done_rs K) (tstart [(.a (Tup.cells ctPipe p))])) :=
  Hold.of (by kernel_rfl) h
theorem i_Done_t (p : TPipe) (r : TRes) (h : Hold (tawp i_Done_G 0 i_Done_c (TQ 0 i_Done_rs fun r' => r' = r) (tstart [(.a (Tup.cells ctPipe p))]))) : TCon Try.prog 98 [(.a (Tup.cells ctPipe p))] r :=
  tcon_gen (sg := [(.a ctPipe)]) mixed (TOk.cons i_Left_ok TOk.nil) i_Done_st (by kernel_rfl) (by kernel_rfl) (by kernel_rfl) h
theorem i_Done_h : i_Done_C := by
  intro p
  refine tcon_bd rfl fun hb => i_Done_t p _ (i_Done_v0 _ p ?_)
  have hl_p_0 : (p.1).length ≤ 9223372036854775807 := hb.1.1.1
  have hl_p_1 : (p.2.1).length ≤ 9223372036854775807 := hb.1.2.1.1
  have hl_p_2 : (p.2.2.1).length ≤ 9223372036854775807 := hb.1.2.2.1.1
  have hl_p_3 : (p.2.2.2).length ≤ 9223372036854775807 := hb.1.2.2.2.1.1
  exact R_eq (by simp [m_done])

theorem i_Done_ok : TRowOk Try.prog i_Done_row := rowOk fun x _ => i_Done_h x.1

def s_Done_R (t : Bool) : TRes := ⟨(.c .bool t), [], [], false⟩
def s_Done_row : TRow := mkRow 97 [(.a ctPipe)] fun x => (some (p_left x.1), s_Done_R (m_done x.1))
def s_Done_C : Prop := ∀ (x0 : TPipe), (p_left x0) → TCon Try.prog 97 [(.a (Tup.cells ctPipe x0))] (s_Done_R (m_done x0))

/-! spec.Done -/
def s_Done_G : List TRow := [s_Left_row]
def s_Done_c : TCode :=
  (.seq (.reg [.op (some 1) (.box 123 (.s 0) 4),
    .op (some 2) (.mov (.k (.c .bool false)))])
 (.seq (.reg [.op (some 3) (.fad (.s 1) 1),
     .op (some 4) (.load (.s 3) 1 false),
     .op (some 5) (.len (.s 4)),
     .op (some 6) (.bin .gtr (.s 5) (.k (.c TI (0 : Int)))),
     .op (some 7) (.mov (.s 6)),
     .grp 7 true [.op (some 8) (.load (.s 1) 4 true), .op (some 9) (.call 93 [(.s 8)]), .op (some 10) (.bin .eql (.s 9) (.k (.c TI (0 : Int))))] 11 (.s 10),
     .op (some 2) (.mov (.s 11))])
  .ret))
def s_Done_rs : List (ARv × Md) := [(.t 2, .one .d)]
theorem s_Done_st : compF Try.prog 97 = some (s_Done_c.er, s_Done_rs.map Prod.fst, 12) := by kernel_rfl
def s_Done_Q (K : TRes → Prop) : TPost := TQ 0 s_Done_rs K
theorem s_Done_v0 (K : TRes → Prop) (p : TPipe) (h :
  (((decide (((p.2.1).length : Int) > (0 : Int))) = true → (p_left p)) ∧ K (s_Done_R ((decide (((p.2.1).length : Int) > (0 : Int))) && ((m_left p) == (0 : Int)))))) : Hold (tawp s_Done_G 0 s_Done_c (TQ 0 s_Done_rs K) (tstart [(.a (Tup.cells ctPipe p))])) :=
  Hold.of (by kernel_rfl) h
theorem s_Done_t (p : TPipe) (r : TRes) (h : Hold (tawp s_Done_G 0 s_Done_c (TQ 0 s_Done_rs fun r' => r' = r) (tstart [(.a (Tup.cells ctPipe p))]))) : TCon Try.prog 97 [(.a (Tup.cells ctPipe p))] r :=
  tcon_gen (sg := [(.a ctPipe)]) mixed (TOk.cons s_Left_ok TOk.nil) s_Done_st (by kernel_rfl) (by kernel_rfl) (by kernel_rfl) h
theorem s_Done_h : s_Done_C := by
  intro p hp
  refine tcon_bd rfl fun hb => s_Done_t p _ (s_Done_v0 _ p ?_)
  have hl_p_0 : (p.1).length ≤ 9223372036854775807 := hb.1.1.1
  have hl_p_1 : (p.2.1).length ≤ 9223372036854775807 := hb.1.2.1.1
  have hl_p_2 : (p.2.2.1).length ≤ 9223372036854775807 := hb.1.2.2.1.1
  have hl_p_3 : (p.2.2.2).length ≤ 9223372036854775807 := hb.1.2.2.2.1.1
  exact ⟨fun _ => hp, R_eq (by simp [m_done])⟩

theorem s_Done_ok : TRowOk Try.prog s_Done_row := rowOk fun x h => s_Done_h x.1 h

end
end Go.Proofs.Ytpnblnkggeopkaa.Am
