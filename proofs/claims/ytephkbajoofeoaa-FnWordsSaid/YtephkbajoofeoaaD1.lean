/-
  Written by program: the code of functions, what it asks, and that it comes to what the models say.
-/
import Derived.Test.YtephkbajoofeoaaM8
namespace Go.Proofs.Ytephkbajoofeoaa.Am
open Go Go.RowKit Go.Proofs.Ytephkbajoofeoaa
set_option linter.unusedVariables false
set_option linter.unusedSimpArgs false
set_option maxHeartbeats 2000000
noncomputable section

def s_l1New_R (t : (((List Int) × Int × Int))) : TRes := ⟨(.p 0 0 0), [(.box [(.c (.sl [(.int .u8)]) t.1), (.c TI t.2.1), (.c TI t.2.2)])], [], true, []⟩
def e_new (x0 : List Int) : (((List Int) × Int × Int)) := Classical.epsilon fun t : (((List Int) × Int × Int)) => (q_new x0 t) ∧ TCon Try.prog 114 [(.c (.sl [(.int .u8)]) x0)] (s_l1New_R t)
def s_l1New_row : TRow := mkRow 114 [(.c (.sl [(.int .u8)]))] fun x => (some (p_new x.1), s_l1New_R (e_new x.1))
def s_l1New_C : Prop := ∀ (x0 : List Int), (p_new x0) → TCon Try.prog 114 [(.c (.sl [(.int .u8)]) x0)] (s_l1New_R (e_new x0))

/-! spec.l1New -/
def s_l1New_G : List TRow := []
def s_l1New_b2 : TCode :=
  (.seq (.seq (.reg [.op (some 8) (.mov (.s 4)),
     .op (some 9) (.mov (.s 0)),
     .op (some 10) (.len (.s 9)),
     .op (some 11) (.bin .lss (.s 8) (.s 10)),
     .op (some 12) (.mov (.s 11)),
     .grp 12 true [.op (some 13) (.mov (.s 4)), .op (some 14) (.bin .lss (.s 13) (.k (.c TI (4000 : Int))))] 15 (.s 14)])
  (.cond (.s 15) .skip (.exit 0)))
 (.seq (.block 1 (.reg [.op (some 18) (.mov (.s 3)),
      .op (some 19) (.bin .mul (.s 18) (.k (.c TI (131 : Int)))),
      .op (some 20) (.mov (.s 0)),
      .op (some 21) (.mov (.s 4)),
      .op (some 22) (.iad (.s 20) (.s 21) [(.int .u8)]),
      .op (some 23) (.load (.s 22) 1 false),
      .op (some 24) (.conv .i64 (.s 23)),
      .op (some 25) (.bin .add (.s 19) (.s 24)),
      .op (some 26) (.bin .add (.s 25) (.k (.c TI (7 : Int)))),
      .op (some 27) (.bin .and (.s 26) (.k (.c TI (1073741823 : Int)))),
      .op (some 3) (.mov (.s 27))]))
  (.reg [.op (some 16) (.mov (.s 4)),
     .op (some 17) (.bin .add (.s 16) (.k (.c TI (1 : Int)))),
     .op (some 4) (.mov (.s 17))])))
def s_l1New_L2 : List (Nat × Md) := [(0, .one .d), (3, .one .d), (4, .one .d)]
def s_l1New_y1 : TCode :=
  (.seq (.reg [.op (some 28) (.mov (.s 0)),
    .op (some 29) (.mov (.s 3)),
    .op (some 30) (.build [(.n [(.int .u8)]), (.c TI (0 : Int)), (.c TI (0 : Int))] [(0, 1, (.s 28)), (2, 1, (.s 29))]),
    .op (some 31) (.box 210 (.s 30) 3),
    .op (some 2) (.mov (.s 31))])
 .ret)
def s_l1New_c : TCode :=
  (.seq (.reg [.op (some 2) (.mov (.k (.c .nilp ())))])
 (.seq (.reg [.op (some 5) (.mov (.s 0)),
     .op (some 6) (.len (.s 5)),
     .op (some 7) (.bin .add (.k (.c TI (10101 : Int))) (.s 6)),
     .op (some 3) (.mov (.s 7))])
  (.seq (.seq (.reg [.op (some 4) (.mov (.k (.c TI (0 : Int))))])
    (.block 0 (.loop s_l1New_L2 s_l1New_b2)))
   s_l1New_y1)))
def s_l1New_rs : List (ARv × Md) := [(.t 2, .b [.d, .d, .d])]
theorem s_l1New_st : compF Try.prog 114 = some (s_l1New_c.er, s_l1New_rs.map Prod.fst, 32) := by kernel_rfl
def s_l1New_Q (K : TRes → Prop) : TPost := TQ 0 0 s_l1New_rs K
def s_l1New_q1 (K : TRes → Prop) : TPost := Qseq (tawp s_l1New_G 0 s_l1New_y1 (s_l1New_Q K)) (s_l1New_Q K)
def s_l1New_q2 (K : TRes → Prop) : TPost := Qblk 0 (s_l1New_q1 K)
def s_l1New_A2 (K : TRes → Prop) (code : List Int) (h1 : Int) (i : Int) : Prop := Loop s_l1New_G 0 s_l1New_L2 s_l1New_b2 (s_l1New_q2 K) ⟨[(0, (.c (.sl [(.int .u8)]) code)), (3, (.c TI h1)), (4, (.c TI i))], [], 0⟩
theorem s_l1New_v2 (K : TRes → Prop) (code : List Int) (h1 : Int) (i : Int) (h :
  ((((decide (i < (code.length : Int))) && (decide (i < (4000 : Int)))) = true → (((0 : Int) ≤ i ∧ Int.toNat i < code.length) ∧ (s_l1New_A2 K code (w64 (((BitVec.ofInt (IntKind.i64.bits) (w64 ((w64 ((w64 (h1 * (131 : Int))) + (w64 ((gtd (0 : Int) code (Int.toNat i)))))) + (7 : Int))) &&& BitVec.ofInt (IntKind.i64.bits) (1073741823 : Int)).toNat : Int))) (w64 (i + (1 : Int)))))) ∧ (((decide (i < (code.length : Int))) && (decide (i < (4000 : Int)))) = false → K (s_l1New_R (code, (0 : Int), h1))))) : s_l1New_A2 K code h1 i :=
  Loop.of (by kernel_rfl) h
theorem s_l1New_v0 (K : TRes → Prop) (code : List Int) (h :
  (s_l1New_A2 K code (w64 ((10101 : Int) + (code.length : Int))) (0 : Int))) : Hold (tawp s_l1New_G (0 + 0) s_l1New_c (TQ 0 0 s_l1New_rs K) (tstart [(.c (.sl [(.int .u8)]) code)])) :=
  Hold.of (by kernel_rfl) h
theorem s_l1New_t (code : List Int) (K : TRes → Prop) (h : Hold (tawp s_l1New_G (0 + 0) s_l1New_c (TQ 0 0 s_l1New_rs K) (tstart [(.c (.sl [(.int .u8)]) code)]))) : ∃ r, K r ∧ TCon Try.prog 114 [(.c (.sl [(.int .u8)]) code)] r :=
  tcon_gen_ex (sg := [(.c (.sl [(.int .u8)]))]) mixed TOk.nil s_l1New_st (by kernel_rfl) (by kernel_rfl) (by kernel_rfl) (by kernel_rfl) h
theorem s_l1New_ex (code : List Int) (hp : p_new code) : ∃ t : (((List Int) × Int × Int)), (q_new code t) ∧ TCon Try.prog 114 [(.c (.sl [(.int .u8)]) code)] (s_l1New_R t) := by
  refine tex_of (s_l1New_t code _ (s_l1New_v0 (fun r' => ∃ t, (q_new code t) ∧ r' = s_l1New_R t) code ?_))
  have hp' : code.length ≤ 1048576 := hp
  suffices h : ∀ x : Int, s_l1New_A2 (fun r' => ∃ t, (q_new code t) ∧ r' = s_l1New_R t) code x ((0 : Nat) : Int) from h _
  refine upLoop (min code.length 4000) (fun k => ∀ x : Int, s_l1New_A2 (fun r' => ∃ t, (q_new code t) ∧ r' = s_l1New_R t) code x (k : Int)) ?_ ?_
  · intro x
    refine s_l1New_v2 (fun r' => ∃ t, (q_new code t) ∧ r' = s_l1New_R t) code _ _ ⟨fun h => ?_, fun _ => (leafP ⟨Int.le_refl 0, hp⟩)⟩
    simp at h; omega
  · intro k hk ih x
    refine s_l1New_v2 (fun r' => ∃ t, (q_new code t) ∧ r' = s_l1New_R t) code _ _ ⟨fun _ => ⟨⟨by omega, by omega⟩, ?_⟩, fun h => ?_⟩
    · rw [sc1 (by omega)]; exact ih _
    · simp at h; omega
theorem s_l1New_post (code : List Int) (hp : p_new code) : q_new code (e_new code) := (Classical.epsilon_spec (s_l1New_ex code hp)).1
theorem s_l1New_h : s_l1New_C := by
  intro code hp
  exact (Classical.epsilon_spec (s_l1New_ex code hp)).2

theorem s_l1New_ok : TRowOk Try.prog s_l1New_row := rowOk fun x h => s_l1New_h x.1 h

def s_l1Byte_R (t : Int × (((List Int) × Int × Int))) : TRes := ⟨(.c TI t.1), [], [[(.c (.sl [(.int .u8)]) t.2.1), (.c TI t.2.2.1), (.c TI t.2.2.2)]], true, []⟩
def e_byte (x0 : ((List Int) × Int × Int)) : Int × (((List Int) × Int × Int)) := Classical.epsilon fun t : Int × (((List Int) × Int × Int)) => (q_byte x0 t) ∧ TCon Try.prog 183 [(.bx [(.c (.sl [(.int .u8)]) x0.1), (.c TI x0.2.1), (.c TI x0.2.2)])] (s_l1Byte_R t)
def s_l1Byte_row : TRow := mkRow 183 [(.b [(.sl [(.int .u8)]), TI, TI])] fun x => (some (p_cur x.1), s_l1Byte_R (e_byte x.1))
def s_l1Byte_C : Prop := ∀ (x0 : ((List Int) × Int × Int)), (p_cur x0) → TCon Try.prog 183 [(.bx [(.c (.sl [(.int .u8)]) x0.1), (.c TI x0.2.1), (.c TI x0.2.2)])] (s_l1Byte_R (e_byte x0))

/-! spec.l1Byte -/
def s_l1Byte_G : List TRow := []
def s_l1Byte_c : TCode :=
  (.seq (.reg [.op (some 2) (.mov (.k (.c TI (0 : Int))))])
 (.seq (.reg [.op (some 4) (.mov (.s 0)),
     .op (some 5) (.mov (.s 0)),
     .op (some 6) (.nilc (.s 5)),
     .op (some 7) (.fad (.s 6) 2),
     .op (some 8) (.load (.s 7) 1 false),
     .op (some 9) (.bin .mul (.s 8) (.k (.c TI (6364136223846793005 : Int)))),
     .op (some 10) (.bin .add (.s 9) (.k (.c TI (1442695040888963407 : Int)))),
     .op (some 11) (.nilc (.s 4)),
     .op (some 12) (.fad (.s 11) 2),
     .op none (.store (.s 12) (.s 10) 1)])
  (.seq (.draw [.op (some 13) (.mov (.s 0)),
      .op (some 14) (.nilc (.s 13)),
      .op (some 15) (.fad (.s 14) 2),
      .op (some 16) (.load (.s 15) 1 false),
      .op (some 17) (.bin .shr (.s 16) (.k (.c (.int .u64) (33 : Int)))),
      .op (some 18) (.mov (.s 0)),
      .op (some 19) (.nilc (.s 18)),
      .op (some 20) (.fad (.s 19) 2),
      .op (some 21) (.load (.s 20) 1 false),
      .op (some 22) (.bin .shr (.s 21) (.k (.c (.int .u64) (45 : Int)))),
      .op (some 23) (.bin .xor (.s 17) (.s 22)),
      .op (some 24) (.bin .and (.s 23) (.k (.c TI (255 : Int)))),
      .op (some 3) (.mov (.s 24))] [])
   (.seq (.seq (.draw [.op (some 25) (.mov (.s 0)),
        .op (some 26) (.nilc (.s 25)),
        .op (some 27) (.fad (.s 26) 1),
        .op (some 28) (.load (.s 27) 1 false),
        .op (some 29) (.mov (.s 0)),
        .op (some 30) (.nilc (.s 29)),
        .op (some 31) (.fad (.s 30) 0),
        .op (some 32) (.load (.s 31) 1 false),
        .op (some 33) (.len (.s 32)),
        .op (some 34) (.bin .lss (.s 28) (.s 33))] [])
     (.cond (.s 34) (.seq (.draw [.op (some 35) (.mov (.s 3)),
          .op (some 36) (.mov (.s 0)),
          .op (some 37) (.nilc (.s 36)),
          .op (some 38) (.fad (.s 37) 0),
          .op (some 39) (.load (.s 38) 1 false),
          .op (some 40) (.mov (.s 0)),
          .op (some 41) (.nilc (.s 40)),
          .op (some 42) (.fad (.s 41) 1),
          .op (some 43) (.load (.s 42) 1 false),
          .op (some 44) (.iad (.s 39) (.s 43) [(.int .u8)]),
          .op (some 45) (.load (.s 44) 1 false),
          .op (some 46) (.conv .i64 (.s 45)),
          .op (some 47) (.bin .add (.s 35) (.s 46)),
          .op (some 48) (.bin .and (.s 47) (.k (.c TI (255 : Int)))),
          .op (some 3) (.mov (.s 48))] [])
       (.reg [.op (some 49) (.mov (.s 0)),
          .op (some 50) (.mov (.s 0)),
          .op (some 51) (.nilc (.s 50)),
          .op (some 52) (.fad (.s 51) 1),
          .op (some 53) (.load (.s 52) 1 false),
          .op (some 54) (.bin .add (.s 53) (.k (.c TI (1 : Int)))),
          .op (some 55) (.nilc (.s 49)),
          .op (some 56) (.fad (.s 55) 1),
          .op none (.store (.s 56) (.s 54) 1)])) .skip))
    (.seq (.reg [.op (some 57) (.mov (.s 3)),
        .op (some 2) (.mov (.s 57))])
     .ret)))))
def s_l1Byte_rs : List (ARv × Md) := [(.t 2, .one .d)]
theorem s_l1Byte_st : compF Try.prog 183 = some (s_l1Byte_c.er, s_l1Byte_rs.map Prod.fst, 58) := by kernel_rfl
def s_l1Byte_Q (K : TRes → Prop) : TPost := TQ 1 0 s_l1Byte_rs K
theorem s_l1Byte_v0 (K : TRes → Prop) (c : ((List Int) × Int × Int)) (h :
  ((((0 : Int) ≤ (33 : Int)) ∧ ((0 : Int) ≤ (45 : Int))) ∧ (((decide (c.2.1 < ((c.1).length : Int))) = true → (((0 : Int) ≤ c.2.1 ∧ Int.toNat c.2.1 < (c.1).length) ∧ K (s_l1Byte_R (w64 (((BitVec.ofInt (IntKind.i64.bits) (w64 ((w64 (((BitVec.ofInt (IntKind.i64.bits) (w64 (((BitVec.ofInt (IntKind.i64.bits) (Int.fdiv (w64 ((w64 (c.2.2 * (6364136223846793005 : Int))) + (1442695040888963407 : Int))) (2 ^ (min (Int.toNat (33 : Int)) (IntKind.i64.bits)))) ^^^ BitVec.ofInt (IntKind.i64.bits) (Int.fdiv (w64 ((w64 (c.2.2 * (6364136223846793005 : Int))) + (1442695040888963407 : Int))) (2 ^ (min (Int.toNat (45 : Int)) (IntKind.i64.bits))))).toNat : Int))) &&& BitVec.ofInt (IntKind.i64.bits) (255 : Int)).toNat : Int))) + (w64 ((gtd (0 : Int) c.1 (Int.toNat c.2.1)))))) &&& BitVec.ofInt (IntKind.i64.bits) (255 : Int)).toNat : Int)), (c.1, w64 (c.2.1 + (1 : Int)), w64 ((w64 (c.2.2 * (6364136223846793005 : Int))) + (1442695040888963407 : Int))))))) ∧ ((decide (c.2.1 < ((c.1).length : Int))) = false → K (s_l1Byte_R (w64 (((BitVec.ofInt (IntKind.i64.bits) (w64 (((BitVec.ofInt (IntKind.i64.bits) (Int.fdiv (w64 ((w64 (c.2.2 * (6364136223846793005 : Int))) + (1442695040888963407 : Int))) (2 ^ (min (Int.toNat (33 : Int)) (IntKind.i64.bits)))) ^^^ BitVec.ofInt (IntKind.i64.bits) (Int.fdiv (w64 ((w64 (c.2.2 * (6364136223846793005 : Int))) + (1442695040888963407 : Int))) (2 ^ (min (Int.toNat (45 : Int)) (IntKind.i64.bits))))).toNat : Int))) &&& BitVec.ofInt (IntKind.i64.bits) (255 : Int)).toNat : Int)), (c.1, c.2.1, w64 ((w64 (c.2.2 * (6364136223846793005 : Int))) + (1442695040888963407 : Int))))))))) : Hold (tawp s_l1Byte_G (1 + 0) s_l1Byte_c (TQ 1 0 s_l1Byte_rs K) (tstart [(.bx [(.c (.sl [(.int .u8)]) c.1), (.c TI c.2.1), (.c TI c.2.2)])])) :=
  Hold.of (by kernel_rfl) h
theorem s_l1Byte_t (c : ((List Int) × Int × Int)) (K : TRes → Prop) (h : Hold (tawp s_l1Byte_G (1 + 0) s_l1Byte_c (TQ 1 0 s_l1Byte_rs K) (tstart [(.bx [(.c (.sl [(.int .u8)]) c.1), (.c TI c.2.1), (.c TI c.2.2)])]))) : ∃ r, K r ∧ TCon Try.prog 183 [(.bx [(.c (.sl [(.int .u8)]) c.1), (.c TI c.2.1), (.c TI c.2.2)])] r :=
  tcon_gen_ex (sg := [(.b [(.sl [(.int .u8)]), TI, TI])]) mixed TOk.nil s_l1Byte_st (by kernel_rfl) (by kernel_rfl) (by kernel_rfl) (by kernel_rfl) h
theorem s_l1Byte_ex (c : ((List Int) × Int × Int)) (hp : p_cur c) : ∃ t : Int × (((List Int) × Int × Int)), (q_byte c t) ∧ TCon Try.prog 183 [(.bx [(.c (.sl [(.int .u8)]) c.1), (.c TI c.2.1), (.c TI c.2.2)])] (s_l1Byte_R t) := by
  refine tex_of (s_l1Byte_t c _ (s_l1Byte_v0 (fun r' => ∃ t, (q_byte c t) ∧ r' = s_l1Byte_R t) c ?_))
  have h1 := hp.1
  have h2 := hp.2
  refine ⟨⟨by omega, by omega⟩, fun h => ⟨⟨h1, by simp at h; omega⟩, leafP ⟨(and255 _).1, (and255 _).2, ?_, h2⟩⟩, fun h => (leafP ⟨(and255 _).1, (and255 _).2, h1, h2⟩)⟩
  simp at h
  show 0 ≤ w64 (c.2.1 + 1)
  rw [w64_ok (by omega) (by omega)]; omega
theorem s_l1Byte_post (c : ((List Int) × Int × Int)) (hp : p_cur c) : q_byte c (e_byte c) := (Classical.epsilon_spec (s_l1Byte_ex c hp)).1
theorem s_l1Byte_h : s_l1Byte_C := by
  intro c hp
  exact (Classical.epsilon_spec (s_l1Byte_ex c hp)).2

theorem s_l1Byte_ok : TRowOk Try.prog s_l1Byte_row := rowOk fun x h => s_l1Byte_h x.1 h

def s_l1Below_R (t : Int × (((List Int) × Int × Int))) : TRes := ⟨(.c TI t.1), [], [[(.c (.sl [(.int .u8)]) t.2.1), (.c TI t.2.2.1), (.c TI t.2.2.2)]], true, []⟩
def e_below (x0 : ((List Int) × Int × Int)) (x1 : Int) : Int × (((List Int) × Int × Int)) := Classical.epsilon fun t : Int × (((List Int) × Int × Int)) => (q_below x0 x1 t) ∧ TCon Try.prog 116 [(.bx [(.c (.sl [(.int .u8)]) x0.1), (.c TI x0.2.1), (.c TI x0.2.2)]), (.c TI x1)] (s_l1Below_R t)
def s_l1Below_row : TRow := mkRow 116 [(.b [(.sl [(.int .u8)]), TI, TI]), (.c TI)] fun x => (some (p_cur2 x.1 x.2.1), s_l1Below_R (e_below x.1 x.2.1))
def s_l1Below_C : Prop := ∀ (x0 : ((List Int) × Int × Int)) (x1 : Int), (p_cur2 x0 x1) → TCon Try.prog 116 [(.bx [(.c (.sl [(.int .u8)]) x0.1), (.c TI x0.2.1), (.c TI x0.2.2)]), (.c TI x1)] (s_l1Below_R (e_below x0 x1))

/-! spec.l1Below -/
def s_l1Below_G : List TRow := [s_l1Byte_row]
def s_l1Below_c : TCode :=
  (.seq (.reg [.op (some 4) (.mov (.k (.c TI (0 : Int))))])
 (.seq (.seq (.reg [.op (some 9) (.mov (.s 1)),
      .op (some 10) (.bin .leq (.s 9) (.k (.c TI (0 : Int))))])
   (.cond (.s 10) (.seq (.reg [.op (some 4) (.mov (.k (.c TI (0 : Int))))])
     .ret) .skip))
  (.seq (.seq (.reg [.op (some 11) (.mov (.s 1)),
       .op (some 12) (.bin .leq (.s 11) (.k (.c TI (256 : Int))))])
    (.cond (.s 12) (.seq (.reg [.op (some 13) (.mov (.s 0)),
         .op (some 14) (.call 183 [(.s 13)]),
         .op (some 15) (.mov (.s 1)),
         .op (some 16) (.bin .rem (.s 14) (.s 15)),
         .op (some 4) (.mov (.s 16))])
      .ret) .skip))
   (.seq (.reg [.op (some 17) (.mov (.s 0)),
       .op (some 18) (.call 183 [(.s 17)]),
       .op (some 5) (.mov (.s 18))])
    (.seq (.reg [.op (some 19) (.mov (.s 0)),
        .op (some 20) (.call 183 [(.s 19)]),
        .op (some 6) (.mov (.s 20))])
     (.seq (.reg [.op (some 21) (.mov (.s 0)),
         .op (some 22) (.call 183 [(.s 21)]),
         .op (some 7) (.mov (.s 22))])
      (.seq (.reg [.op (some 23) (.mov (.s 0)),
          .op (some 24) (.call 183 [(.s 23)]),
          .op (some 8) (.mov (.s 24))])
       (.seq (.reg [.op (some 25) (.mov (.s 5)),
           .op (some 26) (.bin .mul (.s 25) (.k (.c TI (16777216 : Int)))),
           .op (some 27) (.mov (.s 6)),
           .op (some 28) (.bin .mul (.s 27) (.k (.c TI (65536 : Int)))),
           .op (some 29) (.bin .add (.s 26) (.s 28)),
           .op (some 30) (.mov (.s 7)),
           .op (some 31) (.bin .mul (.s 30) (.k (.c TI (256 : Int)))),
           .op (some 32) (.bin .add (.s 29) (.s 31)),
           .op (some 33) (.mov (.s 8)),
           .op (some 34) (.bin .add (.s 32) (.s 33)),
           .op (some 35) (.mov (.s 1)),
           .op (some 36) (.bin .rem (.s 34) (.s 35)),
           .op (some 4) (.mov (.s 36))])
        .ret))))))))
def s_l1Below_rs : List (ARv × Md) := [(.t 4, .one .d)]
theorem s_l1Below_st : compF Try.prog 116 = some (s_l1Below_c.er, s_l1Below_rs.map Prod.fst, 37) := by kernel_rfl
def s_l1Below_Q (K : TRes → Prop) : TPost := TQ 1 0 s_l1Below_rs K
theorem s_l1Below_v0 (K : TRes → Prop) (c : ((List Int) × Int × Int)) (n : Int) (h :
  (((decide (n ≤ (0 : Int))) = true → K (s_l1Below_R ((0 : Int), c))) ∧ ((decide (n ≤ (0 : Int))) = false → (((decide (n ≤ (256 : Int))) = true → (((p_cur c) ∧ (¬ (n : Int) = 0)) ∧ K (s_l1Below_R ((Int.tmod ((e_byte c).1) n), ((e_byte c).2))))) ∧ ((decide (n ≤ (256 : Int))) = false → ((p_cur c) ∧ ((p_cur ((e_byte c).2)) ∧ ((p_cur ((e_byte ((e_byte c).2)).2)) ∧ ((p_cur ((e_byte ((e_byte ((e_byte c).2)).2)).2)) ∧ ((¬ (n : Int) = 0) ∧ K (s_l1Below_R ((Int.tmod (w64 ((w64 ((w64 ((w64 (((e_byte c).1) * (16777216 : Int))) + (w64 (((e_byte ((e_byte c).2)).1) * (65536 : Int))))) + (w64 (((e_byte ((e_byte ((e_byte c).2)).2)).1) * (256 : Int))))) + ((e_byte ((e_byte ((e_byte ((e_byte c).2)).2)).2)).1))) n), ((e_byte ((e_byte ((e_byte ((e_byte c).2)).2)).2)).2))))))))))))) : Hold (tawp s_l1Below_G (1 + 0) s_l1Below_c (TQ 1 0 s_l1Below_rs K) (tstart [(.bx [(.c (.sl [(.int .u8)]) c.1), (.c TI c.2.1), (.c TI c.2.2)]), (.c TI n)])) :=
  Hold.of (by kernel_rfl) h
theorem s_l1Below_t (c : ((List Int) × Int × Int)) (n : Int) (K : TRes → Prop) (h : Hold (tawp s_l1Below_G (1 + 0) s_l1Below_c (TQ 1 0 s_l1Below_rs K) (tstart [(.bx [(.c (.sl [(.int .u8)]) c.1), (.c TI c.2.1), (.c TI c.2.2)]), (.c TI n)]))) : ∃ r, K r ∧ TCon Try.prog 116 [(.bx [(.c (.sl [(.int .u8)]) c.1), (.c TI c.2.1), (.c TI c.2.2)]), (.c TI n)] r :=
  tcon_gen_ex (sg := [(.b [(.sl [(.int .u8)]), TI, TI]), (.c TI)]) mixed (TOk.cons s_l1Byte_ok TOk.nil) s_l1Below_st (by kernel_rfl) (by kernel_rfl) (by kernel_rfl) (by kernel_rfl) h
theorem s_l1Below_ex (c : ((List Int) × Int × Int)) (n : Int) (hp : p_cur2 c n) : ∃ t : Int × (((List Int) × Int × Int)), (q_below c n t) ∧ TCon Try.prog 116 [(.bx [(.c (.sl [(.int .u8)]) c.1), (.c TI c.2.1), (.c TI c.2.2)]), (.c TI n)] (s_l1Below_R t) := by
  refine tex_of (s_l1Below_t c n _ (s_l1Below_v0 (fun r' => ∃ t, (q_below c n t) ∧ r' = s_l1Below_R t) c n ?_))
  refine ⟨fun h => (leafP ⟨Int.le_refl 0, fun h2 => by simp at h; omega, fun _ => rfl, hp⟩), fun h => ⟨fun h2 => ?_, fun h2 => ?_⟩⟩
  · have b1 := s_l1Byte_post c hp
    simp at h
    exact ⟨⟨hp, by omega⟩, leafP ⟨Int.tmod_nonneg _ b1.1, fun h0 => Int.tmod_lt_of_pos _ h0, fun h0 => by omega, b1.2.2⟩⟩
  · have b1 := s_l1Byte_post c hp
    have b2 := s_l1Byte_post _ b1.2.2
    have b3 := s_l1Byte_post _ b2.2.2
    have b4 := s_l1Byte_post _ b3.2.2
    simp at h
    refine ⟨hp, b1.2.2, b2.2.2, b3.2.2, by omega, leafP ⟨Int.tmod_nonneg _ ?_, fun h0 => Int.tmod_lt_of_pos _ h0, fun h0 => by omega, b4.2.2⟩⟩
    have h1 := b1.1
    have h2 := b1.2.1
    have h3 := b2.1
    have h4 := b2.2.1
    have h5 := b3.1
    have h6 := b3.2.1
    have h7 := b4.1
    have h8 := b4.2.1
    clear b1 b2 b3 b4
    rw [w64_ok (x := _ * 16777216) (by omega) (by omega), w64_ok (x := _ * 65536) (by omega) (by omega), w64_ok (x := _ * 256) (by omega) (by omega)]
    rw [w64_ok (x := _ * 16777216 + _) (by omega) (by omega), w64_ok (x := _ + _ * 256) (by omega) (by omega), w64_ok (by omega) (by omega)]
    omega
theorem s_l1Below_post (c : ((List Int) × Int × Int)) (n : Int) (hp : p_cur2 c n) : q_below c n (e_below c n) := (Classical.epsilon_spec (s_l1Below_ex c n hp)).1
theorem s_l1Below_h : s_l1Below_C := by
  intro c n hp
  exact (Classical.epsilon_spec (s_l1Below_ex c n hp)).2

theorem s_l1Below_ok : TRowOk Try.prog s_l1Below_row := rowOk fun x h => s_l1Below_h x.1 x.2.1 h

def s_l1Once_R (t : Bool × (((List Int) × Int × Int))) : TRes := ⟨(.c .bool t.1), [], [[(.c (.sl [(.int .u8)]) t.2.1), (.c TI t.2.2.1), (.c TI t.2.2.2)]], true, []⟩
def e_once (x0 : ((List Int) × Int × Int)) (x1 : Int) : Bool × (((List Int) × Int × Int)) := Classical.epsilon fun t : Bool × (((List Int) × Int × Int)) => (q_once x0 x1 t) ∧ TCon Try.prog 136 [(.bx [(.c (.sl [(.int .u8)]) x0.1), (.c TI x0.2.1), (.c TI x0.2.2)]), (.c TI x1)] (s_l1Once_R t)
def s_l1Once_row : TRow := mkRow 136 [(.b [(.sl [(.int .u8)]), TI, TI]), (.c TI)] fun x => (some (p_cur2 x.1 x.2.1), s_l1Once_R (e_once x.1 x.2.1))
def s_l1Once_C : Prop := ∀ (x0 : ((List Int) × Int × Int)) (x1 : Int), (p_cur2 x0 x1) → TCon Try.prog 136 [(.bx [(.c (.sl [(.int .u8)]) x0.1), (.c TI x0.2.1), (.c TI x0.2.2)]), (.c TI x1)] (s_l1Once_R (e_once x0 x1))

/-! spec.l1Once -/
def s_l1Once_G : List TRow := [s_l1Below_row]
def s_l1Once_c : TCode :=
  (.seq (.reg [.op (some 4) (.mov (.k (.c .bool false)))])
 (.seq (.reg [.op (some 5) (.mov (.s 0)),
     .op (some 6) (.mov (.s 1)),
     .op (some 7) (.call 116 [(.s 5), (.s 6)]),
     .op (some 8) (.bin .eql (.s 7) (.k (.c TI (0 : Int)))),
     .op (some 4) (.mov (.s 8))])
  .ret))
def s_l1Once_rs : List (ARv × Md) := [(.t 4, .one .d)]
theorem s_l1Once_st : compF Try.prog 136 = some (s_l1Once_c.er, s_l1Once_rs.map Prod.fst, 9) := by kernel_rfl
def s_l1Once_Q (K : TRes → Prop) : TPost := TQ 1 0 s_l1Once_rs K
theorem s_l1Once_v0 (K : TRes → Prop) (c : ((List Int) × Int × Int)) (n : Int) (h :
  ((p_cur2 c n) ∧ K (s_l1Once_R ((((e_below c n).1) == (0 : Int)), ((e_below c n).2))))) : Hold (tawp s_l1Once_G (1 + 0) s_l1Once_c (TQ 1 0 s_l1Once_rs K) (tstart [(.bx [(.c (.sl [(.int .u8)]) c.1), (.c TI c.2.1), (.c TI c.2.2)]), (.c TI n)])) :=
  Hold.of (by kernel_rfl) h
theorem s_l1Once_t (c : ((List Int) × Int × Int)) (n : Int) (K : TRes → Prop) (h : Hold (tawp s_l1Once_G (1 + 0) s_l1Once_c (TQ 1 0 s_l1Once_rs K) (tstart [(.bx [(.c (.sl [(.int .u8)]) c.1), (.c TI c.2.1), (.c TI c.2.2)]), (.c TI n)]))) : ∃ r, K r ∧ TCon Try.prog 136 [(.bx [(.c (.sl [(.int .u8)]) c.1), (.c TI c.2.1), (.c TI c.2.2)]), (.c TI n)] r :=
  tcon_gen_ex (sg := [(.b [(.sl [(.int .u8)]), TI, TI]), (.c TI)]) mixed (TOk.cons s_l1Below_ok TOk.nil) s_l1Once_st (by kernel_rfl) (by kernel_rfl) (by kernel_rfl) (by kernel_rfl) h
theorem s_l1Once_ex (c : ((List Int) × Int × Int)) (n : Int) (hp : p_cur2 c n) : ∃ t : Bool × (((List Int) × Int × Int)), (q_once c n t) ∧ TCon Try.prog 136 [(.bx [(.c (.sl [(.int .u8)]) c.1), (.c TI c.2.1), (.c TI c.2.2)]), (.c TI n)] (s_l1Once_R t) := by
  refine tex_of (s_l1Once_t c n _ (s_l1Once_v0 (fun r' => ∃ t, (q_once c n t) ∧ r' = s_l1Once_R t) c n ?_))
  exact ⟨hp, leafP ((s_l1Below_post c n hp).2.2.2)⟩
theorem s_l1Once_post (c : ((List Int) × Int × Int)) (n : Int) (hp : p_cur2 c n) : q_once c n (e_once c n) := (Classical.epsilon_spec (s_l1Once_ex c n hp)).1
theorem s_l1Once_h : s_l1Once_C := by
  intro c n hp
  exact (Classical.epsilon_spec (s_l1Once_ex c n hp)).2

theorem s_l1Once_ok : TRowOk Try.prog s_l1Once_row := rowOk fun x h => s_l1Once_h x.1 x.2.1 h

def s_l1PickInt_R (t : Int × (((List Int) × Int × Int))) : TRes := ⟨(.c TI t.1), [], [[(.c (.sl [(.int .u8)]) t.2.1), (.c TI t.2.2.1), (.c TI t.2.2.2)]], true, []⟩
def e_pickInt (x0 : ((List Int) × Int × Int)) (x1 : List Int) : Int × (((List Int) × Int × Int)) := Classical.epsilon fun t : Int × (((List Int) × Int × Int)) => (q_pickInt x0 x1 t) ∧ TCon Try.prog 182 [(.bx [(.c (.sl [(.int .u8)]) x0.1), (.c TI x0.2.1), (.c TI x0.2.2)]), (.c (.sl [TI]) x1)] (s_l1PickInt_R t)
def s_l1PickInt_row : TRow := mkRow 182 [(.b [(.sl [(.int .u8)]), TI, TI]), (.c (.sl [TI]))] fun x => (some (p_pickInt x.1 x.2.1), s_l1PickInt_R (e_pickInt x.1 x.2.1))
def s_l1PickInt_C : Prop := ∀ (x0 : ((List Int) × Int × Int)) (x1 : List Int), (p_pickInt x0 x1) → TCon Try.prog 182 [(.bx [(.c (.sl [(.int .u8)]) x0.1), (.c TI x0.2.1), (.c TI x0.2.2)]), (.c (.sl [TI]) x1)] (s_l1PickInt_R (e_pickInt x0 x1))

/-! spec.l1PickInt -/
def s_l1PickInt_G : List TRow := [s_l1Below_row]
def s_l1PickInt_c : TCode :=
  (.seq (.reg [.op (some 4) (.mov (.k (.c TI (0 : Int))))])
 (.seq (.reg [.op (some 5) (.mov (.s 1)),
     .op (some 6) (.mov (.s 0)),
     .op (some 7) (.mov (.s 1)),
     .op (some 8) (.len (.s 7)),
     .op (some 9) (.call 116 [(.s 6), (.s 8)]),
     .op (some 10) (.iad (.s 5) (.s 9) [TI]),
     .op (some 11) (.load (.s 10) 1 false),
     .op (some 4) (.mov (.s 11))])
  .ret))
def s_l1PickInt_rs : List (ARv × Md) := [(.t 4, .one .d)]
theorem s_l1PickInt_st : compF Try.prog 182 = some (s_l1PickInt_c.er, s_l1PickInt_rs.map Prod.fst, 12) := by kernel_rfl
def s_l1PickInt_Q (K : TRes → Prop) : TPost := TQ 1 0 s_l1PickInt_rs K
theorem s_l1PickInt_v0 (K : TRes → Prop) (c : ((List Int) × Int × Int)) (list : List Int) (h :
  (((p_cur2 c (list.length : Int)) ∧ ((0 : Int) ≤ (e_below c (list.length : Int)).1 ∧ Int.toNat ((e_below c (list.length : Int)).1) < list.length)) ∧ K (s_l1PickInt_R ((gtd (0 : Int) list (Int.toNat ((e_below c (list.length : Int)).1))), ((e_below c (list.length : Int)).2))))) : Hold (tawp s_l1PickInt_G (1 + 0) s_l1PickInt_c (TQ 1 0 s_l1PickInt_rs K) (tstart [(.bx [(.c (.sl [(.int .u8)]) c.1), (.c TI c.2.1), (.c TI c.2.2)]), (.c (.sl [TI]) list)])) :=
  Hold.of (by kernel_rfl) h
theorem s_l1PickInt_t (c : ((List Int) × Int × Int)) (list : List Int) (K : TRes → Prop) (h : Hold (tawp s_l1PickInt_G (1 + 0) s_l1PickInt_c (TQ 1 0 s_l1PickInt_rs K) (tstart [(.bx [(.c (.sl [(.int .u8)]) c.1), (.c TI c.2.1), (.c TI c.2.2)]), (.c (.sl [TI]) list)]))) : ∃ r, K r ∧ TCon Try.prog 182 [(.bx [(.c (.sl [(.int .u8)]) c.1), (.c TI c.2.1), (.c TI c.2.2)]), (.c (.sl [TI]) list)] r :=
  tcon_gen_ex (sg := [(.b [(.sl [(.int .u8)]), TI, TI]), (.c (.sl [TI]))]) mixed (TOk.cons s_l1Below_ok TOk.nil) s_l1PickInt_st (by kernel_rfl) (by kernel_rfl) (by kernel_rfl) (by kernel_rfl) h
theorem s_l1PickInt_ex (c : ((List Int) × Int × Int)) (list : List Int) (hp : p_pickInt c list) : ∃ t : Int × (((List Int) × Int × Int)), (q_pickInt c list t) ∧ TCon Try.prog 182 [(.bx [(.c (.sl [(.int .u8)]) c.1), (.c TI c.2.1), (.c TI c.2.2)]), (.c (.sl [TI]) list)] (s_l1PickInt_R t) := by
  refine tex_of (s_l1PickInt_t c list _ (s_l1PickInt_v0 (fun r' => ∃ t, (q_pickInt c list t) ∧ r' = s_l1PickInt_R t) c list ?_))
  have b := s_l1Below_post c list.length hp.1
  have h1 := hp.2.1
  have h2 := b.2.1 (by omega)
  have h3 := b.1
  exact ⟨⟨hp.1, h3, by omega⟩, leafP ⟨gtd_mem (by omega) _, b.2.2.2⟩⟩
theorem s_l1PickInt_post (c : ((List Int) × Int × Int)) (list : List Int) (hp : p_pickInt c list) : q_pickInt c list (e_pickInt c list) := (Classical.epsilon_spec (s_l1PickInt_ex c list hp)).1
theorem s_l1PickInt_h : s_l1PickInt_C := by
  intro c list hp
  exact (Classical.epsilon_spec (s_l1PickInt_ex c list hp)).2

theorem s_l1PickInt_ok : TRowOk Try.prog s_l1PickInt_row := rowOk fun x h => s_l1PickInt_h x.1 x.2.1 h

def l_big_R (t : Bool) : TRes := ⟨(.c .bool t), [], [], false, []⟩
def l_big_row : TRow := mkRow 26 [(.c (.sl [(.int .u8)]))] fun x => (none, l_big_R (m_big x.1))
def l_big_C : Prop := ∀ (x0 : List Int), TCon Try.prog 26 [(.c (.sl [(.int .u8)]) x0)] (l_big_R (m_big x0))

/-! laws.big -/
def l_big_G : List TRow := []
def l_big_c : TCode :=
  (.seq (.reg [.op (some 2) (.mov (.k (.c .bool false)))])
 (.seq (.reg [.op (some 3) (.mov (.s 0)),
     .op (some 4) (.len (.s 3)),
     .op (some 5) (.bin .gtr (.s 4) (.k (.c TI (1048576 : Int)))),
     .op (some 2) (.mov (.s 5))])
  .ret))
def l_big_rs : List (ARv × Md) := [(.t 2, .one .d)]
theorem l_big_st : compF Try.prog 26 = some (l_big_c.er, l_big_rs.map Prod.fst, 6) := by kernel_rfl
def l_big_Q (K : TRes → Prop) : TPost := TQ 0 0 l_big_rs K
theorem l_big_v0 (K : TRes → Prop) (code : List Int) (h :
  K (l_big_R (decide ((code.length : Int) > (1048576 : Int))))) : Hold (tawp l_big_G (0 + 0) l_big_c (TQ 0 0 l_big_rs K) (tstart [(.c (.sl [(.int .u8)]) code)])) :=
  Hold.of (by kernel_rfl) h
theorem l_big_t (code : List Int) (r : TRes) (h : Hold (tawp l_big_G (0 + 0) l_big_c (TQ 0 0 l_big_rs fun r' => r' = r) (tstart [(.c (.sl [(.int .u8)]) code)]))) : TCon Try.prog 26 [(.c (.sl [(.int .u8)]) code)] r :=
  tcon_gen (sg := [(.c (.sl [(.int .u8)]))]) mixed TOk.nil l_big_st (by kernel_rfl) (by kernel_rfl) (by kernel_rfl) (by kernel_rfl) h
theorem l_big_h : l_big_C := by
  intro code
  refine tcon_bd rfl fun hb => l_big_t code _ (l_big_v0 _ code ?_)
  have hl_code : code.length ≤ 9223372036854775807 := hb.1.1
  exact R_eq rfl

theorem l_big_ok : TRowOk Try.prog l_big_row := rowOk fun x _ => l_big_h x.1

def l_at_R (t : Int) : TRes := ⟨(.c TI t), [], [], false, []⟩
def l_at_row : TRow := mkRow 72 [(.c (.sl [(.int .u8)])), (.c TI)] fun x => (some (p_at x.1 x.2.1), l_at_R (m_at x.1 x.2.1))
def l_at_C : Prop := ∀ (x0 : List Int) (x1 : Int), (p_at x0 x1) → TCon Try.prog 72 [(.c (.sl [(.int .u8)]) x0), (.c TI x1)] (l_at_R (m_at x0 x1))

/-! laws.at -/
def l_at_G : List TRow := []
def l_at_c : TCode :=
  (.seq (.reg [.op (some 4) (.mov (.k (.c TI (0 : Int))))])
 (.seq (.seq (.reg [.op (some 5) (.mov (.s 1)),
      .op (some 6) (.mov (.s 0)),
      .op (some 7) (.len (.s 6)),
      .op (some 8) (.bin .lss (.s 5) (.s 7))])
   (.cond (.s 8) (.seq (.reg [.op (some 9) (.mov (.s 0)),
        .op (some 10) (.mov (.s 1)),
        .op (some 11) (.iad (.s 9) (.s 10) [(.int .u8)]),
        .op (some 12) (.load (.s 11) 1 false),
        .op (some 13) (.conv .i64 (.s 12)),
        .op (some 4) (.mov (.s 13))])
     .ret) .skip))
  (.seq (.reg [.op (some 14) (.mov (.s 1)),
      .op (some 15) (.bin .mul (.s 14) (.k (.c TI (37 : Int)))),
      .op (some 16) (.mov (.s 0)),
      .op (some 17) (.len (.s 16)),
      .op (some 18) (.bin .mul (.s 17) (.k (.c TI (11 : Int)))),
      .op (some 19) (.bin .add (.s 15) (.s 18)),
      .op (some 20) (.bin .rem (.s 19) (.k (.c TI (256 : Int)))),
      .op (some 4) (.mov (.s 20))])
   .ret)))
def l_at_rs : List (ARv × Md) := [(.t 4, .one .d)]
theorem l_at_st : compF Try.prog 72 = some (l_at_c.er, l_at_rs.map Prod.fst, 21) := by kernel_rfl
def l_at_Q (K : TRes → Prop) : TPost := TQ 0 0 l_at_rs K
theorem l_at_v0 (K : TRes → Prop) (code : List Int) (i : Int) (h :
  (((decide (i < (code.length : Int))) = true → (((0 : Int) ≤ i ∧ Int.toNat i < code.length) ∧ K (l_at_R (w64 ((gtd (0 : Int) code (Int.toNat i))))))) ∧ ((decide (i < (code.length : Int))) = false → ((¬ ((256 : Int) : Int) = 0) ∧ K (l_at_R (Int.tmod (w64 ((w64 (i * (37 : Int))) + (w64 ((code.length : Int) * (11 : Int))))) (256 : Int))))))) : Hold (tawp l_at_G (0 + 0) l_at_c (TQ 0 0 l_at_rs K) (tstart [(.c (.sl [(.int .u8)]) code), (.c TI i)])) :=
  Hold.of (by kernel_rfl) h
theorem l_at_t (code : List Int) (i : Int) (r : TRes) (h : Hold (tawp l_at_G (0 + 0) l_at_c (TQ 0 0 l_at_rs fun r' => r' = r) (tstart [(.c (.sl [(.int .u8)]) code), (.c TI i)]))) : TCon Try.prog 72 [(.c (.sl [(.int .u8)]) code), (.c TI i)] r :=
  tcon_gen (sg := [(.c (.sl [(.int .u8)])), (.c TI)]) mixed TOk.nil l_at_st (by kernel_rfl) (by kernel_rfl) (by kernel_rfl) (by kernel_rfl) h
theorem l_at_h : l_at_C := by
  intro code i hp
  refine tcon_bd rfl fun hb => l_at_t code i _ (l_at_v0 _ code i ?_)
  have hl_code : code.length ≤ 9223372036854775807 := hb.1.1
  have h0 : 0 ≤ i := hp
  refine ⟨fun h => ⟨⟨h0, by simp at h; omega⟩, R_eq ?_⟩, fun h => ⟨by omega, R_eq ?_⟩⟩
  · rw [m_at, if_pos (by simpa using h)]
  · rw [m_at, if_neg (by simpa using h)]

theorem l_at_ok : TRowOk Try.prog l_at_row := rowOk fun x h => l_at_h x.1 x.2.1 h

def l_sameInts_R (t : Bool) : TRes := ⟨(.c .bool t), [], [], false, []⟩
def l_sameInts_row : TRow := mkRow 33 [(.c (.sl [TI])), (.c (.sl [TI]))] fun x => (none, l_sameInts_R (m_eq (α := List Int) x.1 x.2.1))
def l_sameInts_C : Prop := ∀ (x0 : List Int) (x1 : List Int), TCon Try.prog 33 [(.c (.sl [TI]) x0), (.c (.sl [TI]) x1)] (l_sameInts_R (m_eq (α := List Int) x0 x1))

/-! laws.sameInts -/
def l_sameInts_G : List TRow := []
def l_sameInts_b2 : TCode :=
  (.seq (.seq (.reg [.op (some 11) (.mov (.s 5)),
     .op (some 12) (.mov (.s 0)),
     .op (some 13) (.len (.s 12)),
     .op (some 14) (.bin .lss (.s 11) (.s 13))])
  (.cond (.s 14) .skip (.exit 0)))
 (.seq (.block 1 (.seq (.draw [.op (some 17) (.mov (.s 0)),
       .op (some 18) (.mov (.s 5)),
       .op (some 19) (.iad (.s 17) (.s 18) [TI]),
       .op (some 20) (.load (.s 19) 1 false),
       .op (some 21) (.mov (.s 1)),
       .op (some 22) (.mov (.s 5)),
       .op (some 23) (.iad (.s 21) (.s 22) [TI]),
       .op (some 24) (.load (.s 23) 1 false),
       .op (some 25) (.bin .neq (.s 20) (.s 24))] [])
    (.cond (.s 25) (.seq (.reg [.op (some 4) (.mov (.k (.c .bool false)))])
      .ret) .skip)))
  (.reg [.op (some 15) (.mov (.s 5)),
     .op (some 16) (.bin .add (.s 15) (.k (.c TI (1 : Int)))),
     .op (some 5) (.mov (.s 16))])))
def l_sameInts_L2 : List (Nat × Md) := [(0, .one .d), (1, .one .d), (5, .one .d)]
def l_sameInts_y1 : TCode :=
  (.seq (.reg [.op (some 4) (.mov (.k (.c .bool true)))])
 .ret)
def l_sameInts_c : TCode :=
  (.seq (.reg [.op (some 4) (.mov (.k (.c .bool false)))])
 (.seq (.seq (.reg [.op (some 6) (.mov (.s 0)),
      .op (some 7) (.len (.s 6)),
      .op (some 8) (.mov (.s 1)),
      .op (some 9) (.len (.s 8)),
      .op (some 10) (.bin .neq (.s 7) (.s 9))])
   (.cond (.s 10) (.seq (.reg [.op (some 4) (.mov (.k (.c .bool false)))])
     .ret) .skip))
  (.seq (.seq (.reg [.op (some 5) (.mov (.k (.c TI (0 : Int))))])
    (.block 0 (.loop l_sameInts_L2 l_sameInts_b2)))
   l_sameInts_y1)))
def l_sameInts_rs : List (ARv × Md) := [(.t 4, .one .d)]
theorem l_sameInts_st : compF Try.prog 33 = some (l_sameInts_c.er, l_sameInts_rs.map Prod.fst, 26) := by kernel_rfl
def l_sameInts_Q (K : TRes → Prop) : TPost := TQ 0 0 l_sameInts_rs K
def l_sameInts_q1 (K : TRes → Prop) : TPost := Qseq (tawp l_sameInts_G 0 l_sameInts_y1 (l_sameInts_Q K)) (l_sameInts_Q K)
def l_sameInts_q2 (K : TRes → Prop) : TPost := Qblk 0 (l_sameInts_q1 K)
def l_sameInts_A2 (K : TRes → Prop) (a : List Int) (b : List Int) (i : Int) : Prop := Loop l_sameInts_G 0 l_sameInts_L2 l_sameInts_b2 (l_sameInts_q2 K) ⟨[(0, (.c (.sl [TI]) a)), (1, (.c (.sl [TI]) b)), (5, (.c TI i))], [], 0⟩
theorem l_sameInts_v2 (K : TRes → Prop) (a : List Int) (b : List Int) (i : Int) (h :
  (((decide (i < (a.length : Int))) = true → ((((0 : Int) ≤ i ∧ Int.toNat i < a.length) ∧ ((0 : Int) ≤ i ∧ Int.toNat i < b.length)) ∧ ((((gtd (0 : Int) a (Int.toNat i)) != (gtd (0 : Int) b (Int.toNat i))) = true → K (l_sameInts_R false)) ∧ (((gtd (0 : Int) a (Int.toNat i)) != (gtd (0 : Int) b (Int.toNat i))) = false → (l_sameInts_A2 K a b (w64 (i + (1 : Int)))))))) ∧ ((decide (i < (a.length : Int))) = false → K (l_sameInts_R true)))) : l_sameInts_A2 K a b i :=
  Loop.of (by kernel_rfl) h
theorem l_sameInts_v0 (K : TRes → Prop) (a : List Int) (b : List Int) (h :
  ((((a.length : Int) != (b.length : Int)) = true → K (l_sameInts_R false)) ∧ (((a.length : Int) != (b.length : Int)) = false → (l_sameInts_A2 K a b (0 : Int))))) : Hold (tawp l_sameInts_G (0 + 0) l_sameInts_c (TQ 0 0 l_sameInts_rs K) (tstart [(.c (.sl [TI]) a), (.c (.sl [TI]) b)])) :=
  Hold.of (by kernel_rfl) h
theorem l_sameInts_t (a : List Int) (b : List Int) (r : TRes) (h : Hold (tawp l_sameInts_G (0 + 0) l_sameInts_c (TQ 0 0 l_sameInts_rs fun r' => r' = r) (tstart [(.c (.sl [TI]) a), (.c (.sl [TI]) b)]))) : TCon Try.prog 33 [(.c (.sl [TI]) a), (.c (.sl [TI]) b)] r :=
  tcon_gen (sg := [(.c (.sl [TI])), (.c (.sl [TI]))]) mixed TOk.nil l_sameInts_st (by kernel_rfl) (by kernel_rfl) (by kernel_rfl) (by kernel_rfl) h
theorem l_sameInts_h : l_sameInts_C := by
  intro a b
  refine tcon_bd rfl fun hb => l_sameInts_t a b _ (l_sameInts_v0 _ a b ?_)
  have hl_a : a.length ≤ 9223372036854775807 := hb.1.1
  have hl_b : b.length ≤ 9223372036854775807 := hb.2.1.1
  exact eqFlatInt hb.1.1 (fun i h => l_sameInts_v2 (fun r' => r' = l_sameInts_R (m_eq (α := List Int) a b)) a b i h) (Q := fun x => l_sameInts_R x = l_sameInts_R (m_eq (α := List Int) a b)) rfl

theorem l_sameInts_ok : TRowOk Try.prog l_sameInts_row := rowOk fun x _ => l_sameInts_h x.1 x.2.1

end
end Go.Proofs.Ytephkbajoofeoaa.Am
