/-
  Written by program: the code of functions, what it asks, and that it comes to what the models say.
-/
import Derived.Test.YtephkbajoofeoaaP4
import Derived.Test.YtephkbajoofeoaaM8
import Derived.Test.YtephkbajoofeoaaM9
namespace Go.Proofs.Ytephkbajoofeoaa.Am
open Go Go.RowKit Go.Proofs.Ytephkbajoofeoaa
set_option linter.unusedVariables false
set_option linter.unusedSimpArgs false
set_option maxHeartbeats 2000000
noncomputable section

def s_l1New_R (t : (((List Int) × Int × Int))) : TRes := ⟨(.p 0 0 0), [(.box [(.c (.sl [(.int .u8)]) t.1), (.c TI t.2.1), (.c TI t.2.2)])], [], true, []⟩
def e_new (x0 : List Int) : (((List Int) × Int × Int)) := Classical.epsilon fun t : (((List Int) × Int × Int)) => (q_new x0 t) ∧ TCon Try.prog 114 [(.c (.sl [(.int .u8)]) x0)] (s_l1New_R t)
def s_l1New_row : TRow := mkRow 114 [(.c (.sl [(.int .u8)]))] fun x => (some (p_new x.1), s_l1New_R (e_new x.1))
def s_l1New_C : Prop := ∀ (x0 : List Int), (p_new x0) → TCon Try.prog 114 [(.c (.sl [(.int .u8)]) x0)] (s_l1New_R (e_new x0))

/-! spec.l1New -/
def s_l1New_G : List TRow := []
def s_l1New_b2 : TCode :=
  (.seq (.seq (.reg [.op (some 8) (.mov (.s 4)),
     .op (some 9) (.mov (.s 0)),
     .op (some 10) (.len (.s 9)),
     .op (some 11) (.bin .lss (.s 8) (.s 10)),
     .op (some 12) (.mov (.s 11)),
     .grp 12 true [.op (some 13) (.mov (.s 4)), .op (some 14) (.bin .lss (.s 13) (.k (.c TI (4000 : Int))))] 15 (.s 14)])
  (.cond (.s 15) .skip (.exit 0)))
 (.seq (.block 1 (.reg [.op (some 18) (.mov (.s 3)),
      .op (some 19) (.bin .mul (.s 18) (.k (.c TI (131 : Int)))),
      .op (some 20) (.mov (.s 0)),
      .op (some 21) (.mov (.s 4)),
      .op (some 22) (.iad (.s 20) (.s 21) [(.int .u8)]),
      .op (some 23) (.load (.s 22) 1 false),
      .op (some 24) (.conv .i64 (.s 23)),
      .op (some 25) (.bin .add (.s 19) (.s 24)),
      .op (some 26) (.bin .add (.s 25) (.k (.c TI (7 : Int)))),
      .op (some 27) (.bin .and (.s 26) (.k (.c TI (1073741823 : Int)))),
      .op (some 3) (.mov (.s 27))]))
  (.reg [.op (some 16) (.mov (.s 4)),
     .op (some 17) (.bin .add (.s 16) (.k (.c TI (1 : Int)))),
     .op (some 4) (.mov (.s 17))])))
def s_l1New_L2 : List (Nat × Md) := [(0, .one .d), (3, .one .d), (4, .one .d)]
def s_l1New_y1 : TCode :=
  (.seq (.reg [.op (some 28) (.mov (.s 0)),
    .op (some 29) (.mov (.s 3)),
    .op (some 30) (.build [(.n [(.int .u8)]), (.c TI (0 : Int)), (.c TI (0 : Int))] [(0, 1, (.s 28)), (2, 1, (.s 29))]),
    .op (some 31) (.box 210 (.s 30) 3),
    .op (some 2) (.mov (.s 31))])
 .ret)
def s_l1New_c : TCode :=
  (.seq (.reg [.op (some 2) (.mov (.k (.c .nilp ())))])
 (.seq (.reg [.op (some 5) (.mov (.s 0)),
     .op (some 6) (.len (.s 5)),
     .op (some 7) (.bin .add (.k (.c TI (10101 : Int))) (.s 6)),
     .op (some 3) (.mov (.s 7))])
  (.seq (.seq (.reg [.op (some 4) (.mov (.k (.c TI (0 : Int))))])
    (.block 0 (.loop s_l1New_L2 s_l1New_b2)))
   s_l1New_y1)))
def s_l1New_rs : List (ARv × Md) := [(.t 2, .b [.d, .d, .d])]
theorem s_l1New_st : compF Try.prog 114 = some (s_l1New_c.er, s_l1New_rs.map Prod.fst, 32) := by kernel_rfl
def s_l1New_Q (K : TRes → Prop) : TPost := TQ 0 0 s_l1New_rs K
def s_l1New_q1 (K : TRes → Prop) : TPost := Qseq (tawp s_l1New_G 0 s_l1New_y1 (s_l1New_Q K)) (s_l1New_Q K)
def s_l1New_q2 (K : TRes → Prop) : TPost := Qblk 0 (s_l1New_q1 K)
def s_l1New_A2 (K : TRes → Prop) (code : List Int) (h1 : Int) (i : Int) : Prop := Loop s_l1New_G 0 s_l1New_L2 s_l1New_b2 (s_l1New_q2 K) ⟨[(0, (.c (.sl [(.int .u8)]) code)), (3, (.c TI h1)), (4, (.c TI i))], [], 0⟩
theorem s_l1New_v2 (K : TRes → Prop) (code : List Int) (h1 : Int) (i : Int) (h :
  ((((decide (i < (code.length : Int))) && (decide (i < (4000 : Int)))) = true → (((0 : Int) ≤ i ∧ Int.toNat i < code.length) ∧ (s_l1New_A2 K code (w64 (((BitVec.ofInt (IntKind.i64.bits) (w64 ((w64 ((w64 (h1 * (131 : Int))) + (w64 ((gtd (0 : Int) code (Int.toNat i)))))) + (7 : Int))) &&& BitVec.ofInt (IntKind.i64.bits) (1073741823 : Int)).toNat : Int))) (w64 (i + (1 : Int)))))) ∧ (((decide (i < (code.length : Int))) && (decide (i < (4000 : Int)))) = false → K (s_l1New_R (code, (0 : Int), h1))))) : s_l1New_A2 K code h1 i :=
  Loop.of (by kernel_rfl) h
theorem s_l1New_v0 (K : TRes → Prop) (code : List Int) (h :
  (s_l1New_A2 K code (w64 ((10101 : Int) + (code.length : Int))) (0 : Int))) : Hold (tawp s_l1New_G (0 + 0) s_l1New_c (TQ 0 0 s_l1New_rs K) (tstart [(.c (.sl [(.int .u8)]) code)])) :=
  Hold.of (by kernel_rfl) h
theorem s_l1New_t (code : List Int) (K : TRes → Prop) (h : Hold (tawp s_l1New_G (0 + 0) s_l1New_c (TQ 0 0 s_l1New_rs K) (tstart [(.c (.sl [(.int .u8)]) code)]))) : ∃ r, K r ∧ TCon Try.prog 114 [(.c (.sl [(.int .u8)]) code)] r :=
  tcon_gen_ex (sg := [(.c (.sl [(.int .u8)]))]) mixed TOk.nil s_l1New_st (by kernel_rfl) (by kernel_rfl) (by kernel_rfl) (by kernel_rfl) h
theorem s_l1New_ex (code : List Int) (hp : p_new code) : ∃ t : (((List Int) × Int × Int)), (q_new code t) ∧ TCon Try.prog 114 [(.c (.sl [(.int .u8)]) code)] (s_l1New_R t) := by
  refine tex_of (s_l1New_t code _ (s_l1New_v0 (fun r' => ∃ t, (q_new code t) ∧ r' = s_l1New_R t) code ?_))
  have hp' : code.length ≤ 1048576 := hp
  suffices h : ∀ x : Int, s_l1New_A2 (fun r' => ∃ t, (q_new code t) ∧ r' = s_l1New_R t) code x ((0 : Nat) : Int) from h _
  refine upLoop (min code.length 4000) (fun k => ∀ x : Int, s_l1New_A2 (fun r' => ∃ t, (q_new code t) ∧ r' = s_l1New_R t) code x (k : Int)) ?_ ?_
  · intro x
    refine s_l1New_v2 (fun r' => ∃ t, (q_new code t) ∧ r' = s_l1New_R t) code _ _ ⟨fun h => ?_, fun _ => (leafP ⟨Int.le_refl 0, hp⟩)⟩
    simp at h; omega
  · intro k hk ih x
    refine s_l1New_v2 (fun r' => ∃ t, (q_new code t) ∧ r' = s_l1New_R t) code _ _ ⟨fun _ => ⟨⟨by omega, by omega⟩, ?_⟩, fun h => ?_⟩
    · rw [sc1 (by omega)]; exact ih _
    · simp at h; omega
theorem s_l1New_post (code : List Int) (hp : p_new code) : q_new code (e_new code) := (Classical.epsilon_spec (s_l1New_ex code hp)).1
theorem s_l1New_h : s_l1New_C := by
  intro code hp
  exact (Classical.epsilon_spec (s_l1New_ex code hp)).2

theorem s_l1New_ok : TRowOk Try.prog s_l1New_row := rowOk fun x h => s_l1New_h x.1 h

def s_l1Byte_R (t : Int × (((List Int) × Int × Int))) : TRes := ⟨(.c TI t.1), [], [[(.c (.sl [(.int .u8)]) t.2.1), (.c TI t.2.2.1), (.c TI t.2.2.2)]], true, []⟩
def e_byte (x0 : ((List Int) × Int × Int)) : Int × (((List Int) × Int × Int)) := Classical.epsilon fun t : Int × (((List Int) × Int × Int)) => (q_byte x0 t) ∧ TCon Try.prog 183 [(.bx [(.c (.sl [(.int .u8)]) x0.1), (.c TI x0.2.1), (.c TI x0.2.2)])] (s_l1Byte_R t)
def s_l1Byte_row : TRow := mkRow 183 [(.b [(.sl [(.int .u8)]), TI, TI])] fun x => (some (p_cur x.1), s_l1Byte_R (e_byte x.1))
def s_l1Byte_C : Prop := ∀ (x0 : ((List Int) × Int × Int)), (p_cur x0) → TCon Try.prog 183 [(.bx [(.c (.sl [(.int .u8)]) x0.1), (.c TI x0.2.1), (.c TI x0.2.2)])] (s_l1Byte_R (e_byte x0))

/-! spec.l1Byte -/
def s_l1Byte_G : List TRow := []
def s_l1Byte_c : TCode :=
  (.seq (.reg [.op (some 2) (.mov (.k (.c TI (0 : Int))))])
 (.seq (.reg [.op (some 4) (.mov (.s 0)),
     .op (some 5) (.mov (.s 0)),
     .op (some 6) (.nilc (.s 5)),
     .op (some 7) (.fad (.s 6) 2),
     .op (some 8) (.load (.s 7) 1 false),
     .op (some 9) (.bin .mul (.s 8) (.k (.c TI (6364136223846793005 : Int)))),
     .op (some 10) (.bin .add (.s 9) (.k (.c TI (1442695040888963407 : Int)))),
     .op (some 11) (.nilc (.s 4)),
     .op (some 12) (.fad (.s 11) 2),
     .op none (.store (.s 12) (.s 10) 1)])
  (.seq (.draw [.op (some 13) (.mov (.s 0)),
      .op (some 14) (.nilc (.s 13)),
      .op (some 15) (.fad (.s 14) 2),
      .op (some 16) (.load (.s 15) 1 false),
      .op (some 17) (.bin .shr (.s 16) (.k (.c (.int .u64) (33 : Int)))),
      .op (some 18) (.mov (.s 0)),
      .op (some 19) (.nilc (.s 18)),
      .op (some 20) (.fad (.s 19) 2),
      .op (some 21) (.load (.s 20) 1 false),
      .op (some 22) (.bin .shr (.s 21) (.k (.c (.int .u64) (45 : Int)))),
      .op (some 23) (.bin .xor (.s 17) (.s 22)),
      .op (some 24) (.bin .and (.s 23) (.k (.c TI (255 : Int)))),
      .op (some 3) (.mov (.s 24))] [])
   (.seq (.seq (.draw [.op (some 25) (.mov (.s 0)),
        .op (some 26) (.nilc (.s 25)),
        .op (some 27) (.fad (.s 26) 1),
        .op (some 28) (.load (.s 27) 1 false),
        .op (some 29) (.mov (.s 0)),
        .op (some 30) (.nilc (.s 29)),
        .op (some 31) (.fad (.s 30) 0),
        .op (some 32) (.load (.s 31) 1 false),
        .op (some 33) (.len (.s 32)),
        .op (some 34) (.bin .lss (.s 28) (.s 33))] [])
     (.cond (.s 34) (.seq (.draw [.op (some 35) (.mov (.s 3)),
          .op (some 36) (.mov (.s 0)),
          .op (some 37) (.nilc (.s 36)),
          .op (some 38) (.fad (.s 37) 0),
          .op (some 39) (.load (.s 38) 1 false),
          .op (some 40) (.mov (.s 0)),
          .op (some 41) (.nilc (.s 40)),
          .op (some 42) (.fad (.s 41) 1),
          .op (some 43) (.load (.s 42) 1 false),
          .op (some 44) (.iad (.s 39) (.s 43) [(.int .u8)]),
          .op (some 45) (.load (.s 44) 1 false),
          .op (some 46) (.conv .i64 (.s 45)),
          .op (some 47) (.bin .add (.s 35) (.s 46)),
          .op (some 48) (.bin .and (.s 47) (.k (.c TI (255 : Int)))),
          .op (some 3) (.mov (.s 48))] [])
       (.reg [.op (some 49) (.mov (.s 0)),
          .op (some 50) (.mov (.s 0)),
          .op (some 51) (.nilc (.s 50)),
          .op (some 52) (.fad (.s 51) 1),
          .op (some 53) (.load (.s 52) 1 false),
          .op (some 54) (.bin .add (.s 53) (.k (.c TI (1 : Int)))),
          .op (some 55) (.nilc (.s 49)),
          .op (some 56) (.fad (.s 55) 1),
          .op none (.store (.s 56) (.s 54) 1)])) .skip))
    (.seq (.reg [.op (some 57) (.mov (.s 3)),
        .op (some 2) (.mov (.s 57))])
     .ret)))))
def s_l1Byte_rs : List (ARv × Md) := [(.t 2, .one .d)]
theorem s_l1Byte_st : compF Try.prog 183 = some (s_l1Byte_c.er, s_l1Byte_rs.map Prod.fst, 58) := by kernel_rfl
def s_l1Byte_Q (K : TRes → Prop) : TPost := TQ 1 0 s_l1Byte_rs K
theorem s_l1Byte_v0 (K : TRes → Prop) (c : ((List Int) × Int × Int)) (h :
  ((((0 : Int) ≤ (33 : Int)) ∧ ((0 : Int) ≤ (45 : Int))) ∧ (((decide (c.2.1 < ((c.1).length : Int))) = true → (((0 : Int) ≤ c.2.1 ∧ Int.toNat c.2.1 < (c.1).length) ∧ K (s_l1Byte_R (w64 (((BitVec.ofInt (IntKind.i64.bits) (w64 ((w64 (((BitVec.ofInt (IntKind.i64.bits) (w64 (((BitVec.ofInt (IntKind.i64.bits) (Int.fdiv (w64 ((w64 (c.2.2 * (6364136223846793005 : Int))) + (1442695040888963407 : Int))) (2 ^ (min (Int.toNat (33 : Int)) (IntKind.i64.bits)))) ^^^ BitVec.ofInt (IntKind.i64.bits) (Int.fdiv (w64 ((w64 (c.2.2 * (6364136223846793005 : Int))) + (1442695040888963407 : Int))) (2 ^ (min (Int.toNat (45 : Int)) (IntKind.i64.bits))))).toNat : Int))) &&& BitVec.ofInt (IntKind.i64.bits) (255 : Int)).toNat : Int))) + (w64 ((gtd (0 : Int) c.1 (Int.toNat c.2.1)))))) &&& BitVec.ofInt (IntKind.i64.bits) (255 : Int)).toNat : Int)), (c.1, w64 (c.2.1 + (1 : Int)), w64 ((w64 (c.2.2 * (6364136223846793005 : Int))) + (1442695040888963407 : Int))))))) ∧ ((decide (c.2.1 < ((c.1).length : Int))) = false → K (s_l1Byte_R (w64 (((BitVec.ofInt (IntKind.i64.bits) (w64 (((BitVec.ofInt (IntKind.i64.bits) (Int.fdiv (w64 ((w64 (c.2.2 * (6364136223846793005 : Int))) + (1442695040888963407 : Int))) (2 ^ (min (Int.toNat (33 : Int)) (IntKind.i64.bits)))) ^^^ BitVec.ofInt (IntKind.i64.bits) (Int.fdiv (w64 ((w64 (c.2.2 * (6364136223846793005 : Int))) + (1442695040888963407 : Int))) (2 ^ (min (Int.toNat (45 : Int)) (IntKind.i64.bits))))).toNat : Int))) &&& BitVec.ofInt (IntKind.i64.bits) (255 : Int)).toNat : Int)), (c.1, c.2.1, w64 ((w64 (c.2.2 * (6364136223846793005 : Int))) + (1442695040888963407 : Int))))))))) : Hold (tawp s_l1Byte_G (1 + 0) s_l1Byte_c (TQ 1 0 s_l1Byte_rs K) (tstart [(.bx [(.c (.sl [(.int .u8)]) c.1), (.c TI c.2.1), (.c TI c.2.2)])])) :=
  Hold.of (by kernel_rfl) h
theorem s_l1Byte_t (c : ((List Int) × Int × Int)) (K : TRes → Prop) (h : Hold (tawp s_l1Byte_G (1 + 0) s_l1Byte_c (TQ 1 0 s_l1Byte_rs K) (tstart [(.bx [(.c (.sl [(.int .u8)]) c.1), (.c TI c.2.1), (.c TI c.2.2)])]))) : ∃ r, K r ∧ TCon Try.prog 183 [(.bx [(.c (.sl [(.int .u8)]) c.1), (.c TI c.2.1), (.c TI c.2.2)])] r :=
  tcon_gen_ex (sg := [(.b [(.sl [(.int .u8)]), TI, TI])]) mixed TOk.nil s_l1Byte_st (by kernel_rfl) (by kernel_rfl) (by kernel_rfl) (by kernel_rfl) h
theorem s_l1Byte_ex (c : ((List Int) × Int × Int)) (hp : p_cur c) : ∃ t : Int × (((List Int) × Int × Int)), (q_byte c t) ∧ TCon Try.prog 183 [(.bx [(.c (.sl [(.int .u8)]) c.1), (.c TI c.2.1), (.c TI c.2.2)])] (s_l1Byte_R t) := by
  refine tex_of (s_l1Byte_t c _ (s_l1Byte_v0 (fun r' => ∃ t, (q_byte c t) ∧ r' = s_l1Byte_R t) c ?_))
  have h1 := hp.1
  have h2 := hp.2
  refine ⟨⟨by omega, by omega⟩, fun h => ⟨⟨h1, by simp at h; omega⟩, leafP ⟨(and255 _).1, (and255 _).2, ?_, h2⟩⟩, fun h => (leafP ⟨(and255 _).1, (and255 _).2, h1, h2⟩)⟩
  simp at h
  show 0 ≤ w64 (c.2.1 + 1)
  rw [w64_ok (by omega) (by omega)]; omega
theorem s_l1Byte_post (c : ((List Int) × Int × Int)) (hp : p_cur c) : q_byte c (e_byte c) := (Classical.epsilon_spec (s_l1Byte_ex c hp)).1
theorem s_l1Byte_h : s_l1Byte_C := by
  intro c hp
  exact (Classical.epsilon_spec (s_l1Byte_ex c hp)).2

theorem s_l1Byte_ok : TRowOk Try.prog s_l1Byte_row := rowOk fun x h => s_l1Byte_h x.1 h

def s_l1Below_R (t : Int × (((List Int) × Int × Int))) : TRes := ⟨(.c TI t.1), [], [[(.c (.sl [(.int .u8)]) t.2.1), (.c TI t.2.2.1), (.c TI t.2.2.2)]], true, []⟩
def e_below (x0 : ((List Int) × Int × Int)) (x1 : Int) : Int × (((List Int) × Int × Int)) := Classical.epsilon fun t : Int × (((List Int) × Int × Int)) => (q_below x0 x1 t) ∧ TCon Try.prog 116 [(.bx [(.c (.sl [(.int .u8)]) x0.1), (.c TI x0.2.1), (.c TI x0.2.2)]), (.c TI x1)] (s_l1Below_R t)
def s_l1Below_row : TRow := mkRow 116 [(.b [(.sl [(.int .u8)]), TI, TI]), (.c TI)] fun x => (some (p_cur2 x.1 x.2.1), s_l1Below_R (e_below x.1 x.2.1))
def s_l1Below_C : Prop := ∀ (x0 : ((List Int) × Int × Int)) (x1 : Int), (p_cur2 x0 x1) → TCon Try.prog 116 [(.bx [(.c (.sl [(.int .u8)]) x0.1), (.c TI x0.2.1), (.c TI x0.2.2)]), (.c TI x1)] (s_l1Below_R (e_below x0 x1))

/-! spec.l1Below -/
def s_l1Below_G : List TRow := [s_l1Byte_row]
def s_l1Below_c : TCode :=
  (.seq (.reg [.op (some 4) (.mov (.k (.c TI (0 : Int))))])
 (.seq (.seq (.reg [.op (some 9) (.mov (.s 1)),
      .op (some 10) (.bin .leq (.s 9) (.k (.c TI (0 : Int))))])
   (.cond (.s 10) (.seq (.reg [.op (some 4) (.mov (.k (.c TI (0 : Int))))])
     .ret) .skip))
  (.seq (.seq (.reg [.op (some 11) (.mov (.s 1)),
       .op (some 12) (.bin .leq (.s 11) (.k (.c TI (256 : Int))))])
    (.cond (.s 12) (.seq (.reg [.op (some 13) (.mov (.s 0)),
         .op (some 14) (.call 183 [(.s 13)]),
         .op (some 15) (.mov (.s 1)),
         .op (some 16) (.bin .rem (.s 14) (.s 15)),
         .op (some 4) (.mov (.s 16))])
      .ret) .skip))
   (.seq (.reg [.op (some 17) (.mov (.s 0)),
       .op (some 18) (.call 183 [(.s 17)]),
       .op (some 5) (.mov (.s 18))])
    (.seq (.reg [.op (some 19) (.mov (.s 0)),
        .op (some 20) (.call 183 [(.s 19)]),
        .op (some 6) (.mov (.s 20))])
     (.seq (.reg [.op (some 21) (.mov (.s 0)),
         .op (some 22) (.call 183 [(.s 21)]),
         .op (some 7) (.mov (.s 22))])
      (.seq (.reg [.op (some 23) (.mov (.s 0)),
          .op (some 24) (.call 183 [(.s 23)]),
          .op (some 8) (.mov (.s 24))])
       (.seq (.reg [.op (some 25) (.mov (.s 5)),
           .op (some 26) (.bin .mul (.s 25) (.k (.c TI (16777216 : Int)))),
           .op (some 27) (.mov (.s 6)),
           .op (some 28) (.bin .mul (.s 27) (.k (.c TI (65536 : Int)))),
           .op (some 29) (.bin .add (.s 26) (.s 28)),
           .op (some 30) (.mov (.s 7)),
           .op (some 31) (.bin .mul (.s 30) (.k (.c TI (256 : Int)))),
           .op (some 32) (.bin .add (.s 29) (.s 31)),
           .op (some 33) (.mov (.s 8)),
           .op (some 34) (.bin .add (.s 32) (.s 33)),
           .op (some 35) (.mov (.s 1)),
           .op (some 36) (.bin .rem (.s 34) (.s 35)),
           .op (some 4) (.mov (.s 36))])
        .ret))))))))
def s_l1Below_rs : List (ARv × Md) := [(.t 4, .one .d)]
theorem s_l1Below_st : compF Try.prog 116 = some (s_l1Below_c.er, s_l1Below_rs.map Prod.fst, 37) := by kernel_rfl
def s_l1Below_Q (K : TRes → Prop) : TPost := TQ 1 0 s_l1Below_rs K
theorem s_l1Below_v0 (K : TRes → Prop) (c : ((List Int) × Int × Int)) (n : Int) (h :
  (((decide (n ≤ (0 : Int))) = true → K (s_l1Below_R ((0 : Int), c))) ∧ ((decide (n ≤ (0 : Int))) = false → (((decide (n ≤ (256 : Int))) = true → (((p_cur c) ∧ (¬ (n : Int) = 0)) ∧ K (s_l1Below_R ((Int.tmod ((e_byte c).1) n), ((e_byte c).2))))) ∧ ((decide (n ≤ (256 : Int))) = false → ((p_cur c) ∧ ((p_cur ((e_byte c).2)) ∧ ((p_cur ((e_byte ((e_byte c).2)).2)) ∧ ((p_cur ((e_byte ((e_byte ((e_byte c).2)).2)).2)) ∧ ((¬ (n : Int) = 0) ∧ K (s_l1Below_R ((Int.tmod (w64 ((w64 ((w64 ((w64 (((e_byte c).1) * (16777216 : Int))) + (w64 (((e_byte ((e_byte c).2)).1) * (65536 : Int))))) + (w64 (((e_byte ((e_byte ((e_byte c).2)).2)).1) * (256 : Int))))) + ((e_byte ((e_byte ((e_byte ((e_byte c).2)).2)).2)).1))) n), ((e_byte ((e_byte ((e_byte ((e_byte c).2)).2)).2)).2))))))))))))) : Hold (tawp s_l1Below_G (1 + 0) s_l1Below_c (TQ 1 0 s_l1Below_rs K) (tstart [(.bx [(.c (.sl [(.int .u8)]) c.1), (.c TI c.2.1), (.c TI c.2.2)]), (.c TI n)])) :=
  Hold.of (by kernel_rfl) h
theorem s_l1Below_t (c : ((List Int) × Int × Int)) (n : Int) (K : TRes → Prop) (h : Hold (tawp s_l1Below_G (1 + 0) s_l1Below_c (TQ 1 0 s_l1Below_rs K) (tstart [(.bx [(.c (.sl [(.int .u8)]) c.1), (.c TI c.2.1), (.c TI c.2.2)]), (.c TI n)]))) : ∃ r, K r ∧ TCon Try.prog 116 [(.bx [(.c (.sl [(.int .u8)]) c.1), (.c TI c.2.1), (.c TI c.2.2)]), (.c TI n)] r :=
  tcon_gen_ex (sg := [(.b [(.sl [(.int .u8)]), TI, TI]), (.c TI)]) mixed (TOk.cons s_l1Byte_ok TOk.nil) s_l1Below_st (by kernel_rfl) (by kernel_rfl) (by kernel_rfl) (by kernel_rfl) h
theorem s_l1Below_ex (c : ((List Int) × Int × Int)) (n : Int) (hp : p_cur2 c n) : ∃ t : Int × (((List Int) × Int × Int)), (q_below c n t) ∧ TCon Try.prog 116 [(.bx [(.c (.sl [(.int .u8)]) c.1), (.c TI c.2.1), (.c TI c.2.2)]), (.c TI n)] (s_l1Below_R t) := by
  refine tex_of (s_l1Below_t c n _ (s_l1Below_v0 (fun r' => ∃ t, (q_below c n t) ∧ r' = s_l1Below_R t) c n ?_))
  refine ⟨fun h => (leafP ⟨Int.le_refl 0, fun h2 => by simp at h; omega, fun _ => rfl, hp⟩), fun h => ⟨fun h2 => ?_, fun h2 => ?_⟩⟩
  · have b1 := s_l1Byte_post c hp
    simp at h
    exact ⟨⟨hp, by omega⟩, leafP ⟨Int.tmod_nonneg _ b1.1, fun h0 => Int.tmod_lt_of_pos _ h0, fun h0 => by omega, b1.2.2⟩⟩
  · have b1 := s_l1Byte_post c hp
    have b2 := s_l1Byte_post _ b1.2.2
    have b3 := s_l1Byte_post _ b2.2.2
    have b4 := s_l1Byte_post _ b3.2.2
    simp at h
    refine ⟨hp, b1.2.2, b2.2.2, b3.2.2, by omega, leafP ⟨Int.tmod_nonneg _ ?_, fun h0 => Int.tmod_lt_of_pos _ h0, fun h0 => by omega, b4.2.2⟩⟩
    have h1 := b1.1
    have h2 := b1.2.1
    have h3 := b2.1
    have h4 := b2.2.1
    have h5 := b3.1
    have h6 := b3.2.1
    have h7 := b4.1
    have h8 := b4.2.1
    clear b1 b2 b3 b4
    rw [w64_ok (x := _ * 16777216) (by omega) (by omega), w64_ok (x := _ * 65536) (by omega) (by omega), w64_ok (x := _ * 256) (by omega) (by omega)]
    rw [w64_ok (x := _ * 16777216 + _) (by omega) (by omega), w64_ok (x := _ + _ * 256) (by omega) (by omega), w64_ok (by omega) (by omega)]
    omega
theorem s_l1Below_post (c : ((List Int) × Int × Int)) (n : Int) (hp : p_cur2 c n) : q_below c n (e_below c n) := (Classical.epsilon_spec (s_l1Below_ex c n hp)).1
theorem s_l1Below_h : s_l1Below_C := by
  intro c n hp
  exact (Classical.epsilon_spec (s_l1Below_ex c n hp)).2

theorem s_l1Below_ok : TRowOk Try.prog s_l1Below_row := rowOk fun x h => s_l1Below_h x.1 x.2.1 h

def s_l1Once_R (t : Bool × (((List Int) × Int × Int))) : TRes := ⟨(.c .bool t.1), [], [[(.c (.sl [(.int .u8)]) t.2.1), (.c TI t.2.2.1), (.c TI t.2.2.2)]], true, []⟩
def e_once (x0 : ((List Int) × Int × Int)) (x1 : Int) : Bool × (((List Int) × Int × Int)) := Classical.epsilon fun t : Bool × (((List Int) × Int × Int)) => (q_once x0 x1 t) ∧ TCon Try.prog 136 [(.bx [(.c (.sl [(.int .u8)]) x0.1), (.c TI x0.2.1), (.c TI x0.2.2)]), (.c TI x1)] (s_l1Once_R t)
def s_l1Once_row : TRow := mkRow 136 [(.b [(.sl [(.int .u8)]), TI, TI]), (.c TI)] fun x => (some (p_cur2 x.1 x.2.1), s_l1Once_R (e_once x.1 x.2.1))
def s_l1Once_C : Prop := ∀ (x0 : ((List Int) × Int × Int)) (x1 : Int), (p_cur2 x0 x1) → TCon Try.prog 136 [(.bx [(.c (.sl [(.int .u8)]) x0.1), (.c TI x0.2.1), (.c TI x0.2.2)]), (.c TI x1)] (s_l1Once_R (e_once x0 x1))

/-! spec.l1Once -/
def s_l1Once_G : List TRow := [s_l1Below_row]
def s_l1Once_c : TCode :=
  (.seq (.reg [.op (some 4) (.mov (.k (.c .bool false)))])
 (.seq (.reg [.op (some 5) (.mov (.s 0)),
     .op (some 6) (.mov (.s 1)),
     .op (some 7) (.call 116 [(.s 5), (.s 6)]),
     .op (some 8) (.bin .eql (.s 7) (.k (.c TI (0 : Int)))),
     .op (some 4) (.mov (.s 8))])
  .ret))
def s_l1Once_rs : List (ARv × Md) := [(.t 4, .one .d)]
theorem s_l1Once_st : compF Try.prog 136 = some (s_l1Once_c.er, s_l1Once_rs.map Prod.fst, 9) := by kernel_rfl
def s_l1Once_Q (K : TRes → Prop) : TPost := TQ 1 0 s_l1Once_rs K
theorem s_l1Once_v0 (K : TRes → Prop) (c : ((List Int) × Int × Int)) (n : Int) (h :
  ((p_cur2 c n) ∧ K (s_l1Once_R ((((e_below c n).1) == (0 : Int)), ((e_below c n).2))))) : Hold (tawp s_l1Once_G (1 + 0) s_l1Once_c (TQ 1 0 s_l1Once_rs K) (tstart [(.bx [(.c (.sl [(.int .u8)]) c.1), (.c TI c.2.1), (.c TI c.2.2)]), (.c TI n)])) :=
  Hold.of (by kernel_rfl) h
theorem s_l1Once_t (c : ((List Int) × Int × Int)) (n : Int) (K : TRes → Prop) (h : Hold (tawp s_l1Once_G (1 + 0) s_l1Once_c (TQ 1 0 s_l1Once_rs K) (tstart [(.bx [(.c (.sl [(.int .u8)]) c.1), (.c TI c.2.1), (.c TI c.2.2)]), (.c TI n)]))) : ∃ r, K r ∧ TCon Try.prog 136 [(.bx [(.c (.sl [(.int .u8)]) c.1), (.c TI c.2.1), (.c TI c.2.2)]), (.c TI n)] r :=
  tcon_gen_ex (sg := [(.b [(.sl [(.int .u8)]), TI, TI]), (.c TI)]) mixed (TOk.cons s_l1Below_ok TOk.nil) s_l1Once_st (by kernel_rfl) (by kernel_rfl) (by kernel_rfl) (by kernel_rfl) h
theorem s_l1Once_ex (c : ((List Int) × Int × Int)) (n : Int) (hp : p_cur2 c n) : ∃ t : Bool × (((List Int) × Int × Int)), (q_once c n t) ∧ TCon Try.prog 136 [(.bx [(.c (.sl [(.int .u8)]) c.1), (.c TI c.2.1), (.c TI c.2.2)]), (.c TI n)] (s_l1Once_R t) := by
  refine tex_of (s_l1Once_t c n _ (s_l1Once_v0 (fun r' => ∃ t, (q_once c n t) ∧ r' = s_l1Once_R t) c n ?_))
  exact ⟨hp, leafP ((s_l1Below_post c n hp).2.2.2)⟩
theorem s_l1Once_post (c : ((List Int) × Int × Int)) (n : Int) (hp : p_cur2 c n) : q_once c n (e_once c n) := (Classical.epsilon_spec (s_l1Once_ex c n hp)).1
theorem s_l1Once_h : s_l1Once_C := by
  intro c n hp
  exact (Classical.epsilon_spec (s_l1Once_ex c n hp)).2

theorem s_l1Once_ok : TRowOk Try.prog s_l1Once_row := rowOk fun x h => s_l1Once_h x.1 x.2.1 h

def s_l1PickInt_R (t : Int × (((List Int) × Int × Int))) : TRes := ⟨(.c TI t.1), [], [[(.c (.sl [(.int .u8)]) t.2.1), (.c TI t.2.2.1), (.c TI t.2.2.2)]], true, []⟩
def e_pickInt (x0 : ((List Int) × Int × Int)) (x1 : List Int) : Int × (((List Int) × Int × Int)) := Classical.epsilon fun t : Int × (((List Int) × Int × Int)) => (q_pickInt x0 x1 t) ∧ TCon Try.prog 182 [(.bx [(.c (.sl [(.int .u8)]) x0.1), (.c TI x0.2.1), (.c TI x0.2.2)]), (.c (.sl [TI]) x1)] (s_l1PickInt_R t)
def s_l1PickInt_row : TRow := mkRow 182 [(.b [(.sl [(.int .u8)]), TI, TI]), (.c (.sl [TI]))] fun x => (some (p_pickInt x.1 x.2.1), s_l1PickInt_R (e_pickInt x.1 x.2.1))
def s_l1PickInt_C : Prop := ∀ (x0 : ((List Int) × Int × Int)) (x1 : List Int), (p_pickInt x0 x1) → TCon Try.prog 182 [(.bx [(.c (.sl [(.int .u8)]) x0.1), (.c TI x0.2.1), (.c TI x0.2.2)]), (.c (.sl [TI]) x1)] (s_l1PickInt_R (e_pickInt x0 x1))

/-! spec.l1PickInt -/
def s_l1PickInt_G : List TRow := [s_l1Below_row]
def s_l1PickInt_c : TCode :=
  (.seq (.reg [.op (some 4) (.mov (.k (.c TI (0 : Int))))])
 (.seq (.reg [.op (some 5) (.mov (.s 1)),
     .op (some 6) (.mov (.s 0)),
     .op (some 7) (.mov (.s 1)),
     .op (some 8) (.len (.s 7)),
     .op (some 9) (.call 116 [(.s 6), (.s 8)]),
     .op (some 10) (.iad (.s 5) (.s 9) [TI]),
     .op (some 11) (.load (.s 10) 1 false),
     .op (some 4) (.mov (.s 11))])
  .ret))
def s_l1PickInt_rs : List (ARv × Md) := [(.t 4, .one .d)]
theorem s_l1PickInt_st : compF Try.prog 182 = some (s_l1PickInt_c.er, s_l1PickInt_rs.map Prod.fst, 12) := by kernel_rfl
def s_l1PickInt_Q (K : TRes → Prop) : TPost := TQ 1 0 s_l1PickInt_rs K
theorem s_l1PickInt_v0 (K : TRes → Prop) (c : ((List Int) × Int × Int)) (list : List Int) (h :
  (((p_cur2 c (list.length : Int)) ∧ ((0 : Int) ≤ (e_below c (list.length : Int)).1 ∧ Int.toNat ((e_below c (list.length : Int)).1) < list.length)) ∧ K (s_l1PickInt_R ((gtd (0 : Int) list (Int.toNat ((e_below c (list.length : Int)).1))), ((e_below c (list.length : Int)).2))))) : Hold (tawp s_l1PickInt_G (1 + 0) s_l1PickInt_c (TQ 1 0 s_l1PickInt_rs K) (tstart [(.bx [(.c (.sl [(.int .u8)]) c.1), (.c TI c.2.1), (.c TI c.2.2)]), (.c (.sl [TI]) list)])) :=
  Hold.of (by kernel_rfl) h
theorem s_l1PickInt_t (c : ((List Int) × Int × Int)) (list : List Int) (K : TRes → Prop) (h : Hold (tawp s_l1PickInt_G (1 + 0) s_l1PickInt_c (TQ 1 0 s_l1PickInt_rs K) (tstart [(.bx [(.c (.sl [(.int .u8)]) c.1), (.c TI c.2.1), (.c TI c.2.2)]), (.c (.sl [TI]) list)]))) : ∃ r, K r ∧ TCon Try.prog 182 [(.bx [(.c (.sl [(.int .u8)]) c.1), (.c TI c.2.1), (.c TI c.2.2)]), (.c (.sl [TI]) list)] r :=
  tcon_gen_ex (sg := [(.b [(.sl [(.int .u8)]), TI, TI]), (.c (.sl [TI]))]) mixed (TOk.cons s_l1Below_ok TOk.nil) s_l1PickInt_st (by kernel_rfl) (by kernel_rfl) (by kernel_rfl) (by kernel_rfl) h
theorem s_l1PickInt_ex (c : ((List Int) × Int × Int)) (list : List Int) (hp : p_pickInt c list) : ∃ t : Int × (((List Int) × Int × Int)), (q_pickInt c list t) ∧ TCon Try.prog 182 [(.bx [(.c (.sl [(.int .u8)]) c.1), (.c TI c.2.1), (.c TI c.2.2)]), (.c (.sl [TI]) list)] (s_l1PickInt_R t) := by
  refine tex_of (s_l1PickInt_t c list _ (s_l1PickInt_v0 (fun r' => ∃ t, (q_pickInt c list t) ∧ r' = s_l1PickInt_R t) c list ?_))
  have b := s_l1Below_post c list.length hp.1
  have h1 := hp.2.1
  have h2 := b.2.1 (by omega)
  have h3 := b.1
  exact ⟨⟨hp.1, h3, by omega⟩, leafP ⟨gtd_mem (by omega) _, b.2.2.2⟩⟩
theorem s_l1PickInt_post (c : ((List Int) × Int × Int)) (list : List Int) (hp : p_pickInt c list) : q_pickInt c list (e_pickInt c list) := (Classical.epsilon_spec (s_l1PickInt_ex c list hp)).1
theorem s_l1PickInt_h : s_l1PickInt_C := by
  intro c list hp
  exact (Classical.epsilon_spec (s_l1PickInt_ex c list hp)).2

theorem s_l1PickInt_ok : TRowOk Try.prog s_l1PickInt_row := rowOk fun x h => s_l1PickInt_h x.1 x.2.1 h

def l_big_R (t : Bool) : TRes := ⟨(.c .bool t), [], [], false, []⟩
def l_big_row : TRow := mkRow 26 [(.c (.sl [(.int .u8)]))] fun x => (none, l_big_R (m_big x.1))
def l_big_C : Prop := ∀ (x0 : List Int), TCon Try.prog 26 [(.c (.sl [(.int .u8)]) x0)] (l_big_R (m_big x0))

/-! laws.big -/
def l_big_G : List TRow := []
def l_big_c : TCode :=
  (.seq (.reg [.op (some 2) (.mov (.k (.c .bool false)))])
 (.seq (.reg [.op (some 3) (.mov (.s 0)),
     .op (some 4) (.len (.s 3)),
     .op (some 5) (.bin .gtr (.s 4) (.k (.c TI (1048576 : Int)))),
     .op (some 2) (.mov (.s 5))])
  .ret))
def l_big_rs : List (ARv × Md) := [(.t 2, .one .d)]
theorem l_big_st : compF Try.prog 26 = some (l_big_c.er, l_big_rs.map Prod.fst, 6) := by kernel_rfl
def l_big_Q (K : TRes → Prop) : TPost := TQ 0 0 l_big_rs K
theorem l_big_v0 (K : TRes → Prop) (code : List Int) (h :
  K (l_big_R (decide ((code.length : Int) > (1048576 : Int))))) : Hold (tawp l_big_G (0 + 0) l_big_c (TQ 0 0 l_big_rs K) (tstart [(.c (.sl [(.int .u8)]) code)])) :=
  Hold.of (by kernel_rfl) h
theorem l_big_t (code : List Int) (r : TRes) (h : Hold (tawp l_big_G (0 + 0) l_big_c (TQ 0 0 l_big_rs fun r' => r' = r) (tstart [(.c (.sl [(.int .u8)]) code)]))) : TCon Try.prog 26 [(.c (.sl [(.int .u8)]) code)] r :=
  tcon_gen (sg := [(.c (.sl [(.int .u8)]))]) mixed TOk.nil l_big_st (by kernel_rfl) (by kernel_rfl) (by kernel_rfl) (by kernel_rfl) h
theorem l_big_h : l_big_C := by
  intro code
  refine tcon_bd rfl fun hb => l_big_t code _ (l_big_v0 _ code ?_)
  have hl_code : code.length ≤ 9223372036854775807 := hb.1.1
  exact R_eq rfl

theorem l_big_ok : TRowOk Try.prog l_big_row := rowOk fun x _ => l_big_h x.1

def l_at_R (t : Int) : TRes := ⟨(.c TI t), [], [], false, []⟩
def l_at_row : TRow := mkRow 72 [(.c (.sl [(.int .u8)])), (.c TI)] fun x => (some (p_at x.1 x.2.1), l_at_R (m_at x.1 x.2.1))
def l_at_C : Prop := ∀ (x0 : List Int) (x1 : Int), (p_at x0 x1) → TCon Try.prog 72 [(.c (.sl [(.int .u8)]) x0), (.c TI x1)] (l_at_R (m_at x0 x1))

/-! laws.at -/
def l_at_G : List TRow := []
def l_at_c : TCode :=
  (.seq (.reg [.op (some 4) (.mov (.k (.c TI (0 : Int))))])
 (.seq (.seq (.reg [.op (some 5) (.mov (.s 1)),
      .op (some 6) (.mov (.s 0)),
      .op (some 7) (.len (.s 6)),
      .op (some 8) (.bin .lss (.s 5) (.s 7))])
   (.cond (.s 8) (.seq (.reg [.op (some 9) (.mov (.s 0)),
        .op (some 10) (.mov (.s 1)),
        .op (some 11) (.iad (.s 9) (.s 10) [(.int .u8)]),
        .op (some 12) (.load (.s 11) 1 false),
        .op (some 13) (.conv .i64 (.s 12)),
        .op (some 4) (.mov (.s 13))])
     .ret) .skip))
  (.seq (.reg [.op (some 14) (.mov (.s 1)),
      .op (some 15) (.bin .mul (.s 14) (.k (.c TI (37 : Int)))),
      .op (some 16) (.mov (.s 0)),
      .op (some 17) (.len (.s 16)),
      .op (some 18) (.bin .mul (.s 17) (.k (.c TI (11 : Int)))),
      .op (some 19) (.bin .add (.s 15) (.s 18)),
      .op (some 20) (.bin .rem (.s 19) (.k (.c TI (256 : Int)))),
      .op (some 4) (.mov (.s 20))])
   .ret)))
def l_at_rs : List (ARv × Md) := [(.t 4, .one .d)]
theorem l_at_st : compF Try.prog 72 = some (l_at_c.er, l_at_rs.map Prod.fst, 21) := by kernel_rfl
def l_at_Q (K : TRes → Prop) : TPost := TQ 0 0 l_at_rs K
theorem l_at_v0 (K : TRes → Prop) (code : List Int) (i : Int) (h :
  (((decide (i < (code.length : Int))) = true → (((0 : Int) ≤ i ∧ Int.toNat i < code.length) ∧ K (l_at_R (w64 ((gtd (0 : Int) code (Int.toNat i))))))) ∧ ((decide (i < (code.length : Int))) = false → ((¬ ((256 : Int) : Int) = 0) ∧ K (l_at_R (Int.tmod (w64 ((w64 (i * (37 : Int))) + (w64 ((code.length : Int) * (11 : Int))))) (256 : Int))))))) : Hold (tawp l_at_G (0 + 0) l_at_c (TQ 0 0 l_at_rs K) (tstart [(.c (.sl [(.int .u8)]) code), (.c TI i)])) :=
  Hold.of (by kernel_rfl) h
theorem l_at_t (code : List Int) (i : Int) (r : TRes) (h : Hold (tawp l_at_G (0 + 0) l_at_c (TQ 0 0 l_at_rs fun r' => r' = r) (tstart [(.c (.sl [(.int .u8)]) code), (.c TI i)]))) : TCon Try.prog 72 [(.c (.sl [(.int .u8)]) code), (.c TI i)] r :=
  tcon_gen (sg := [(.c (.sl [(.int .u8)])), (.c TI)]) mixed TOk.nil l_at_st (by kernel_rfl) (by kernel_rfl) (by kernel_rfl) (by kernel_rfl) h
theorem l_at_h : l_at_C := by
  intro code i hp
  refine tcon_bd rfl fun hb => l_at_t code i _ (l_at_v0 _ code i ?_)
  have hl_code : code.length ≤ 9223372036854775807 := hb.1.1
  have h0 : 0 ≤ i := hp
  refine ⟨fun h => ⟨⟨h0, by simp at h; omega⟩, R_eq ?_⟩, fun h => ⟨by omega, R_eq ?_⟩⟩
  · rw [m_at, if_pos (by simpa using h)]
  · rw [m_at, if_neg (by simpa using h)]

theorem l_at_ok : TRowOk Try.prog l_at_row := rowOk fun x h => l_at_h x.1 x.2.1 h

def l_sameInts_R (t : Bool) : TRes := ⟨(.c .bool t), [], [], false, []⟩
def l_sameInts_row : TRow := mkRow 33 [(.c (.sl [TI])), (.c (.sl [TI]))] fun x => (none, l_sameInts_R (m_eq (α := List Int) x.1 x.2.1))
def l_sameInts_C : Prop := ∀ (x0 : List Int) (x1 : List Int), TCon Try.prog 33 [(.c (.sl [TI]) x0), (.c (.sl [TI]) x1)] (l_sameInts_R (m_eq (α := List Int) x0 x1))

/-! laws.sameInts -/
def l_sameInts_G : List TRow := []
def l_sameInts_b2 : TCode :=
  (.seq (.seq (.reg [.op (some 11) (.mov (.s 5)),
     .op (some 12) (.mov (.s 0)),
     .op (some 13) (.len (.s 12)),
     .op (some 14) (.bin .lss (.s 11) (.s 13))])
  (.cond (.s 14) .skip (.exit 0)))
 (.seq (.block 1 (.seq (.draw [.op (some 17) (.mov (.s 0)),
       .op (some 18) (.mov (.s 5)),
       .op (some 19) (.iad (.s 17) (.s 18) [TI]),
       .op (some 20) (.load (.s 19) 1 false),
       .op (some 21) (.mov (.s 1)),
       .op (some 22) (.mov (.s 5)),
       .op (some 23) (.iad (.s 21) (.s 22) [TI]),
       .op (some 24) (.load (.s 23) 1 false),
       .op (some 25) (.bin .neq (.s 20) (.s 24))] [])
    (.cond (.s 25) (.seq (.reg [.op (some 4) (.mov (.k (.c .bool false)))])
      .ret) .skip)))
  (.reg [.op (some 15) (.mov (.s 5)),
     .op (some 16) (.bin .add (.s 15) (.k (.c TI (1 : Int)))),
     .op (some 5) (.mov (.s 16))])))
def l_sameInts_L2 : List (Nat × Md) := [(0, .one .d), (1, .one .d), (5, .one .d)]
def l_sameInts_y1 : TCode :=
  (.seq (.reg [.op (some 4) (.mov (.k (.c .bool true)))])
 .ret)
def l_sameInts_c : TCode :=
  (.seq (.reg [.op (some 4) (.mov (.k (.c .bool false)))])
 (.seq (.seq (.reg [.op (some 6) (.mov (.s 0)),
      .op (some 7) (.len (.s 6)),
      .op (some 8) (.mov (.s 1)),
      .op (some 9) (.len (.s 8)),
      .op (some 10) (.bin .neq (.s 7) (.s 9))])
   (.cond (.s 10) (.seq (.reg [.op (some 4) (.mov (.k (.c .bool false)))])
     .ret) .skip))
  (.seq (.seq (.reg [.op (some 5) (.mov (.k (.c TI (0 : Int))))])
    (.block 0 (.loop l_sameInts_L2 l_sameInts_b2)))
   l_sameInts_y1)))
def l_sameInts_rs : List (ARv × Md) := [(.t 4, .one .d)]
theorem l_sameInts_st : compF Try.prog 33 = some (l_sameInts_c.er, l_sameInts_rs.map Prod.fst, 26) := by kernel_rfl
def l_sameInts_Q (K : TRes → Prop) : TPost := TQ 0 0 l_sameInts_rs K
def l_sameInts_q1 (K : TRes → Prop) : TPost := Qseq (tawp l_sameInts_G 0 l_sameInts_y1 (l_sameInts_Q K)) (l_sameInts_Q K)
def l_sameInts_q2 (K : TRes → Prop) : TPost := Qblk 0 (l_sameInts_q1 K)
def l_sameInts_A2 (K : TRes → Prop) (a : List Int) (b : List Int) (i : Int) : Prop := Loop l_sameInts_G 0 l_sameInts_L2 l_sameInts_b2 (l_sameInts_q2 K) ⟨[(0, (.c (.sl [TI]) a)), (1, (.c (.sl [TI]) b)), (5, (.c TI i))], [], 0⟩
theorem l_sameInts_v2 (K : TRes → Prop) (a : List Int) (b : List Int) (i : Int) (h :
  (((decide (i < (a.length : Int))) = true → ((((0 : Int) ≤ i ∧ Int.toNat i < a.length) ∧ ((0 : Int) ≤ i ∧ Int.toNat i < b.length)) ∧ ((((gtd (0 : Int) a (Int.toNat i)) != (gtd (0 : Int) b (Int.toNat i))) = true → K (l_sameInts_R false)) ∧ (((gtd (0 : Int) a (Int.toNat i)) != (gtd (0 : Int) b (Int.toNat i))) = false → (l_sameInts_A2 K a b (w64 (i + (1 : Int)))))))) ∧ ((decide (i < (a.length : Int))) = false → K (l_sameInts_R true)))) : l_sameInts_A2 K a b i :=
  Loop.of (by kernel_rfl) h
theorem l_sameInts_v0 (K : TRes → Prop) (a : List Int) (b : List Int) (h :
  ((((a.length : Int) != (b.length : Int)) = true → K (l_sameInts_R false)) ∧ (((a.length : Int) != (b.length : Int)) = false → (l_sameInts_A2 K a b (0 : Int))))) : Hold (tawp l_sameInts_G (0 + 0) l_sameInts_c (TQ 0 0 l_sameInts_rs K) (tstart [(.c (.sl [TI]) a), (.c (.sl [TI]) b)])) :=
  Hold.of (by kernel_rfl) h
theorem l_sameInts_t (a : List Int) (b : List Int) (r : TRes) (h : Hold (tawp l_sameInts_G (0 + 0) l_sameInts_c (TQ 0 0 l_sameInts_rs fun r' => r' = r) (tstart [(.c (.sl [TI]) a), (.c (.sl [TI]) b)]))) : TCon Try.prog 33 [(.c (.sl [TI]) a), (.c (.sl [TI]) b)] r :=
  tcon_gen (sg := [(.c (.sl [TI])), (.c (.sl [TI]))]) mixed TOk.nil l_sameInts_st (by kernel_rfl) (by kernel_rfl) (by kernel_rfl) (by kernel_rfl) h
theorem l_sameInts_h : l_sameInts_C := by
  intro a b
  refine tcon_bd rfl fun hb => l_sameInts_t a b _ (l_sameInts_v0 _ a b ?_)
  have hl_a : a.length ≤ 9223372036854775807 := hb.1.1
  have hl_b : b.length ≤ 9223372036854775807 := hb.2.1.1
  exact eqFlatInt hb.1.1 (fun i h => l_sameInts_v2 (fun r' => r' = l_sameInts_R (m_eq (α := List Int) a b)) a b i h) (Q := fun x => l_sameInts_R x = l_sameInts_R (m_eq (α := List Int) a b)) rfl

theorem l_sameInts_ok : TRowOk Try.prog l_sameInts_row := rowOk fun x _ => l_sameInts_h x.1 x.2.1

def s_l2Fix_R (t : Int × (((List Int) × Int × Int))) : TRes := ⟨(.c TI t.1), [], [[(.c (.sl [(.int .u8)]) t.2.1), (.c TI t.2.2.1), (.c TI t.2.2.2)]], true, []⟩
def e_fix (x0 : ((List Int) × Int × Int)) : Int × (((List Int) × Int × Int)) := Classical.epsilon fun t : Int × (((List Int) × Int × Int)) => (q_fix x0 t) ∧ TCon Try.prog 204 [(.bx [(.c (.sl [(.int .u8)]) x0.1), (.c TI x0.2.1), (.c TI x0.2.2)])] (s_l2Fix_R t)
def s_l2Fix_row : TRow := mkRow 204 [(.b [(.sl [(.int .u8)]), TI, TI])] fun x => (some (p_cur x.1), s_l2Fix_R (e_fix x.1))
def s_l2Fix_C : Prop := ∀ (x0 : ((List Int) × Int × Int)), (p_cur x0) → TCon Try.prog 204 [(.bx [(.c (.sl [(.int .u8)]) x0.1), (.c TI x0.2.1), (.c TI x0.2.2)])] (s_l2Fix_R (e_fix x0))

/-! spec.l2Fix -/
def s_l2Fix_G : List TRow := [s_l1Below_row, s_l1PickInt_row]
def s_l2Fix_c : TCode :=
  (.seq (.reg [.op (some 2) (.mov (.k (.c TI (0 : Int))))])
 (.seq (.seq (.reg [.op (some 3) (.mov (.s 0)),
      .op (some 4) (.call 116 [(.s 3), (.k (.c TI (12 : Int)))])])
   (.block 0 (.seq (.reg [.op (some 6) (.bin .eql (.s 4) (.k (.c TI (0 : Int)))),
        .op (some 5) (.mov (.s 6))])
     (.cond (.s 5) (.seq (.reg [.op (some 7) (.mov (.s 0)),
          .op (some 8) (.bsl 3 [TI] [(.k (.c TI (2147483647 : Int))), (.k (.c TI (-2147483647 : Int))), (.k (.c TI (2147483646 : Int))), (.k (.c TI (1 : Int))), (.k (.c TI (-1 : Int))), (.k (.c TI (0 : Int)))]),
          .op (some 9) (.call 182 [(.s 7), (.s 8)]),
          .op (some 2) (.mov (.s 9))])
       .ret) (.seq (.reg [.op (some 11) (.bin .eql (.s 4) (.k (.c TI (1 : Int)))),
          .op (some 10) (.mov (.s 11))])
       (.cond (.s 10) (.seq (.reg [.op (some 12) (.mov (.s 0)),
            .op (some 13) (.call 116 [(.s 12), (.k (.c TI (4000 : Int)))]),
            .op (some 14) (.bin .sub (.s 13) (.k (.c TI (2000 : Int)))),
            .op (some 15) (.bin .mul (.s 14) (.k (.c TI (997 : Int)))),
            .op (some 2) (.mov (.s 15))])
         .ret) (.seq (.reg [.op (some 17) (.bin .eql (.s 4) (.k (.c TI (2 : Int)))),
            .op (some 16) (.mov (.s 17))])
         (.cond (.s 16) (.seq (.reg [.op (some 18) (.mov (.s 0)),
              .op (some 19) (.call 116 [(.s 18), (.k (.c TI (9 : Int)))]),
              .op (some 20) (.bin .sub (.s 19) (.k (.c TI (4 : Int)))),
              .op (some 2) (.mov (.s 20))])
           .ret) .skip))))))))
  (.seq (.reg [.op (some 21) (.mov (.s 0)),
      .op (some 22) (.call 116 [(.s 21), (.k (.c TI (17 : Int)))]),
      .op (some 23) (.bin .sub (.s 22) (.k (.c TI (8 : Int)))),
      .op (some 24) (.bin .mul (.s 23) (.k (.c TI (65536 : Int)))),
      .op (some 25) (.mov (.s 0)),
      .op (some 26) (.bsl 3 [TI] [(.k (.c TI (1 : Int))), (.k (.c TI (1 : Int))), (.k (.c TI (2 : Int))), (.k (.c TI (4 : Int))), (.k (.c TI (3 : Int)))]),
      .op (some 27) (.call 182 [(.s 25), (.s 26)]),
      .op (some 28) (.bin .quo (.s 24) (.s 27)),
      .op (some 2) (.mov (.s 28))])
   .ret)))
def s_l2Fix_rs : List (ARv × Md) := [(.t 2, .one .d)]
theorem s_l2Fix_st : compF Try.prog 204 = some (s_l2Fix_c.er, s_l2Fix_rs.map Prod.fst, 29) := by kernel_rfl
def s_l2Fix_Q (K : TRes → Prop) : TPost := TQ 1 0 s_l2Fix_rs K
theorem s_l2Fix_v0 (K : TRes → Prop) (c : ((List Int) × Int × Int)) (h :
  ((p_cur2 c (12 : Int)) ∧ (((((e_below c (12 : Int)).1) == (0 : Int)) = true → ((p_pickInt ((e_below c (12 : Int)).2) ([(2147483647 : Int), (-2147483647 : Int), (2147483646 : Int), (1 : Int), (-1 : Int), (0 : Int)])) ∧ K (s_l2Fix_R ((e_pickInt ((e_below c (12 : Int)).2) ([(2147483647 : Int), (-2147483647 : Int), (2147483646 : Int), (1 : Int), (-1 : Int), (0 : Int)])).1, ((e_pickInt ((e_below c (12 : Int)).2) ([(2147483647 : Int), (-2147483647 : Int), (2147483646 : Int), (1 : Int), (-1 : Int), (0 : Int)])).2))))) ∧ ((((e_below c (12 : Int)).1) == (0 : Int)) = false → (((((e_below c (12 : Int)).1) == (1 : Int)) = true → ((p_cur2 ((e_below c (12 : Int)).2) (4000 : Int)) ∧ K (s_l2Fix_R (w64 ((w64 (((e_below ((e_below c (12 : Int)).2) (4000 : Int)).1) - (2000 : Int))) * (997 : Int)), ((e_below ((e_below c (12 : Int)).2) (4000 : Int)).2))))) ∧ ((((e_below c (12 : Int)).1) == (1 : Int)) = false → (((((e_below c (12 : Int)).1) == (2 : Int)) = true → ((p_cur2 ((e_below c (12 : Int)).2) (9 : Int)) ∧ K (s_l2Fix_R (w64 (((e_below ((e_below c (12 : Int)).2) (9 : Int)).1) - (4 : Int)), ((e_below ((e_below c (12 : Int)).2) (9 : Int)).2))))) ∧ ((((e_below c (12 : Int)).1) == (2 : Int)) = false → (((p_cur2 ((e_below c (12 : Int)).2) (17 : Int)) ∧ ((p_pickInt ((e_below ((e_below c (12 : Int)).2) (17 : Int)).2) ([(1 : Int), (1 : Int), (2 : Int), (4 : Int), (3 : Int)])) ∧ (¬ ((e_pickInt ((e_below ((e_below c (12 : Int)).2) (17 : Int)).2) ([(1 : Int), (1 : Int), (2 : Int), (4 : Int), (3 : Int)])).1 : Int) = 0))) ∧ K (s_l2Fix_R (w64 (Int.tdiv (w64 ((w64 (((e_below ((e_below c (12 : Int)).2) (17 : Int)).1) - (8 : Int))) * (65536 : Int))) ((e_pickInt ((e_below ((e_below c (12 : Int)).2) (17 : Int)).2) ([(1 : Int), (1 : Int), (2 : Int), (4 : Int), (3 : Int)])).1)), ((e_pickInt ((e_below ((e_below c (12 : Int)).2) (17 : Int)).2) ([(1 : Int), (1 : Int), (2 : Int), (4 : Int), (3 : Int)])).2)))))))))))) : Hold (tawp s_l2Fix_G (1 + 0) s_l2Fix_c (TQ 1 0 s_l2Fix_rs K) (tstart [(.bx [(.c (.sl [(.int .u8)]) c.1), (.c TI c.2.1), (.c TI c.2.2)])])) :=
  Hold.of (by kernel_rfl) h
theorem s_l2Fix_t (c : ((List Int) × Int × Int)) (K : TRes → Prop) (h : Hold (tawp s_l2Fix_G (1 + 0) s_l2Fix_c (TQ 1 0 s_l2Fix_rs K) (tstart [(.bx [(.c (.sl [(.int .u8)]) c.1), (.c TI c.2.1), (.c TI c.2.2)])]))) : ∃ r, K r ∧ TCon Try.prog 204 [(.bx [(.c (.sl [(.int .u8)]) c.1), (.c TI c.2.1), (.c TI c.2.2)])] r :=
  tcon_gen_ex (sg := [(.b [(.sl [(.int .u8)]), TI, TI])]) mixed (TOk.cons s_l1Below_ok (TOk.cons s_l1PickInt_ok TOk.nil)) s_l2Fix_st (by kernel_rfl) (by kernel_rfl) (by kernel_rfl) (by kernel_rfl) h
theorem s_l2Fix_ex (c : ((List Int) × Int × Int)) (hp : p_cur c) : ∃ t : Int × (((List Int) × Int × Int)), (q_fix c t) ∧ TCon Try.prog 204 [(.bx [(.c (.sl [(.int .u8)]) c.1), (.c TI c.2.1), (.c TI c.2.2)])] (s_l2Fix_R t) := by
  refine tex_of (s_l2Fix_t c _ (s_l2Fix_v0 (fun r' => ∃ t, (q_fix c t) ∧ r' = s_l2Fix_R t) c ?_))
  have b1 := s_l1Below_post c 12 hp
  generalize e_below c 12 = r at b1 ⊢
  have hc : p_cur r.2 := b1.2.2.2
  refine ⟨hp, fun _ => ?_, fun _ => ⟨fun _ => ?_, fun _ => ⟨fun _ => ?_, fun _ => ?_⟩⟩⟩
  · have hpp : p_pickInt r.2 [2147483647, -2147483647, 2147483646, 1, -1, 0] := ⟨hc, by simp, by simp⟩
    have b2 := s_l1PickInt_post _ _ hpp
    refine ⟨hpp, leafP ⟨?_, b2.2⟩⟩
    have b3 := b2.1
    simp only [List.mem_cons, List.not_mem_nil, or_false] at b3
    simp only [m_fixOk, Bool.and_eq_true, decide_eq_true_eq]
    omega
  · have b2 := s_l1Below_post r.2 4000 hc
    refine ⟨hc, leafP ⟨?_, b2.2.2.2⟩⟩
    have h1 := b2.1
    have h2 := b2.2.1 (by omega)
    rw [w64_ok (x := _ - 2000) (by omega) (by omega), w64_ok (by omega) (by omega)]
    simp only [m_fixOk, Bool.and_eq_true, decide_eq_true_eq]
    omega
  · have b2 := s_l1Below_post r.2 9 hc
    refine ⟨hc, leafP ⟨?_, b2.2.2.2⟩⟩
    have h1 := b2.1
    have h2 := b2.2.1 (by omega)
    rw [w64_ok (by omega) (by omega)]
    simp only [m_fixOk, Bool.and_eq_true, decide_eq_true_eq]
    omega
  · have b2 := s_l1Below_post r.2 17 hc
    have hpp : p_pickInt (e_below r.2 17).2 [1, 1, 2, 4, 3] := ⟨b2.2.2.2, by simp, by simp⟩
    have b3 := s_l1PickInt_post _ _ hpp
    have b4 := b3.1
    simp only [List.mem_cons, List.not_mem_nil, or_false] at b4
    have h1 := b2.1
    have h2 := b2.2.1 (by omega)
    refine ⟨⟨hc, hpp, by omega⟩, leafP ⟨?_, b3.2⟩⟩
    have h3 := tdiv_rng (a := ((e_below r.2 17).1 - 8) * 65536) (b := (e_pickInt (e_below r.2 17).2 [1, 1, 2, 4, 3]).1) (B := 1000000) (by omega) (by omega) (by omega)
    rw [w64_ok (x := _ - 8) (by omega) (by omega), w64_ok (x := _ * 65536) (by omega) (by omega), w64_ok (by omega) (by omega)]
    simp only [m_fixOk, Bool.and_eq_true, decide_eq_true_eq]
    omega
theorem s_l2Fix_post (c : ((List Int) × Int × Int)) (hp : p_cur c) : q_fix c (e_fix c) := (Classical.epsilon_spec (s_l2Fix_ex c hp)).1
theorem s_l2Fix_h : s_l2Fix_C := by
  intro c hp
  exact (Classical.epsilon_spec (s_l2Fix_ex c hp)).2

theorem s_l2Fix_ok : TRowOk Try.prog s_l2Fix_row := rowOk fun x h => s_l2Fix_h x.1 h

def s_l2Raw_R (t : Int × (((List Int) × Int × Int))) : TRes := ⟨(.c TI t.1), [], [[(.c (.sl [(.int .u8)]) t.2.1), (.c TI t.2.2.1), (.c TI t.2.2.2)]], true, []⟩
def e_raw (x0 : ((List Int) × Int × Int)) : Int × (((List Int) × Int × Int)) := Classical.epsilon fun t : Int × (((List Int) × Int × Int)) => (q_raw x0 t) ∧ TCon Try.prog 184 [(.bx [(.c (.sl [(.int .u8)]) x0.1), (.c TI x0.2.1), (.c TI x0.2.2)])] (s_l2Raw_R t)
def s_l2Raw_row : TRow := mkRow 184 [(.b [(.sl [(.int .u8)]), TI, TI])] fun x => (some (p_cur x.1), s_l2Raw_R (e_raw x.1))
def s_l2Raw_C : Prop := ∀ (x0 : ((List Int) × Int × Int)), (p_cur x0) → TCon Try.prog 184 [(.bx [(.c (.sl [(.int .u8)]) x0.1), (.c TI x0.2.1), (.c TI x0.2.2)])] (s_l2Raw_R (e_raw x0))

/-! spec.l2Raw -/
def s_l2Raw_G : List TRow := [s_l1Once_row, s_l1PickInt_row, s_l2Fix_row]
def s_l2Raw_c : TCode :=
  (.seq (.reg [.op (some 2) (.mov (.k (.c TI (0 : Int))))])
 (.seq (.seq (.reg [.op (some 3) (.mov (.s 0)),
      .op (some 4) (.call 136 [(.s 3), (.k (.c TI (8 : Int)))])])
   (.cond (.s 4) (.seq (.reg [.op (some 5) (.mov (.s 0)),
        .op (some 6) (.bsl 3 [TI] [(.k (.c TI (2147483648 : Int))), (.k (.c TI (-2147483648 : Int))), (.k (.c TI (9223372036854775807 : Int))), (.k (.c TI (-9223372036854775807 : Int)))]),
        .op (some 7) (.call 182 [(.s 5), (.s 6)]),
        .op (some 2) (.mov (.s 7))])
     .ret) .skip))
  (.seq (.reg [.op (some 8) (.mov (.s 0)),
      .op (some 9) (.call 204 [(.s 8)]),
      .op (some 2) (.mov (.s 9))])
   .ret)))
def s_l2Raw_rs : List (ARv × Md) := [(.t 2, .one .d)]
theorem s_l2Raw_st : compF Try.prog 184 = some (s_l2Raw_c.er, s_l2Raw_rs.map Prod.fst, 10) := by kernel_rfl
def s_l2Raw_Q (K : TRes → Prop) : TPost := TQ 1 0 s_l2Raw_rs K
theorem s_l2Raw_v0 (K : TRes → Prop) (c : ((List Int) × Int × Int)) (h :
  ((p_cur2 c (8 : Int)) ∧ (((e_once c (8 : Int)).1 = true → ((p_pickInt ((e_once c (8 : Int)).2) ([(2147483648 : Int), (-2147483648 : Int), (9223372036854775807 : Int), (-9223372036854775807 : Int)])) ∧ K (s_l2Raw_R ((e_pickInt ((e_once c (8 : Int)).2) ([(2147483648 : Int), (-2147483648 : Int), (9223372036854775807 : Int), (-9223372036854775807 : Int)])).1, ((e_pickInt ((e_once c (8 : Int)).2) ([(2147483648 : Int), (-2147483648 : Int), (9223372036854775807 : Int), (-9223372036854775807 : Int)])).2))))) ∧ ((e_once c (8 : Int)).1 = false → ((p_cur ((e_once c (8 : Int)).2)) ∧ K (s_l2Raw_R ((e_fix ((e_once c (8 : Int)).2)).1, ((e_fix ((e_once c (8 : Int)).2)).2)))))))) : Hold (tawp s_l2Raw_G (1 + 0) s_l2Raw_c (TQ 1 0 s_l2Raw_rs K) (tstart [(.bx [(.c (.sl [(.int .u8)]) c.1), (.c TI c.2.1), (.c TI c.2.2)])])) :=
  Hold.of (by kernel_rfl) h
theorem s_l2Raw_t (c : ((List Int) × Int × Int)) (K : TRes → Prop) (h : Hold (tawp s_l2Raw_G (1 + 0) s_l2Raw_c (TQ 1 0 s_l2Raw_rs K) (tstart [(.bx [(.c (.sl [(.int .u8)]) c.1), (.c TI c.2.1), (.c TI c.2.2)])]))) : ∃ r, K r ∧ TCon Try.prog 184 [(.bx [(.c (.sl [(.int .u8)]) c.1), (.c TI c.2.1), (.c TI c.2.2)])] r :=
  tcon_gen_ex (sg := [(.b [(.sl [(.int .u8)]), TI, TI])]) mixed (TOk.cons s_l1Once_ok (TOk.cons s_l1PickInt_ok (TOk.cons s_l2Fix_ok TOk.nil))) s_l2Raw_st (by kernel_rfl) (by kernel_rfl) (by kernel_rfl) (by kernel_rfl) h
theorem s_l2Raw_ex (c : ((List Int) × Int × Int)) (hp : p_cur c) : ∃ t : Int × (((List Int) × Int × Int)), (q_raw c t) ∧ TCon Try.prog 184 [(.bx [(.c (.sl [(.int .u8)]) c.1), (.c TI c.2.1), (.c TI c.2.2)])] (s_l2Raw_R t) := by
  refine tex_of (s_l2Raw_t c _ (s_l2Raw_v0 (fun r' => ∃ t, (q_raw c t) ∧ r' = s_l2Raw_R t) c ?_))
  have b1 := s_l1Once_post c 8 hp
  generalize e_once c 8 = r at b1 ⊢
  have hpp : p_pickInt r.2 [2147483648, -2147483648, 9223372036854775807, -9223372036854775807] := ⟨b1, by simp, by simp⟩
  exact ⟨hp, fun _ => ⟨hpp, leafP ((s_l1PickInt_post _ _ hpp).2)⟩, fun _ => ⟨b1, leafP ((s_l2Fix_post _ b1).2)⟩⟩
theorem s_l2Raw_post (c : ((List Int) × Int × Int)) (hp : p_cur c) : q_raw c (e_raw c) := (Classical.epsilon_spec (s_l2Raw_ex c hp)).1
theorem s_l2Raw_h : s_l2Raw_C := by
  intro c hp
  exact (Classical.epsilon_spec (s_l2Raw_ex c hp)).2

theorem s_l2Raw_ok : TRowOk Try.prog s_l2Raw_row := rowOk fun x h => s_l2Raw_h x.1 h

def s_l3Vec_R (t : (List Int) × (((List Int) × Int × Int))) : TRes := ⟨(.r [TI] 0 0 ((t.1).length)), [(.sl 3 [TI] true t.1)], [[(.c (.sl [(.int .u8)]) t.2.1), (.c TI t.2.2.1), (.c TI t.2.2.2)]], true, []⟩
def e_vec (x0 : ((List Int) × Int × Int)) (x1 : Int) : (List Int) × (((List Int) × Int × Int)) := Classical.epsilon fun t : (List Int) × (((List Int) × Int × Int)) => (q_vec x0 x1 t) ∧ TCon Try.prog 181 [(.bx [(.c (.sl [(.int .u8)]) x0.1), (.c TI x0.2.1), (.c TI x0.2.2)]), (.c TI x1)] (s_l3Vec_R t)
def s_l3Vec_row : TRow := mkRow 181 [(.b [(.sl [(.int .u8)]), TI, TI]), (.c TI)] fun x => (some (p_vec x.1 x.2.1), s_l3Vec_R (e_vec x.1 x.2.1))
def s_l3Vec_C : Prop := ∀ (x0 : ((List Int) × Int × Int)) (x1 : Int), (p_vec x0 x1) → TCon Try.prog 181 [(.bx [(.c (.sl [(.int .u8)]) x0.1), (.c TI x0.2.1), (.c TI x0.2.2)]), (.c TI x1)] (s_l3Vec_R (e_vec x0 x1))

/-! spec.l3Vec -/
def s_l3Vec_G : List TRow := [s_l2Fix_row]
def s_l3Vec_b2 : TCode :=
  (.seq (.seq (.reg [.op (some 8) (.mov (.s 6)),
     .op (some 9) (.mov (.s 1)),
     .op (some 10) (.bin .lss (.s 8) (.s 9))])
  (.cond (.s 10) .skip (.exit 0)))
 (.seq (.block 1 (.reg [.op (some 13) (.mov (.s 5)),
      .op (some 14) (.mov (.s 0)),
      .op (some 15) (.call 204 [(.s 14)]),
      .op (some 16) (.bsl 3 [TI] [(.s 15)]),
      .op (some 17) (.app (.s 13) (.s 16) 3 [TI]),
      .op (some 5) (.mov (.s 17))]))
  (.reg [.op (some 11) (.mov (.s 6)),
     .op (some 12) (.bin .add (.s 11) (.k (.c TI (1 : Int)))),
     .op (some 6) (.mov (.s 12))])))
def s_l3Vec_L2 : List (Nat × Md) := [(0, .b [.d, .d, .d]), (1, .one .d), (5, .one .f), (6, .one .d)]
def s_l3Vec_y1 : TCode :=
  (.seq (.reg [.op (some 18) (.mov (.s 5)),
    .op (some 4) (.mov (.s 18))])
 .ret)
def s_l3Vec_c : TCode :=
  (.seq (.reg [.op (some 4) (.mov (.k (.n [TI])))])
 (.seq (.reg [.op (some 7) (.bsl 3 [TI] []),
     .op (some 5) (.mov (.s 7))])
  (.seq (.seq (.reg [.op (some 6) (.mov (.k (.c TI (0 : Int))))])
    (.block 0 (.loop s_l3Vec_L2 s_l3Vec_b2)))
   s_l3Vec_y1)))
def s_l3Vec_rs : List (ARv × Md) := [(.t 4, .one (.o 3))]
theorem s_l3Vec_st : compF Try.prog 181 = some (s_l3Vec_c.er, s_l3Vec_rs.map Prod.fst, 19) := by kernel_rfl
def s_l3Vec_Q (K : TRes → Prop) : TPost := TQ 1 0 s_l3Vec_rs K
def s_l3Vec_q1 (K : TRes → Prop) : TPost := Qseq (tawp s_l3Vec_G 1 s_l3Vec_y1 (s_l3Vec_Q K)) (s_l3Vec_Q K)
def s_l3Vec_q2 (K : TRes → Prop) : TPost := Qblk 0 (s_l3Vec_q1 K)
def s_l3Vec_A2 (K : TRes → Prop) (n : Int) (i : Int) (c0 : List Int) (c1 : Int) (c2 : Int) (out : List Int) : Prop := Loop s_l3Vec_G 1 s_l3Vec_L2 s_l3Vec_b2 (s_l3Vec_q2 K) ⟨[(0, (.p 0 0 0)), (1, (.c TI n)), (5, (.r [TI] 1 0 out.length)), (6, (.c TI i))], [(0, (.box [(.c (.sl [(.int .u8)]) c0), (.c TI c1), (.c TI c2)])), (1, (.sl 3 [TI] true out))], 2⟩
theorem s_l3Vec_v2 (K : TRes → Prop) (n : Int) (i : Int) (c0 : List Int) (c1 : Int) (c2 : Int) (out : List Int) (h :
  (((decide (i < n)) = true → (((p_cur (c0, c1, c2)) ∧ ((out.length = out.length ∨ out.length + 1 ≤ out.length) ∧ out.length + 1 ≤ big)) ∧ (s_l3Vec_A2 K n (w64 (i + (1 : Int))) (((e_fix (c0, c1, c2)).2).1) (((e_fix (c0, c1, c2)).2).2.1) (((e_fix (c0, c1, c2)).2).2.2) (List.take (out.length + 1) ((List.take out.length out) ++ ([(e_fix (c0, c1, c2)).1])))))) ∧ ((decide (i < n)) = false → K (s_l3Vec_R ((List.take out.length out), (c0, c1, c2)))))) : s_l3Vec_A2 K n i c0 c1 c2 out :=
  Loop.of (by kernel_rfl) h
theorem s_l3Vec_v0 (K : TRes → Prop) (c : ((List Int) × Int × Int)) (n : Int) (h :
  (s_l3Vec_A2 K n (0 : Int) c.1 c.2.1 c.2.2 ([] : List Int))) : Hold (tawp s_l3Vec_G (1 + 0) s_l3Vec_c (TQ 1 0 s_l3Vec_rs K) (tstart [(.bx [(.c (.sl [(.int .u8)]) c.1), (.c TI c.2.1), (.c TI c.2.2)]), (.c TI n)])) :=
  Hold.of (by kernel_rfl) h
theorem s_l3Vec_t (c : ((List Int) × Int × Int)) (n : Int) (K : TRes → Prop) (h : Hold (tawp s_l3Vec_G (1 + 0) s_l3Vec_c (TQ 1 0 s_l3Vec_rs K) (tstart [(.bx [(.c (.sl [(.int .u8)]) c.1), (.c TI c.2.1), (.c TI c.2.2)]), (.c TI n)]))) : ∃ r, K r ∧ TCon Try.prog 181 [(.bx [(.c (.sl [(.int .u8)]) c.1), (.c TI c.2.1), (.c TI c.2.2)]), (.c TI n)] r :=
  tcon_gen_ex (sg := [(.b [(.sl [(.int .u8)]), TI, TI]), (.c TI)]) mixed (TOk.cons s_l2Fix_ok TOk.nil) s_l3Vec_st (by kernel_rfl) (by kernel_rfl) (by kernel_rfl) (by kernel_rfl) h
theorem s_l3Vec_ex (c : ((List Int) × Int × Int)) (n : Int) (hp : p_vec c n) : ∃ t : (List Int) × (((List Int) × Int × Int)), (q_vec c n t) ∧ TCon Try.prog 181 [(.bx [(.c (.sl [(.int .u8)]) c.1), (.c TI c.2.1), (.c TI c.2.2)]), (.c TI n)] (s_l3Vec_R t) := by
  refine tex_of (s_l3Vec_t c n _ (s_l3Vec_v0 (fun r' => ∃ t, (q_vec c n t) ∧ r' = s_l3Vec_R t) c n ?_))
  obtain ⟨h1, h2⟩ := hp
  refine upLoop n.toNat (fun k => ∀ (c0 : List Int) (c1 c2 : Int) (out : List Int), out.length = k → m_allFix out = true → p_cur (c0, c1, c2) → s_l3Vec_A2 (fun r' => ∃ t, (q_vec c n t) ∧ r' = s_l3Vec_R t) n (k : Int) c0 c1 c2 out) ?_ ?_ c.1 c.2.1 c.2.2 [] rfl rfl h1
  · intro c0 c1 c2 out hl hf hc
    refine s_l3Vec_v2 (fun r' => ∃ t, (q_vec c n t) ∧ r' = s_l3Vec_R t) n _ _ _ _ _ ⟨fun h => by simp at h; omega, fun _ => (leafP ⟨?_, ?_, hc⟩)⟩
    · simp; omega
    · simp only [List.take_length]; exact hf
  · intro k hk ih c0 c1 c2 out hl hf hc
    have b := s_l2Fix_post (c0, c1, c2) hc
    refine s_l3Vec_v2 (fun r' => ∃ t, (q_vec c n t) ∧ r' = s_l3Vec_R t) n _ _ _ _ _ ⟨fun _ => ⟨⟨hc, .inl rfl, by rw [big_eq]; omega⟩, ?_⟩, fun h => by simp at h; omega⟩
    rw [sc1 (by omega), take_app1]
    exact ih _ _ _ _ (by simp; omega) (allFix_snoc hf b.1) b.2
theorem s_l3Vec_post (c : ((List Int) × Int × Int)) (n : Int) (hp : p_vec c n) : q_vec c n (e_vec c n) := (Classical.epsilon_spec (s_l3Vec_ex c n hp)).1
theorem s_l3Vec_h : s_l3Vec_C := by
  intro c n hp
  exact (Classical.epsilon_spec (s_l3Vec_ex c n hp)).2

theorem s_l3Vec_ok : TRowOk Try.prog s_l3Vec_row := rowOk fun x h => s_l3Vec_h x.1 x.2.1 h

def s_l3Any_R (t : (List Int) × (((List Int) × Int × Int))) : TRes := ⟨(.c (.sl [TI]) t.1), [], [[(.c (.sl [(.int .u8)]) t.2.1), (.c TI t.2.2.1), (.c TI t.2.2.2)]], true, []⟩
def e_any3 (x0 : ((List Int) × Int × Int)) : (List Int) × (((List Int) × Int × Int)) := Classical.epsilon fun t : (List Int) × (((List Int) × Int × Int)) => (q_any x0 t) ∧ TCon Try.prog 117 [(.bx [(.c (.sl [(.int .u8)]) x0.1), (.c TI x0.2.1), (.c TI x0.2.2)])] (s_l3Any_R t)
def s_l3Any_row : TRow := mkRow 117 [(.b [(.sl [(.int .u8)]), TI, TI])] fun x => (some (p_cur x.1), s_l3Any_R (e_any3 x.1))
def s_l3Any_C : Prop := ∀ (x0 : ((List Int) × Int × Int)), (p_cur x0) → TCon Try.prog 117 [(.bx [(.c (.sl [(.int .u8)]) x0.1), (.c TI x0.2.1), (.c TI x0.2.2)])] (s_l3Any_R (e_any3 x0))

/-! spec.l3Any -/
def s_l3Any_G : List TRow := [s_l1Below_row, s_l3Vec_row, s_l2Raw_row, s_l1PickInt_row]
def s_l3Any_c : TCode :=
  (.seq (.reg [.op (some 2) (.mov (.k (.n [TI])))])
 (.seq (.reg [.op (some 4) (.mov (.s 0)),
     .op (some 5) (.mov (.s 0)),
     .op (some 6) (.call 116 [(.s 5), (.k (.c TI (4 : Int)))]),
     .op (some 7) (.bin .add (.k (.c TI (1 : Int))) (.s 6)),
     .op (some 8) (.call 181 [(.s 4), (.s 7)]),
     .op (some 3) (.mov (.s 8))])
  (.seq (.seq (.reg [.op (some 9) (.mov (.s 0)),
       .op (some 10) (.call 116 [(.s 9), (.k (.c TI (16 : Int)))])])
    (.block 0 (.seq (.reg [.op (some 12) (.bin .eql (.s 10) (.k (.c TI (0 : Int)))),
         .op (some 11) (.mov (.s 12))])
      (.cond (.s 11) (.reg [.op (some 13) (.mov (.s 3)),
          .op (some 14) (.mov (.s 0)),
          .op (some 15) (.call 184 [(.s 14)]),
          .op (some 16) (.iad (.s 13) (.k (.c TI (0 : Int))) [TI]),
          .op none (.store (.s 16) (.s 15) 1)]) (.seq (.reg [.op (some 18) (.bin .eql (.s 10) (.k (.c TI (1 : Int)))),
           .op (some 17) (.mov (.s 18))])
        (.cond (.s 17) (.seq (.reg [.op (some 19) (.mov (.s 0)),
             .op (some 20) (.mov (.s 0)),
             .op (some 21) (.bsl 3 [TI] [(.k (.c TI (0 : Int))), (.k (.c TI (6 : Int))), (.k (.c TI (7 : Int)))]),
             .op (some 22) (.call 182 [(.s 20), (.s 21)]),
             .op (some 23) (.call 181 [(.s 19), (.s 22)]),
             .op (some 2) (.mov (.s 23))])
          .ret) .skip))))))
   (.seq (.reg [.op (some 24) (.mov (.s 3)),
       .op (some 2) (.mov (.s 24))])
    .ret))))
def s_l3Any_rs : List (ARv × Md) := [(.t 2, .one .d)]
theorem s_l3Any_st : compF Try.prog 117 = some (s_l3Any_c.er, s_l3Any_rs.map Prod.fst, 25) := by kernel_rfl
def s_l3Any_Q (K : TRes → Prop) : TPost := TQ 1 0 s_l3Any_rs K
theorem s_l3Any_v0 (K : TRes → Prop) (c : ((List Int) × Int × Int)) (h :
  (((p_cur2 c (4 : Int)) ∧ (p_vec ((e_below c (4 : Int)).2) (w64 ((1 : Int) + ((e_below c (4 : Int)).1))))) ∧ ((p_cur2 ((e_vec ((e_below c (4 : Int)).2) (w64 ((1 : Int) + ((e_below c (4 : Int)).1)))).2) (16 : Int)) ∧ (((((e_below ((e_vec ((e_below c (4 : Int)).2) (w64 ((1 : Int) + ((e_below c (4 : Int)).1)))).2) (16 : Int)).1) == (0 : Int)) = true → (((p_cur ((e_below ((e_vec ((e_below c (4 : Int)).2) (w64 ((1 : Int) + ((e_below c (4 : Int)).1)))).2) (16 : Int)).2)) ∧ (((0 : Int) ≤ (0 : Int) ∧ Int.toNat (0 : Int) < ((e_vec ((e_below c (4 : Int)).2) (w64 ((1 : Int) + ((e_below c (4 : Int)).1)))).1).length) ∧ ((0 + (Int.toNat (0 : Int))) < ((e_vec ((e_below c (4 : Int)).2) (w64 ((1 : Int) + ((e_below c (4 : Int)).1)))).1).length))) ∧ K (s_l3Any_R ((List.take (((e_vec ((e_below c (4 : Int)).2) (w64 ((1 : Int) + ((e_below c (4 : Int)).1)))).1).length) (List.drop 0 (((e_vec ((e_below c (4 : Int)).2) (w64 ((1 : Int) + ((e_below c (4 : Int)).1)))).1).set (0 + (Int.toNat (0 : Int))) ((e_raw ((e_below ((e_vec ((e_below c (4 : Int)).2) (w64 ((1 : Int) + ((e_below c (4 : Int)).1)))).2) (16 : Int)).2)).1)))), ((e_raw ((e_below ((e_vec ((e_below c (4 : Int)).2) (w64 ((1 : Int) + ((e_below c (4 : Int)).1)))).2) (16 : Int)).2)).2))))) ∧ ((((e_below ((e_vec ((e_below c (4 : Int)).2) (w64 ((1 : Int) + ((e_below c (4 : Int)).1)))).2) (16 : Int)).1) == (0 : Int)) = false → (((((e_below ((e_vec ((e_below c (4 : Int)).2) (w64 ((1 : Int) + ((e_below c (4 : Int)).1)))).2) (16 : Int)).1) == (1 : Int)) = true → (((p_pickInt ((e_below ((e_vec ((e_below c (4 : Int)).2) (w64 ((1 : Int) + ((e_below c (4 : Int)).1)))).2) (16 : Int)).2) ([(0 : Int), (6 : Int), (7 : Int)])) ∧ (p_vec ((e_pickInt ((e_below ((e_vec ((e_below c (4 : Int)).2) (w64 ((1 : Int) + ((e_below c (4 : Int)).1)))).2) (16 : Int)).2) ([(0 : Int), (6 : Int), (7 : Int)])).2) ((e_pickInt ((e_below ((e_vec ((e_below c (4 : Int)).2) (w64 ((1 : Int) + ((e_below c (4 : Int)).1)))).2) (16 : Int)).2) ([(0 : Int), (6 : Int), (7 : Int)])).1))) ∧ K (s_l3Any_R ((List.take (((e_vec ((e_pickInt ((e_below ((e_vec ((e_below c (4 : Int)).2) (w64 ((1 : Int) + ((e_below c (4 : Int)).1)))).2) (16 : Int)).2) ([(0 : Int), (6 : Int), (7 : Int)])).2) ((e_pickInt ((e_below ((e_vec ((e_below c (4 : Int)).2) (w64 ((1 : Int) + ((e_below c (4 : Int)).1)))).2) (16 : Int)).2) ([(0 : Int), (6 : Int), (7 : Int)])).1)).1).length) (List.drop 0 ((e_vec ((e_pickInt ((e_below ((e_vec ((e_below c (4 : Int)).2) (w64 ((1 : Int) + ((e_below c (4 : Int)).1)))).2) (16 : Int)).2) ([(0 : Int), (6 : Int), (7 : Int)])).2) ((e_pickInt ((e_below ((e_vec ((e_below c (4 : Int)).2) (w64 ((1 : Int) + ((e_below c (4 : Int)).1)))).2) (16 : Int)).2) ([(0 : Int), (6 : Int), (7 : Int)])).1)).1))), ((e_vec ((e_pickInt ((e_below ((e_vec ((e_below c (4 : Int)).2) (w64 ((1 : Int) + ((e_below c (4 : Int)).1)))).2) (16 : Int)).2) ([(0 : Int), (6 : Int), (7 : Int)])).2) ((e_pickInt ((e_below ((e_vec ((e_below c (4 : Int)).2) (w64 ((1 : Int) + ((e_below c (4 : Int)).1)))).2) (16 : Int)).2) ([(0 : Int), (6 : Int), (7 : Int)])).1)).2))))) ∧ ((((e_below ((e_vec ((e_below c (4 : Int)).2) (w64 ((1 : Int) + ((e_below c (4 : Int)).1)))).2) (16 : Int)).1) == (1 : Int)) = false → K (s_l3Any_R ((List.take (((e_vec ((e_below c (4 : Int)).2) (w64 ((1 : Int) + ((e_below c (4 : Int)).1)))).1).length) (List.drop 0 ((e_vec ((e_below c (4 : Int)).2) (w64 ((1 : Int) + ((e_below c (4 : Int)).1)))).1))), ((e_below ((e_vec ((e_below c (4 : Int)).2) (w64 ((1 : Int) + ((e_below c (4 : Int)).1)))).2) (16 : Int)).2)))))))))) : Hold (tawp s_l3Any_G (1 + 0) s_l3Any_c (TQ 1 0 s_l3Any_rs K) (tstart [(.bx [(.c (.sl [(.int .u8)]) c.1), (.c TI c.2.1), (.c TI c.2.2)])])) :=
  Hold.of (by kernel_rfl) h
theorem s_l3Any_t (c : ((List Int) × Int × Int)) (K : TRes → Prop) (h : Hold (tawp s_l3Any_G (1 + 0) s_l3Any_c (TQ 1 0 s_l3Any_rs K) (tstart [(.bx [(.c (.sl [(.int .u8)]) c.1), (.c TI c.2.1), (.c TI c.2.2)])]))) : ∃ r, K r ∧ TCon Try.prog 117 [(.bx [(.c (.sl [(.int .u8)]) c.1), (.c TI c.2.1), (.c TI c.2.2)])] r :=
  tcon_gen_ex (sg := [(.b [(.sl [(.int .u8)]), TI, TI])]) mixed (TOk.cons s_l1Below_ok (TOk.cons s_l3Vec_ok (TOk.cons s_l2Raw_ok (TOk.cons s_l1PickInt_ok TOk.nil)))) s_l3Any_st (by kernel_rfl) (by kernel_rfl) (by kernel_rfl) (by kernel_rfl) h
theorem s_l3Any_ex (c : ((List Int) × Int × Int)) (hp : p_cur c) : ∃ t : (List Int) × (((List Int) × Int × Int)), (q_any c t) ∧ TCon Try.prog 117 [(.bx [(.c (.sl [(.int .u8)]) c.1), (.c TI c.2.1), (.c TI c.2.2)])] (s_l3Any_R t) := by
  refine tex_of (s_l3Any_t c _ (s_l3Any_v0 (fun r' => ∃ t, (q_any c t) ∧ r' = s_l3Any_R t) c ?_))
  have b1 := s_l1Below_post c 4 hp
  generalize e_below c 4 = r1 at b1 ⊢
  have h1 := b1.1
  have h2 := b1.2.1 (by omega)
  rw [w64_ok (x := 1 + r1.1) (by omega) (by omega)]
  have hv : p_vec r1.2 (1 + r1.1) := ⟨b1.2.2.2, by omega⟩
  have b2 := s_l3Vec_post _ _ hv
  generalize e_vec r1.2 (1 + r1.1) = r2 at b2 ⊢
  have b3 := s_l1Below_post r2.2 16 b2.2.2
  generalize e_below r2.2 16 = r3 at b3 ⊢
  have hc := b3.2.2.2
  have hl := b2.1
  have hpk : p_pickInt r3.2 [0, 6, 7] := ⟨hc, by simp, by simp⟩
  have b4 := s_l1PickInt_post _ _ hpk
  have b5 := b4.1
  simp only [List.mem_cons, List.not_mem_nil, or_false] at b5
  have hv2 : p_vec (e_pickInt r3.2 [0, 6, 7]).2 (e_pickInt r3.2 [0, 6, 7]).1 := ⟨b4.2, by omega⟩
  have b6 := s_l3Vec_post _ _ hv2
  have hl2 := b6.1
  refine ⟨⟨hp, hv⟩, b2.2.2, fun _ => ⟨⟨hc, ⟨by omega, ?_⟩, ?_⟩, leafP ⟨?_, s_l2Raw_post _ hc⟩⟩, fun _ => ⟨fun _ => ⟨⟨hpk, hv2⟩, leafP ⟨?_, b6.2.2⟩⟩, fun _ => (leafP ⟨?_, hc⟩)⟩⟩ <;> (simp; omega)
theorem s_l3Any_post (c : ((List Int) × Int × Int)) (hp : p_cur c) : q_any c (e_any3 c) := (Classical.epsilon_spec (s_l3Any_ex c hp)).1
theorem s_l3Any_h : s_l3Any_C := by
  intro c hp
  exact (Classical.epsilon_spec (s_l3Any_ex c hp)).2

theorem s_l3Any_ok : TRowOk Try.prog s_l3Any_row := rowOk fun x h => s_l3Any_h x.1 h

def s_l5Op_R (t : TOp' × (((List Int) × Int × Int))) : TRes := ⟨(.a [(.c TI t.1.1), (.c TI t.1.2.1), (.c TI t.1.2.2.1), (.r [TI] 0 0 ((t.1.2.2.2).length))]), [(.sl 3 [TI] true t.1.2.2.2)], [[(.c (.sl [(.int .u8)]) t.2.1), (.c TI t.2.2.1), (.c TI t.2.2.2)]], true, []⟩
def e_op (x0 : ((List Int) × Int × Int)) (x1 : Int) : TOp' × (((List Int) × Int × Int)) := Classical.epsilon fun t : TOp' × (((List Int) × Int × Int)) => (q_op x0 x1 t) ∧ TCon Try.prog 205 [(.bx [(.c (.sl [(.int .u8)]) x0.1), (.c TI x0.2.1), (.c TI x0.2.2)]), (.c TI x1)] (s_l5Op_R t)
def s_l5Op_row : TRow := mkRow 205 [(.b [(.sl [(.int .u8)]), TI, TI]), (.c TI)] fun x => (some (p_op x.1 x.2.1), s_l5Op_R (e_op x.1 x.2.1))
def s_l5Op_C : Prop := ∀ (x0 : ((List Int) × Int × Int)) (x1 : Int), (p_op x0 x1) → TCon Try.prog 205 [(.bx [(.c (.sl [(.int .u8)]) x0.1), (.c TI x0.2.1), (.c TI x0.2.2)]), (.c TI x1)] (s_l5Op_R (e_op x0 x1))

/-! spec.l5Op -/
def s_l5Op_G : List TRow := [s_l1Below_row, s_OpSize_row, s_l3Vec_row]
def s_l5Op_y1 : TCode :=
  (.seq (.reg [.op (some 19) (.mov (.s 0)),
    .op (some 20) (.load (.s 5) 4 true),
    .op (some 21) (.call 191 [(.s 20)]),
    .op (some 22) (.call 181 [(.s 19), (.s 21)]),
    .op (some 23) (.fad (.s 5) 3),
    .op none (.store (.s 23) (.s 22) 1)])
 (.seq (.reg [.op (some 24) (.load (.s 5) 4 true),
     .op none (.store (.s 4) (.s 24) 4)])
  .ret))
def s_l5Op_L1 : List (Nat × Md) := [(0, .b [.d, .d, .d]), (4, .b [.d, .d, .d, .d]), (5, .b [.d, .d, .d, .d])]
def s_l5Op_y1w : TCode := .wk s_l5Op_L1 s_l5Op_y1
def s_l5Op_c : TCode :=
  (.seq (.reg [.op (some 4) (.new 76 [(.c TI (0 : Int)), (.c TI (0 : Int)), (.c TI (0 : Int)), (.n [TI])])])
 (.seq (.reg [.op (some 6) (.mov (.s 0)),
     .op (some 7) (.call 116 [(.s 6), (.k (.c TI (5 : Int)))]),
     .op (some 8) (.bin .add (.k (.c TI (1 : Int))) (.s 7)),
     .op (some 9) (.mov (.s 1)),
     .op (some 10) (.mov (.s 1)),
     .op (some 11) (.build [(.c TI (0 : Int)), (.c TI (0 : Int)), (.c TI (0 : Int)), (.n [TI])] [(0, 1, (.s 8)), (1, 1, (.s 9)), (2, 1, (.s 10))]),
     .op (some 5) (.new 76 [(.c TI (0 : Int)), (.c TI (0 : Int)), (.c TI (0 : Int)), (.n [TI])]),
     .op none (.store (.s 5) (.s 11) 4)])
  (.seq (.seq (.reg [.op (some 12) (.fad (.s 5) 0),
       .op (some 13) (.load (.s 12) 1 false),
       .op (some 14) (.bin .eql (.s 13) (.k (.c TI (1 : Int))))])
    (.cond (.s 14) (.reg [.op (some 15) (.mov (.s 0)),
        .op (some 16) (.call 116 [(.s 15), (.k (.c TI (3 : Int)))]),
        .op (some 17) (.bin .add (.k (.c TI (1 : Int))) (.s 16)),
        .op (some 18) (.fad (.s 5) 2),
        .op none (.store (.s 18) (.s 17) 1)]) .skip))
   s_l5Op_y1w)))
def s_l5Op_rs : List (ARv × Md) := [(.l 4 4 true, .b [.d, .d, .d, .o 3])]
theorem s_l5Op_st : compF Try.prog 205 = some (s_l5Op_c.er, s_l5Op_rs.map Prod.fst, 25) := by kernel_rfl
def s_l5Op_Q (K : TRes → Prop) : TPost := TQ 1 0 s_l5Op_rs K
def s_l5Op_A1 (K : TRes → Prop) (c : ((List Int) × Int × Int)) (inn : Int) (c0 : List Int) (c1 : Int) (c2 : Int) (o2 : Int) : Prop := tawp s_l5Op_G 1 s_l5Op_y1 (s_l5Op_Q K) ⟨[(0, (.p 0 0 0)), (4, (.p 1 0 0)), (5, (.p 2 0 0))], [(0, (.box [(.c (.sl [(.int .u8)]) c0), (.c TI c1), (.c TI c2)])), (1, (.box [(.c TI (0 : Int)), (.c TI (0 : Int)), (.c TI (0 : Int)), (.c (.sl [TI]) ([]))])), (2, (.box [(.c TI (w64 ((1 : Int) + ((e_below c (5 : Int)).1)))), (.c TI inn), (.c TI o2), (.c (.sl [TI]) ([]))]))], 3⟩
theorem s_l5Op_v1 (K : TRes → Prop) (c : ((List Int) × Int × Int)) (inn : Int) (c0 : List Int) (c1 : Int) (c2 : Int) (o2 : Int) (h :
  ((p_vec (c0, c1, c2) (m_opSize (w64 ((1 : Int) + ((e_below c (5 : Int)).1)), inn, o2, []))) ∧ K (s_l5Op_R ((w64 ((1 : Int) + ((e_below c (5 : Int)).1)), inn, o2, (List.take (((e_vec (c0, c1, c2) (m_opSize (w64 ((1 : Int) + ((e_below c (5 : Int)).1)), inn, o2, []))).1).length) ((e_vec (c0, c1, c2) (m_opSize (w64 ((1 : Int) + ((e_below c (5 : Int)).1)), inn, o2, []))).1))), ((e_vec (c0, c1, c2) (m_opSize (w64 ((1 : Int) + ((e_below c (5 : Int)).1)), inn, o2, []))).2))))) : Hold (s_l5Op_A1 K c inn c0 c1 c2 o2) :=
  Hold.of (by kernel_rfl) h
theorem s_l5Op_v0 (K : TRes → Prop) (c : ((List Int) × Int × Int)) (inn : Int) (h :
  ((p_cur2 c (5 : Int)) ∧ ((((w64 ((1 : Int) + ((e_below c (5 : Int)).1))) == (1 : Int)) = true → ((p_cur2 ((e_below c (5 : Int)).2) (3 : Int)) ∧ (s_l5Op_A1 K c inn (((e_below ((e_below c (5 : Int)).2) (3 : Int)).2).1) (((e_below ((e_below c (5 : Int)).2) (3 : Int)).2).2.1) (((e_below ((e_below c (5 : Int)).2) (3 : Int)).2).2.2) (w64 ((1 : Int) + ((e_below ((e_below c (5 : Int)).2) (3 : Int)).1)))))) ∧ (((w64 ((1 : Int) + ((e_below c (5 : Int)).1))) == (1 : Int)) = false → (s_l5Op_A1 K c inn (((e_below c (5 : Int)).2).1) (((e_below c (5 : Int)).2).2.1) (((e_below c (5 : Int)).2).2.2) inn))))) : Hold (tawp s_l5Op_G (1 + 0) s_l5Op_c (TQ 1 0 s_l5Op_rs K) (tstart [(.bx [(.c (.sl [(.int .u8)]) c.1), (.c TI c.2.1), (.c TI c.2.2)]), (.c TI inn)])) :=
  Hold.of (by kernel_rfl) h
theorem s_l5Op_t (c : ((List Int) × Int × Int)) (inn : Int) (K : TRes → Prop) (h : Hold (tawp s_l5Op_G (1 + 0) s_l5Op_c (TQ 1 0 s_l5Op_rs K) (tstart [(.bx [(.c (.sl [(.int .u8)]) c.1), (.c TI c.2.1), (.c TI c.2.2)]), (.c TI inn)]))) : ∃ r, K r ∧ TCon Try.prog 205 [(.bx [(.c (.sl [(.int .u8)]) c.1), (.c TI c.2.1), (.c TI c.2.2)]), (.c TI inn)] r :=
  tcon_gen_ex (sg := [(.b [(.sl [(.int .u8)]), TI, TI]), (.c TI)]) mixed (TOk.cons s_l1Below_ok (TOk.cons s_OpSize_ok (TOk.cons s_l3Vec_ok TOk.nil))) s_l5Op_st (by kernel_rfl) (by kernel_rfl) (by kernel_rfl) (by kernel_rfl) h
theorem s_l5Op_ex (c : ((List Int) × Int × Int)) (inn : Int) (hp : p_op c inn) : ∃ t : TOp' × (((List Int) × Int × Int)), (q_op c inn t) ∧ TCon Try.prog 205 [(.bx [(.c (.sl [(.int .u8)]) c.1), (.c TI c.2.1), (.c TI c.2.2)]), (.c TI inn)] (s_l5Op_R t) := by
  refine tex_of (s_l5Op_t c inn _ (s_l5Op_v0 (fun r' => ∃ t, (q_op c inn t) ∧ r' = s_l5Op_R t) c inn ?_))
  have b1 := s_l1Below_post c 5 hp.1
  have h1 := b1.1
  have h2 := b1.2.1 (by omega)
  obtain ⟨_, h3, h4⟩ := hp
  have hw : w64 (1 + (e_below c 5).1) = 1 + (e_below c 5).1 := w64_ok (by omega) (by omega)
  have key : ∀ c0 c1 c2 o2, p_cur (c0, c1, c2) → 1 ≤ o2 → o2 ≤ 3 → (1 + (e_below c 5).1 = 1 ∨ inn = o2) → s_l5Op_A1 (fun r' => ∃ t, (q_op c inn t) ∧ r' = s_l5Op_R t) c inn c0 c1 c2 o2 := by
    intro c0 c1 c2 o2 hc k1 k2 k3
    refine (s_l5Op_v1 (fun r' => ∃ t, (q_op c inn t) ∧ r' = s_l5Op_R t) c inn c0 c1 c2 o2 ?_).h
    rw [hw]
    have h5 : 1 ≤ 1 + (e_below c 5).1 := by omega
    have h6 : 1 + (e_below c 5).1 ≤ 5 := by omega
    generalize 1 + (e_below c 5).1 = o1 at h5 h6 k3 ⊢
    have hs := opSize_rng o1 [] h3 h4 k1 k2
    have hv : p_vec (c0, c1, c2) (m_opSize (o1, inn, o2, [])) := ⟨hc, by omega⟩
    have b := s_l3Vec_post _ _ hv
    have hl := b.1
    refine ⟨hv, leafP ⟨?_, rfl, k1, k2, ?_, b.2.2⟩⟩
    · simp only [List.take_length]
      exact opOk_mk h5 h6 h3 h4 k1 k2 k3 hl b.2.1
    · simp; omega
  have b2 := s_l1Below_post (e_below c 5).2 3 b1.2.2.2
  have h7 := b2.1
  have h8 := b2.2.1 (by omega)
  rw [hw] at *
  refine ⟨‹p_cur c›, fun h => ⟨b1.2.2.2, ?_⟩, fun _ => key _ _ _ _ b1.2.2.2 h3 h4 (.inr rfl)⟩
  rw [w64_ok (x := 1 + (e_below (e_below c 5).2 3).1) (by omega) (by omega)]
  exact key _ _ _ _ b2.2.2.2 (by omega) (by omega) (.inl (by simpa using h))
theorem s_l5Op_post (c : ((List Int) × Int × Int)) (inn : Int) (hp : p_op c inn) : q_op c inn (e_op c inn) := (Classical.epsilon_spec (s_l5Op_ex c inn hp)).1
theorem s_l5Op_h : s_l5Op_C := by
  intro c inn hp
  exact (Classical.epsilon_spec (s_l5Op_ex c inn hp)).2

theorem s_l5Op_ok : TRowOk Try.prog s_l5Op_row := rowOk fun x h => s_l5Op_h x.1 x.2.1 h

def s_l5Any_R (t : TOp' × (((List Int) × Int × Int))) : TRes := ⟨(.a (Tup.cells ctOp t.1)), [], [[(.c (.sl [(.int .u8)]) t.2.1), (.c TI t.2.2.1), (.c TI t.2.2.2)]], true, []⟩
def e_anyOp (x0 : ((List Int) × Int × Int)) : TOp' × (((List Int) × Int × Int)) := Classical.epsilon fun t : TOp' × (((List Int) × Int × Int)) => (q_anyOp x0 t) ∧ TCon Try.prog 187 [(.bx [(.c (.sl [(.int .u8)]) x0.1), (.c TI x0.2.1), (.c TI x0.2.2)])] (s_l5Any_R t)
def s_l5Any_row : TRow := mkRow 187 [(.b [(.sl [(.int .u8)]), TI, TI])] fun x => (some (p_cur x.1), s_l5Any_R (e_anyOp x.1))
def s_l5Any_C : Prop := ∀ (x0 : ((List Int) × Int × Int)), (p_cur x0) → TCon Try.prog 187 [(.bx [(.c (.sl [(.int .u8)]) x0.1), (.c TI x0.2.1), (.c TI x0.2.2)])] (s_l5Any_R (e_anyOp x0))

/-! spec.l5Any -/
def s_l5Any_G : List TRow := [s_l1Below_row, s_l5Op_row, s_l1PickInt_row, s_l2Raw_row]
def s_l5Any_c : TCode :=
  (.seq (.reg [.op (some 2) (.new 76 [(.c TI (0 : Int)), (.c TI (0 : Int)), (.c TI (0 : Int)), (.n [TI])])])
 (.seq (.reg [.op (some 4) (.mov (.s 0)),
     .op (some 5) (.mov (.s 0)),
     .op (some 6) (.call 116 [(.s 5), (.k (.c TI (3 : Int)))]),
     .op (some 7) (.bin .add (.k (.c TI (1 : Int))) (.s 6)),
     .op (some 8) (.call 205 [(.s 4), (.s 7)]),
     .op (some 3) (.new 76 [(.c TI (0 : Int)), (.c TI (0 : Int)), (.c TI (0 : Int)), (.n [TI])]),
     .op none (.store (.s 3) (.s 8) 4)])
  (.seq (.seq (.reg [.op (some 9) (.mov (.s 0)),
       .op (some 10) (.call 116 [(.s 9), (.k (.c TI (14 : Int)))])])
    (.block 0 (.seq (.reg [.op (some 12) (.bin .eql (.s 10) (.k (.c TI (0 : Int)))),
         .op (some 11) (.mov (.s 12))])
      (.cond (.s 11) (.reg [.op (some 13) (.mov (.s 0)),
          .op (some 14) (.call 116 [(.s 13), (.k (.c TI (8 : Int)))]),
          .op (some 15) (.bin .sub (.s 14) (.k (.c TI (1 : Int)))),
          .op (some 16) (.fad (.s 3) 0),
          .op none (.store (.s 16) (.s 15) 1)]) (.seq (.reg [.op (some 18) (.bin .eql (.s 10) (.k (.c TI (1 : Int)))),
           .op (some 17) (.mov (.s 18))])
        (.cond (.s 17) (.reg [.op (some 19) (.mov (.s 0)),
            .op (some 20) (.fad (.s 3) 1),
            .op (some 21) (.load (.s 20) 1 false),
            .op (some 22) (.bin .add (.s 21) (.k (.c TI (1 : Int)))),
            .op (some 23) (.bsl 3 [TI] [(.k (.c TI (0 : Int))), (.k (.c TI (7 : Int))), (.s 22)]),
            .op (some 24) (.call 182 [(.s 19), (.s 23)]),
            .op (some 25) (.fad (.s 3) 1),
            .op none (.store (.s 25) (.s 24) 1)]) (.seq (.reg [.op (some 27) (.bin .eql (.s 10) (.k (.c TI (2 : Int)))),
             .op (some 26) (.mov (.s 27))])
          (.cond (.s 26) (.reg [.op (some 28) (.fad (.s 3) 3),
              .op (some 29) (.load (.s 28) 1 false),
              .op (some 30) (.bsl 3 [TI] [(.k (.c TI (0 : Int)))]),
              .op (some 31) (.app (.s 29) (.s 30) 3 [TI]),
              .op (some 32) (.fad (.s 3) 3),
              .op none (.store (.s 32) (.s 31) 1)]) (.seq (.reg [.op (some 34) (.bin .eql (.s 10) (.k (.c TI (3 : Int)))),
               .op (some 33) (.mov (.s 34))])
            (.cond (.s 33) (.seq (.reg [.op (some 35) (.fad (.s 3) 3),
                 .op (some 36) (.load (.s 35) 1 false),
                 .op (some 37) (.len (.s 36)),
                 .op (some 38) (.bin .gtr (.s 37) (.k (.c TI (0 : Int))))])
              (.cond (.s 38) (.draw [.op (some 39) (.fad (.s 3) 3),
                  .op (some 40) (.load (.s 39) 1 false),
                  .op (some 41) (.mov (.s 0)),
                  .op (some 42) (.call 184 [(.s 41)]),
                  .op (some 43) (.iad (.s 40) (.k (.c TI (0 : Int))) [TI]),
                  .op none (.store (.s 43) (.s 42) 1)] [(0, 3), (1, 3)]) .skip)) .skip))))))))))
   (.seq (.reg [.op (some 44) (.load (.s 3) 4 true),
       .op none (.store (.s 2) (.s 44) 4)])
    .ret))))
def s_l5Any_rs : List (ARv × Md) := [(.l 2 4 true, .b [.d, .d, .d, .d])]
theorem s_l5Any_st : compF Try.prog 187 = some (s_l5Any_c.er, s_l5Any_rs.map Prod.fst, 45) := by kernel_rfl
def s_l5Any_Q (K : TRes → Prop) : TPost := TQ 1 0 s_l5Any_rs K
theorem s_l5Any_v0 (K : TRes → Prop) (c : ((List Int) × Int × Int)) (h :
  (((p_cur2 c (3 : Int)) ∧ (p_op ((e_below c (3 : Int)).2) (w64 ((1 : Int) + ((e_below c (3 : Int)).1))))) ∧ ((p_cur2 ((e_op ((e_below c (3 : Int)).2) (w64 ((1 : Int) + ((e_below c (3 : Int)).1)))).2) (14 : Int)) ∧ (((((e_below ((e_op ((e_below c (3 : Int)).2) (w64 ((1 : Int) + ((e_below c (3 : Int)).1)))).2) (14 : Int)).1) == (0 : Int)) = true → ((p_cur2 ((e_below ((e_op ((e_below c (3 : Int)).2) (w64 ((1 : Int) + ((e_below c (3 : Int)).1)))).2) (14 : Int)).2) (8 : Int)) ∧ K (s_l5Any_R ((w64 (((e_below ((e_below ((e_op ((e_below c (3 : Int)).2) (w64 ((1 : Int) + ((e_below c (3 : Int)).1)))).2) (14 : Int)).2) (8 : Int)).1) - (1 : Int)), ((e_op ((e_below c (3 : Int)).2) (w64 ((1 : Int) + ((e_below c (3 : Int)).1)))).1).2.1, ((e_op ((e_below c (3 : Int)).2) (w64 ((1 : Int) + ((e_below c (3 : Int)).1)))).1).2.2.1, (List.take ((((e_op ((e_below c (3 : Int)).2) (w64 ((1 : Int) + ((e_below c (3 : Int)).1)))).1).2.2.2).length) (List.drop 0 (((e_op ((e_below c (3 : Int)).2) (w64 ((1 : Int) + ((e_below c (3 : Int)).1)))).1).2.2.2)))), ((e_below ((e_below ((e_op ((e_below c (3 : Int)).2) (w64 ((1 : Int) + ((e_below c (3 : Int)).1)))).2) (14 : Int)).2) (8 : Int)).2))))) ∧ ((((e_below ((e_op ((e_below c (3 : Int)).2) (w64 ((1 : Int) + ((e_below c (3 : Int)).1)))).2) (14 : Int)).1) == (0 : Int)) = false → (((((e_below ((e_op ((e_below c (3 : Int)).2) (w64 ((1 : Int) + ((e_below c (3 : Int)).1)))).2) (14 : Int)).1) == (1 : Int)) = true → ((p_pickInt ((e_below ((e_op ((e_below c (3 : Int)).2) (w64 ((1 : Int) + ((e_below c (3 : Int)).1)))).2) (14 : Int)).2) ([(0 : Int), (7 : Int), w64 ((((e_op ((e_below c (3 : Int)).2) (w64 ((1 : Int) + ((e_below c (3 : Int)).1)))).1).2.1) + (1 : Int))])) ∧ K (s_l5Any_R ((((e_op ((e_below c (3 : Int)).2) (w64 ((1 : Int) + ((e_below c (3 : Int)).1)))).1).1, (e_pickInt ((e_below ((e_op ((e_below c (3 : Int)).2) (w64 ((1 : Int) + ((e_below c (3 : Int)).1)))).2) (14 : Int)).2) ([(0 : Int), (7 : Int), w64 ((((e_op ((e_below c (3 : Int)).2) (w64 ((1 : Int) + ((e_below c (3 : Int)).1)))).1).2.1) + (1 : Int))])).1, ((e_op ((e_below c (3 : Int)).2) (w64 ((1 : Int) + ((e_below c (3 : Int)).1)))).1).2.2.1, (List.take ((((e_op ((e_below c (3 : Int)).2) (w64 ((1 : Int) + ((e_below c (3 : Int)).1)))).1).2.2.2).length) (List.drop 0 (((e_op ((e_below c (3 : Int)).2) (w64 ((1 : Int) + ((e_below c (3 : Int)).1)))).1).2.2.2)))), ((e_pickInt ((e_below ((e_op ((e_below c (3 : Int)).2) (w64 ((1 : Int) + ((e_below c (3 : Int)).1)))).2) (14 : Int)).2) ([(0 : Int), (7 : Int), w64 ((((e_op ((e_below c (3 : Int)).2) (w64 ((1 : Int) + ((e_below c (3 : Int)).1)))).1).2.1) + (1 : Int))])).2))))) ∧ ((((e_below ((e_op ((e_below c (3 : Int)).2) (w64 ((1 : Int) + ((e_below c (3 : Int)).1)))).2) (14 : Int)).1) == (1 : Int)) = false → (((((e_below ((e_op ((e_below c (3 : Int)).2) (w64 ((1 : Int) + ((e_below c (3 : Int)).1)))).2) (14 : Int)).1) == (2 : Int)) = true → ((((((e_op ((e_below c (3 : Int)).2) (w64 ((1 : Int) + ((e_below c (3 : Int)).1)))).1).2.2.2).length = (((e_op ((e_below c (3 : Int)).2) (w64 ((1 : Int) + ((e_below c (3 : Int)).1)))).1).2.2.2).length ∨ (((e_op ((e_below c (3 : Int)).2) (w64 ((1 : Int) + ((e_below c (3 : Int)).1)))).1).2.2.2).length + 1 ≤ (((e_op ((e_below c (3 : Int)).2) (w64 ((1 : Int) + ((e_below c (3 : Int)).1)))).1).2.2.2).length) ∧ (((e_op ((e_below c (3 : Int)).2) (w64 ((1 : Int) + ((e_below c (3 : Int)).1)))).1).2.2.2).length + 1 ≤ big) ∧ K (s_l5Any_R ((((e_op ((e_below c (3 : Int)).2) (w64 ((1 : Int) + ((e_below c (3 : Int)).1)))).1).1, ((e_op ((e_below c (3 : Int)).2) (w64 ((1 : Int) + ((e_below c (3 : Int)).1)))).1).2.1, ((e_op ((e_below c (3 : Int)).2) (w64 ((1 : Int) + ((e_below c (3 : Int)).1)))).1).2.2.1, (List.take ((((e_op ((e_below c (3 : Int)).2) (w64 ((1 : Int) + ((e_below c (3 : Int)).1)))).1).2.2.2).length + 1) (List.drop 0 ((List.take ((((e_op ((e_below c (3 : Int)).2) (w64 ((1 : Int) + ((e_below c (3 : Int)).1)))).1).2.2.2).length) (((e_op ((e_below c (3 : Int)).2) (w64 ((1 : Int) + ((e_below c (3 : Int)).1)))).1).2.2.2)) ++ ([(0 : Int)]))))), ((e_below ((e_op ((e_below c (3 : Int)).2) (w64 ((1 : Int) + ((e_below c (3 : Int)).1)))).2) (14 : Int)).2))))) ∧ ((((e_below ((e_op ((e_below c (3 : Int)).2) (w64 ((1 : Int) + ((e_below c (3 : Int)).1)))).2) (14 : Int)).1) == (2 : Int)) = false → (((((e_below ((e_op ((e_below c (3 : Int)).2) (w64 ((1 : Int) + ((e_below c (3 : Int)).1)))).2) (14 : Int)).1) == (3 : Int)) = true → (((decide ((((((e_op ((e_below c (3 : Int)).2) (w64 ((1 : Int) + ((e_below c (3 : Int)).1)))).1).2.2.2).length : Nat) : Int) > (0 : Int))) = true → (((p_cur ((e_below ((e_op ((e_below c (3 : Int)).2) (w64 ((1 : Int) + ((e_below c (3 : Int)).1)))).2) (14 : Int)).2)) ∧ (((0 : Int) ≤ (0 : Int) ∧ Int.toNat (0 : Int) < (((e_op ((e_below c (3 : Int)).2) (w64 ((1 : Int) + ((e_below c (3 : Int)).1)))).1).2.2.2).length) ∧ ((0 + (Int.toNat (0 : Int))) < (((e_op ((e_below c (3 : Int)).2) (w64 ((1 : Int) + ((e_below c (3 : Int)).1)))).1).2.2.2).length))) ∧ K (s_l5Any_R ((((e_op ((e_below c (3 : Int)).2) (w64 ((1 : Int) + ((e_below c (3 : Int)).1)))).1).1, ((e_op ((e_below c (3 : Int)).2) (w64 ((1 : Int) + ((e_below c (3 : Int)).1)))).1).2.1, ((e_op ((e_below c (3 : Int)).2) (w64 ((1 : Int) + ((e_below c (3 : Int)).1)))).1).2.2.1, (List.take ((((e_op ((e_below c (3 : Int)).2) (w64 ((1 : Int) + ((e_below c (3 : Int)).1)))).1).2.2.2).length) (List.drop 0 ((((e_op ((e_below c (3 : Int)).2) (w64 ((1 : Int) + ((e_below c (3 : Int)).1)))).1).2.2.2).set (0 + (Int.toNat (0 : Int))) ((e_raw ((e_below ((e_op ((e_below c (3 : Int)).2) (w64 ((1 : Int) + ((e_below c (3 : Int)).1)))).2) (14 : Int)).2)).1))))), ((e_raw ((e_below ((e_op ((e_below c (3 : Int)).2) (w64 ((1 : Int) + ((e_below c (3 : Int)).1)))).2) (14 : Int)).2)).2))))) ∧ ((decide ((((((e_op ((e_below c (3 : Int)).2) (w64 ((1 : Int) + ((e_below c (3 : Int)).1)))).1).2.2.2).length : Nat) : Int) > (0 : Int))) = false → K (s_l5Any_R ((((e_op ((e_below c (3 : Int)).2) (w64 ((1 : Int) + ((e_below c (3 : Int)).1)))).1).1, ((e_op ((e_below c (3 : Int)).2) (w64 ((1 : Int) + ((e_below c (3 : Int)).1)))).1).2.1, ((e_op ((e_below c (3 : Int)).2) (w64 ((1 : Int) + ((e_below c (3 : Int)).1)))).1).2.2.1, (List.take ((((e_op ((e_below c (3 : Int)).2) (w64 ((1 : Int) + ((e_below c (3 : Int)).1)))).1).2.2.2).length) (List.drop 0 (((e_op ((e_below c (3 : Int)).2) (w64 ((1 : Int) + ((e_below c (3 : Int)).1)))).1).2.2.2)))), ((e_below ((e_op ((e_below c (3 : Int)).2) (w64 ((1 : Int) + ((e_below c (3 : Int)).1)))).2) (14 : Int)).2)))))) ∧ ((((e_below ((e_op ((e_below c (3 : Int)).2) (w64 ((1 : Int) + ((e_below c (3 : Int)).1)))).2) (14 : Int)).1) == (3 : Int)) = false → K (s_l5Any_R ((((e_op ((e_below c (3 : Int)).2) (w64 ((1 : Int) + ((e_below c (3 : Int)).1)))).1).1, ((e_op ((e_below c (3 : Int)).2) (w64 ((1 : Int) + ((e_below c (3 : Int)).1)))).1).2.1, ((e_op ((e_below c (3 : Int)).2) (w64 ((1 : Int) + ((e_below c (3 : Int)).1)))).1).2.2.1, (List.take ((((e_op ((e_below c (3 : Int)).2) (w64 ((1 : Int) + ((e_below c (3 : Int)).1)))).1).2.2.2).length) (List.drop 0 (((e_op ((e_below c (3 : Int)).2) (w64 ((1 : Int) + ((e_below c (3 : Int)).1)))).1).2.2.2)))), ((e_below ((e_op ((e_below c (3 : Int)).2) (w64 ((1 : Int) + ((e_below c (3 : Int)).1)))).2) (14 : Int)).2)))))))))))))) : Hold (tawp s_l5Any_G (1 + 0) s_l5Any_c (TQ 1 0 s_l5Any_rs K) (tstart [(.bx [(.c (.sl [(.int .u8)]) c.1), (.c TI c.2.1), (.c TI c.2.2)])])) :=
  Hold.of (by kernel_rfl) h
theorem s_l5Any_t (c : ((List Int) × Int × Int)) (K : TRes → Prop) (h : Hold (tawp s_l5Any_G (1 + 0) s_l5Any_c (TQ 1 0 s_l5Any_rs K) (tstart [(.bx [(.c (.sl [(.int .u8)]) c.1), (.c TI c.2.1), (.c TI c.2.2)])]))) : ∃ r, K r ∧ TCon Try.prog 187 [(.bx [(.c (.sl [(.int .u8)]) c.1), (.c TI c.2.1), (.c TI c.2.2)])] r :=
  tcon_gen_ex (sg := [(.b [(.sl [(.int .u8)]), TI, TI])]) mixed (TOk.cons s_l1Below_ok (TOk.cons s_l5Op_ok (TOk.cons s_l1PickInt_ok (TOk.cons s_l2Raw_ok TOk.nil)))) s_l5Any_st (by kernel_rfl) (by kernel_rfl) (by kernel_rfl) (by kernel_rfl) h
theorem s_l5Any_ex (c : ((List Int) × Int × Int)) (hp : p_cur c) : ∃ t : TOp' × (((List Int) × Int × Int)), (q_anyOp c t) ∧ TCon Try.prog 187 [(.bx [(.c (.sl [(.int .u8)]) c.1), (.c TI c.2.1), (.c TI c.2.2)])] (s_l5Any_R t) := by
  refine tex_of (s_l5Any_t c _ (s_l5Any_v0 (fun r' => ∃ t, (q_anyOp c t) ∧ r' = s_l5Any_R t) c ?_))
  have b1 := s_l1Below_post c 3 hp
  generalize e_below c 3 = r1 at b1 ⊢
  have h1 := b1.1
  have h2 := b1.2.1 (by omega)
  rw [w64_ok (x := 1 + r1.1) (by omega) (by omega)]
  have ho : p_op r1.2 (1 + r1.1) := ⟨b1.2.2.2, by omega, by omega⟩
  have b2 := s_l5Op_post _ _ ho
  generalize e_op r1.2 (1 + r1.1) = r2 at b2 ⊢
  have hl := b2.2.2.2.2.1
  have hc2 := b2.2.2.2.2.2
  have b3 := (s_l1Below_post r2.2 14 hc2).2.2.2
  generalize e_below r2.2 14 = r3 at b3 ⊢
  refine ⟨⟨hp, ho⟩, hc2, fun _ => ⟨b3, leafP ⟨?_, (s_l1Below_post _ _ b3).2.2.2⟩⟩, fun _ => ⟨fun _ => ⟨⟨b3, by simp, by simp⟩, leafP ⟨?_, (s_l1PickInt_post _ _ ⟨b3, by simp, by simp⟩).2⟩⟩, fun _ => ⟨fun _ => ⟨⟨.inl rfl, by rw [big_eq]; omega⟩, leafP ⟨?_, b3⟩⟩, fun _ => ⟨fun _ => ⟨fun hh => ⟨⟨b3, ⟨by omega, by simpa using hh⟩, by simpa using hh⟩, leafP ⟨?_, s_l2Raw_post _ b3⟩⟩, fun _ => (leafP ⟨?_, b3⟩)⟩, fun _ => (leafP ⟨?_, b3⟩)⟩⟩⟩⟩
  all_goals first
    | (simp; omega)
    | omega
    | skip
theorem s_l5Any_post (c : ((List Int) × Int × Int)) (hp : p_cur c) : q_anyOp c (e_anyOp c) := (Classical.epsilon_spec (s_l5Any_ex c hp)).1
theorem s_l5Any_h : s_l5Any_C := by
  intro c hp
  exact (Classical.epsilon_spec (s_l5Any_ex c hp)).2

theorem s_l5Any_ok : TRowOk Try.prog s_l5Any_row := rowOk fun x h => s_l5Any_h x.1 h

def s_l6Model_R (t : (List TOp') × (((List Int) × Int × Int))) : TRes := ⟨(.a [(.r ctOp 0 0 ((t.1).length))]), [(.sl 76 ctOp true t.1)], [[(.c (.sl [(.int .u8)]) t.2.1), (.c TI t.2.2.1), (.c TI t.2.2.2)]], true, []⟩
def e_model (x0 : ((List Int) × Int × Int)) : (List TOp') × (((List Int) × Int × Int)) := Classical.epsilon fun t : (List TOp') × (((List Int) × Int × Int)) => (q_model x0 t) ∧ TCon Try.prog 186 [(.bx [(.c (.sl [(.int .u8)]) x0.1), (.c TI x0.2.1), (.c TI x0.2.2)])] (s_l6Model_R t)
def s_l6Model_row : TRow := mkRow 186 [(.b [(.sl [(.int .u8)]), TI, TI])] fun x => (some (p_cur x.1), s_l6Model_R (e_model x.1))
def s_l6Model_C : Prop := ∀ (x0 : ((List Int) × Int × Int)), (p_cur x0) → TCon Try.prog 186 [(.bx [(.c (.sl [(.int .u8)]) x0.1), (.c TI x0.2.1), (.c TI x0.2.2)])] (s_l6Model_R (e_model x0))

/-! spec.l6Model -/
def s_l6Model_G : List TRow := [s_l1Below_row, s_l5Op_row]
def s_l6Model_b2 : TCode :=
  (.seq (.seq (.reg [.op (some 14) (.mov (.s 5)),
     .op (some 15) (.bin .gtr (.s 14) (.k (.c TI (0 : Int))))])
  (.cond (.s 15) .skip (.exit 0)))
 (.seq (.block 1 (.seq (.reg [.op (some 18) (.mov (.s 0)),
       .op (some 19) (.mov (.s 4)),
       .op (some 20) (.call 205 [(.s 18), (.s 19)]),
       .op (some 6) (.new 76 [(.c TI (0 : Int)), (.c TI (0 : Int)), (.c TI (0 : Int)), (.n [TI])]),
       .op none (.store (.s 6) (.s 20) 4)])
    (.seq (.reg [.op (some 21) (.fad (.s 3) 0),
        .op (some 22) (.load (.s 21) 1 false),
        .op (some 23) (.load (.s 6) 4 true),
        .op (some 24) (.bsl 76 ctOp [(.s 23)]),
        .op (some 25) (.app (.s 22) (.s 24) 76 ctOp),
        .op (some 26) (.fad (.s 3) 0),
        .op none (.store (.s 26) (.s 25) 1)])
     (.reg [.op (some 27) (.fad (.s 6) 2),
        .op (some 28) (.load (.s 27) 1 false),
        .op (some 4) (.mov (.s 28))]))))
  (.reg [.op (some 16) (.mov (.s 5)),
     .op (some 17) (.bin .sub (.s 16) (.k (.c TI (1 : Int)))),
     .op (some 5) (.mov (.s 17))])))
def s_l6Model_L2 : List (Nat × Md) := [(0, .b [.d, .d, .d]), (2, .b [.d]), (3, .b [.o 76]), (4, .one .d), (5, .one .d)]
def s_l6Model_y1 : TCode :=
  (.seq (.reg [.op (some 29) (.load (.s 3) 1 true),
    .op none (.store (.s 2) (.s 29) 1)])
 .ret)
def s_l6Model_c : TCode :=
  (.seq (.reg [.op (some 2) (.new 66 [(.n ctOp)])])
 (.seq (.reg [.op (some 7) (.build [(.n ctOp)] []),
     .op (some 3) (.new 66 [(.n ctOp)]),
     .op none (.store (.s 3) (.s 7) 1)])
  (.seq (.reg [.op (some 8) (.mov (.s 0)),
      .op (some 9) (.call 116 [(.s 8), (.k (.c TI (3 : Int)))]),
      .op (some 10) (.bin .add (.k (.c TI (1 : Int))) (.s 9)),
      .op (some 4) (.mov (.s 10))])
   (.seq (.seq (.reg [.op (some 11) (.mov (.s 0)),
        .op (some 12) (.call 116 [(.s 11), (.k (.c TI (6 : Int)))]),
        .op (some 13) (.bin .add (.k (.c TI (1 : Int))) (.s 12)),
        .op (some 5) (.mov (.s 13))])
     (.block 0 (.loop s_l6Model_L2 s_l6Model_b2)))
    s_l6Model_y1))))
def s_l6Model_rs : List (ARv × Md) := [(.l 2 1 true, .b [.o 76])]
theorem s_l6Model_st : compF Try.prog 186 = some (s_l6Model_c.er, s_l6Model_rs.map Prod.fst, 30) := by kernel_rfl
def s_l6Model_Q (K : TRes → Prop) : TPost := TQ 1 0 s_l6Model_rs K
def s_l6Model_q1 (K : TRes → Prop) : TPost := Qseq (tawp s_l6Model_G 1 s_l6Model_y1 (s_l6Model_Q K)) (s_l6Model_Q K)
def s_l6Model_q2 (K : TRes → Prop) : TPost := Qblk 0 (s_l6Model_q1 K)
def s_l6Model_A2 (K : TRes → Prop) (inn : Int) (n : Int) (c0 : List Int) (c1 : Int) (c2 : Int) (m0 : List TOp') : Prop := Loop s_l6Model_G 1 s_l6Model_L2 s_l6Model_b2 (s_l6Model_q2 K) ⟨[(0, (.p 0 0 0)), (2, (.p 1 0 0)), (3, (.p 3 0 0)), (4, (.c TI inn)), (5, (.c TI n))], [(0, (.box [(.c (.sl [(.int .u8)]) c0), (.c TI c1), (.c TI c2)])), (1, (.box [(.c (.sl ctOp) ([]))])), (2, (.sl 76 ctOp true m0)), (3, (.box [(.r ctOp 2 0 m0.length)]))], 4⟩
theorem s_l6Model_v2 (K : TRes → Prop) (inn : Int) (n : Int) (c0 : List Int) (c1 : Int) (c2 : Int) (m0 : List TOp') (h :
  (((decide (n > (0 : Int))) = true → ((p_op (c0, c1, c2) inn) ∧ (((m0.length = m0.length ∨ m0.length + 1 ≤ m0.length) ∧ m0.length + 1 ≤ big) ∧ (s_l6Model_A2 K (((e_op (c0, c1, c2) inn).1).2.2.1) (w64 (n - (1 : Int))) (((e_op (c0, c1, c2) inn).2).1) (((e_op (c0, c1, c2) inn).2).2.1) (((e_op (c0, c1, c2) inn).2).2.2) (List.take (m0.length + 1) ((List.take m0.length m0) ++ ([(((e_op (c0, c1, c2) inn).1).1, ((e_op (c0, c1, c2) inn).1).2.1, ((e_op (c0, c1, c2) inn).1).2.2.1, (List.take ((((e_op (c0, c1, c2) inn).1).2.2.2).length) (List.drop 0 (((e_op (c0, c1, c2) inn).1).2.2.2))))]))))))) ∧ ((decide (n > (0 : Int))) = false → K (s_l6Model_R ((List.take m0.length m0), (c0, c1, c2)))))) : s_l6Model_A2 K inn n c0 c1 c2 m0 :=
  Loop.of (by kernel_rfl) h
theorem s_l6Model_v0 (K : TRes → Prop) (c : ((List Int) × Int × Int)) (h :
  ((p_cur2 c (3 : Int)) ∧ ((p_cur2 ((e_below c (3 : Int)).2) (6 : Int)) ∧ (s_l6Model_A2 K (w64 ((1 : Int) + ((e_below c (3 : Int)).1))) (w64 ((1 : Int) + ((e_below ((e_below c (3 : Int)).2) (6 : Int)).1))) (((e_below ((e_below c (3 : Int)).2) (6 : Int)).2).1) (((e_below ((e_below c (3 : Int)).2) (6 : Int)).2).2.1) (((e_below ((e_below c (3 : Int)).2) (6 : Int)).2).2.2) ([] : List TOp'))))) : Hold (tawp s_l6Model_G (1 + 0) s_l6Model_c (TQ 1 0 s_l6Model_rs K) (tstart [(.bx [(.c (.sl [(.int .u8)]) c.1), (.c TI c.2.1), (.c TI c.2.2)])])) :=
  Hold.of (by kernel_rfl) h
theorem s_l6Model_t (c : ((List Int) × Int × Int)) (K : TRes → Prop) (h : Hold (tawp s_l6Model_G (1 + 0) s_l6Model_c (TQ 1 0 s_l6Model_rs K) (tstart [(.bx [(.c (.sl [(.int .u8)]) c.1), (.c TI c.2.1), (.c TI c.2.2)])]))) : ∃ r, K r ∧ TCon Try.prog 186 [(.bx [(.c (.sl [(.int .u8)]) c.1), (.c TI c.2.1), (.c TI c.2.2)])] r :=
  tcon_gen_ex (sg := [(.b [(.sl [(.int .u8)]), TI, TI])]) mixed (TOk.cons s_l1Below_ok (TOk.cons s_l5Op_ok TOk.nil)) s_l6Model_st (by kernel_rfl) (by kernel_rfl) (by kernel_rfl) (by kernel_rfl) h
theorem s_l6Model_ex (c : ((List Int) × Int × Int)) (hp : p_cur c) : ∃ t : (List TOp') × (((List Int) × Int × Int)), (q_model c t) ∧ TCon Try.prog 186 [(.bx [(.c (.sl [(.int .u8)]) c.1), (.c TI c.2.1), (.c TI c.2.2)])] (s_l6Model_R t) := by
  refine tex_of (s_l6Model_t c _ (s_l6Model_v0 (fun r' => ∃ t, (q_model c t) ∧ r' = s_l6Model_R t) c ?_))
  have b1 := s_l1Below_post c 3 hp
  generalize e_below c 3 = r1 at b1 ⊢
  have b2 := s_l1Below_post r1.2 6 b1.2.2.2
  generalize e_below r1.2 6 = r2 at b2 ⊢
  have h1 := b1.1
  have h2 := b1.2.1 (by omega)
  have h3 := b2.1
  have h4 := b2.2.1 (by omega)
  rw [w64_ok (x := 1 + r1.1) (by omega) (by omega), w64_ok (x := 1 + r2.1) (by omega) (by omega)]
  refine ⟨hp, b1.2.2.2, ?_⟩
  have key : ∀ (k : Nat) (inn c1 c2 : Int) (c0 : List Int) (m0 : TModel), p_cur (c0, c1, c2) → 1 ≤ inn → inn ≤ 3 → m0.length + k ≤ 6 → 1 ≤ m0.length + k → chainGo none m0 = true → outIs none m0 inn = true → s_l6Model_A2 (fun r' => ∃ t, (q_model c t) ∧ r' = s_l6Model_R t) inn (k : Int) c0 c1 c2 m0 := by
    intro k
    induction k with
    | zero =>
      intro inn c1 c2 c0 m0 hc k1 k2 k3 k4 k5 k6
      refine s_l6Model_v2 (fun r' => ∃ t, (q_model c t) ∧ r' = s_l6Model_R t) _ _ _ _ _ _ ⟨fun h => by simp at h, fun _ => (leafP ⟨?_, ?_, hc⟩)⟩
      · simp only [List.take_length, m_modelOk, Bool.and_eq_true, m_in_iff]
        exact ⟨by omega, k5⟩
      · simp only [List.take_length]; omega
    | succ k ih =>
      intro inn c1 c2 c0 m0 hc k1 k2 k3 k4 k5 k6
      have ho : p_op (c0, c1, c2) inn := ⟨hc, k1, k2⟩
      have b := s_l5Op_post _ _ ho
      refine s_l6Model_v2 (fun r' => ∃ t, (q_model c t) ∧ r' = s_l6Model_R t) _ _ _ _ _ _ ⟨fun _ => ⟨ho, ⟨.inl rfl, by rw [big_eq]; omega⟩, ?_⟩, fun h => by simp at h <;> omega⟩
      rw [take_app1, w64_ok (x := ((k + 1 : Nat) : Int) - 1) (by omega) (by omega), show ((k + 1 : Nat) : Int) - 1 = k by omega]
      refine ih _ _ _ _ _ b.2.2.2.2.2 b.2.2.1 b.2.2.2.1 (by simp; omega) (by simp; omega) (chain_snoc _ _ _ k5 ?_ ?_) ?_
      · simp only [List.drop_zero, List.take_length]; exact b.1
      · rw [show (((e_op (c0, c1, c2) inn).1.1, (e_op (c0, c1, c2) inn).1.2.1, (e_op (c0, c1, c2) inn).1.2.2.1, List.take (e_op (c0, c1, c2) inn).1.2.2.2.length (List.drop 0 (e_op (c0, c1, c2) inn).1.2.2.2)) : TOp').2.1 = inn from b.2.1]
        exact k6
      · exact out_snoc _ _ _
  have h := key (1 + r2.1).toNat (1 + r1.1) r2.2.2.1 r2.2.2.2 r2.2.1 [] b2.2.2.2 (by omega) (by omega) (by simp; omega) (by simp; omega) rfl rfl
  rw [Int.toNat_of_nonneg (by omega)] at h
  exact h
theorem s_l6Model_post (c : ((List Int) × Int × Int)) (hp : p_cur c) : q_model c (e_model c) := (Classical.epsilon_spec (s_l6Model_ex c hp)).1
theorem s_l6Model_h : s_l6Model_C := by
  intro c hp
  exact (Classical.epsilon_spec (s_l6Model_ex c hp)).2

theorem s_l6Model_ok : TRowOk Try.prog s_l6Model_row := rowOk fun x h => s_l6Model_h x.1 h

def s_l6Any_R (t : (List TOp') × (((List Int) × Int × Int))) : TRes := ⟨(.a [(.c (.sl ctOp) t.1)]), [], [[(.c (.sl [(.int .u8)]) t.2.1), (.c TI t.2.2.1), (.c TI t.2.2.2)]], true, []⟩
def e_anyModel (x0 : ((List Int) × Int × Int)) : (List TOp') × (((List Int) × Int × Int)) := Classical.epsilon fun t : (List TOp') × (((List Int) × Int × Int)) => (q_anyModel x0 t) ∧ TCon Try.prog 131 [(.bx [(.c (.sl [(.int .u8)]) x0.1), (.c TI x0.2.1), (.c TI x0.2.2)])] (s_l6Any_R t)
def s_l6Any_row : TRow := mkRow 131 [(.b [(.sl [(.int .u8)]), TI, TI])] fun x => (some (p_cur x.1), s_l6Any_R (e_anyModel x.1))
def s_l6Any_C : Prop := ∀ (x0 : ((List Int) × Int × Int)), (p_cur x0) → TCon Try.prog 131 [(.bx [(.c (.sl [(.int .u8)]) x0.1), (.c TI x0.2.1), (.c TI x0.2.2)])] (s_l6Any_R (e_anyModel x0))

/-! spec.l6Any -/
def s_l6Any_G : List TRow := [s_l6Model_row, s_l1Below_row, s_l5Any_row]
def s_l6Any_b2 : TCode :=
  (.seq (.seq (.draw [.op (some 31) (.fad (.s 3) 0),
     .op (some 32) (.load (.s 31) 1 false),
     .op (some 33) (.len (.s 32)),
     .op (some 34) (.mov (.s 0)),
     .op (some 35) (.call 116 [(.s 34), (.k (.c TI (2 : Int)))]),
     .op (some 36) (.bin .add (.k (.c TI (8 : Int))) (.s 35)),
     .op (some 37) (.bin .lss (.s 33) (.s 36))] [(0, 4), (1, 4), (2, 4)])
  (.cond (.s 37) .skip (.exit 1)))
 (.block 2 (.draw [.op (some 38) (.fad (.s 3) 0),
     .op (some 39) (.load (.s 38) 1 false),
     .op (some 40) (.fad (.s 3) 0),
     .op (some 41) (.load (.s 40) 1 false),
     .op (some 42) (.fad (.s 3) 0),
     .op (some 43) (.load (.s 42) 1 false),
     .op (some 44) (.len (.s 43)),
     .op (some 45) (.bin .sub (.s 44) (.k (.c TI (1 : Int)))),
     .op (some 46) (.iad (.s 41) (.s 45) ctOp),
     .op (some 47) (.fad (.s 46) 2),
     .op (some 48) (.load (.s 47) 1 false),
     .op (some 49) (.fad (.s 3) 0),
     .op (some 50) (.load (.s 49) 1 false),
     .op (some 51) (.fad (.s 3) 0),
     .op (some 52) (.load (.s 51) 1 false),
     .op (some 53) (.len (.s 52)),
     .op (some 54) (.bin .sub (.s 53) (.k (.c TI (1 : Int)))),
     .op (some 55) (.iad (.s 50) (.s 54) ctOp),
     .op (some 56) (.fad (.s 55) 2),
     .op (some 57) (.load (.s 56) 1 false),
     .op (some 58) (.build [(.c TI (0 : Int)), (.c TI (0 : Int)), (.c TI (0 : Int)), (.n [TI])] [(0, 1, (.k (.c TI (3 : Int)))), (1, 1, (.s 48)), (2, 1, (.s 57))]),
     .op (some 59) (.bsl 76 ctOp [(.s 58)]),
     .op (some 60) (.app (.s 39) (.s 59) 76 ctOp),
     .op (some 61) (.fad (.s 3) 0),
     .op none (.store (.s 61) (.s 60) 1)] [(0, 21), (1, 21)])))
def s_l6Any_L2 : List (Nat × Md) := [(0, .b [.d, .d, .d]), (2, .b [.d]), (3, .b [.f])]
def s_l6Any_y1 : TCode :=
  (.seq (.reg [.op (some 62) (.load (.s 3) 1 true),
    .op none (.store (.s 2) (.s 62) 1)])
 .ret)
def s_l6Any_c : TCode :=
  (.seq (.reg [.op (some 2) (.new 66 [(.n ctOp)])])
 (.seq (.reg [.op (some 5) (.mov (.s 0)),
     .op (some 6) (.call 186 [(.s 5)]),
     .op (some 3) (.new 66 [(.n ctOp)]),
     .op none (.store (.s 3) (.s 6) 1)])
  (.seq (.reg [.op (some 7) (.mov (.s 0)),
      .op (some 8) (.fad (.s 3) 0),
      .op (some 9) (.load (.s 8) 1 false),
      .op (some 10) (.len (.s 9)),
      .op (some 11) (.call 116 [(.s 7), (.s 10)]),
      .op (some 4) (.mov (.s 11))])
   (.seq (.seq (.reg [.op (some 12) (.mov (.s 0)),
        .op (some 13) (.call 116 [(.s 12), (.k (.c TI (16 : Int)))])])
     (.block 0 (.seq (.reg [.op (some 15) (.bin .eql (.s 13) (.k (.c TI (0 : Int)))),
          .op (some 14) (.mov (.s 15))])
       (.cond (.s 14) (.draw [.op (some 16) (.fad (.s 3) 0),
           .op (some 17) (.load (.s 16) 1 false),
           .op (some 18) (.mov (.s 4)),
           .op (some 19) (.mov (.s 0)),
           .op (some 20) (.call 187 [(.s 19)]),
           .op (some 21) (.iad (.s 17) (.s 18) ctOp),
           .op none (.store (.s 21) (.s 20) 4)] [(0, 4), (1, 4)]) (.seq (.reg [.op (some 23) (.bin .eql (.s 13) (.k (.c TI (1 : Int)))),
            .op (some 22) (.mov (.s 23))])
         (.cond (.s 22) (.reg [.op (some 24) (.fad (.s 3) 0),
             .op (some 25) (.load (.s 24) 1 false),
             .op (some 26) (.mov (.s 4)),
             .op (some 27) (.slc (.s 25) none (some (.s 26)) ctOp),
             .op (some 28) (.fad (.s 3) 0),
             .op none (.store (.s 28) (.s 27) 1)]) (.seq (.reg [.op (some 30) (.bin .eql (.s 13) (.k (.c TI (2 : Int)))),
              .op (some 29) (.mov (.s 30))])
           (.cond (.s 29) (.block 1 (.loop s_l6Any_L2 s_l6Any_b2)) .skip))))))))
    s_l6Any_y1))))
def s_l6Any_rs : List (ARv × Md) := [(.l 2 1 true, .b [.d])]
theorem s_l6Any_st : compF Try.prog 131 = some (s_l6Any_c.er, s_l6Any_rs.map Prod.fst, 63) := by kernel_rfl
def s_l6Any_Q (K : TRes → Prop) : TPost := TQ 1 0 s_l6Any_rs K
def s_l6Any_q1 (K : TRes → Prop) : TPost := Qseq (tawp s_l6Any_G 1 s_l6Any_y1 (s_l6Any_Q K)) (s_l6Any_Q K)
def s_l6Any_q2 (K : TRes → Prop) : TPost := Qblk 0 (s_l6Any_q1 K)
def s_l6Any_q3 (K : TRes → Prop) : TPost := Qblk 1 (s_l6Any_q2 K)
def s_l6Any_A2 (K : TRes → Prop) (c0 : List Int) (c1 : Int) (c2 : Int) (m0 : List TOp') : Prop := Loop s_l6Any_G 1 s_l6Any_L2 s_l6Any_b2 (s_l6Any_q3 K) ⟨[(0, (.p 0 0 0)), (2, (.p 1 0 0)), (3, (.p 3 0 0))], [(0, (.box [(.c (.sl [(.int .u8)]) c0), (.c TI c1), (.c TI c2)])), (1, (.box [(.c (.sl ctOp) ([]))])), (2, (.sl 76 ctOp true m0)), (3, (.box [(.r ctOp 2 0 m0.length)]))], 4⟩
theorem s_l6Any_v2 (K : TRes → Prop) (c0 : List Int) (c1 : Int) (c2 : Int) (m0 : List TOp') (h :
  ((p_cur2 (c0, c1, c2) (2 : Int)) ∧ (((decide (((m0.length : Nat) : Int) < (w64 ((8 : Int) + ((e_below (c0, c1, c2) (2 : Int)).1))))) = true → ((((0 : Int) ≤ w64 (((m0.length : Nat) : Int) - (1 : Int)) ∧ Int.toNat (w64 (((m0.length : Nat) : Int) - (1 : Int))) < m0.length) ∧ (((0 + (Int.toNat (w64 (((m0.length : Nat) : Int) - (1 : Int))))) < m0.length) ∧ (((0 : Int) ≤ w64 (((m0.length : Nat) : Int) - (1 : Int)) ∧ Int.toNat (w64 (((m0.length : Nat) : Int) - (1 : Int))) < m0.length) ∧ (((0 + (Int.toNat (w64 (((m0.length : Nat) : Int) - (1 : Int))))) < m0.length) ∧ ((m0.length = m0.length ∨ m0.length + 1 ≤ m0.length) ∧ m0.length + 1 ≤ big))))) ∧ (s_l6Any_A2 K (((e_below (c0, c1, c2) (2 : Int)).2).1) (((e_below (c0, c1, c2) (2 : Int)).2).2.1) (((e_below (c0, c1, c2) (2 : Int)).2).2.2) (List.take (m0.length + 1) ((List.take m0.length m0) ++ ([((3 : Int), (gtd dOp m0 (0 + (Int.toNat (w64 (((m0.length : Nat) : Int) - (1 : Int)))))).2.2.1, (gtd dOp m0 (0 + (Int.toNat (w64 (((m0.length : Nat) : Int) - (1 : Int)))))).2.2.1, [])])))))) ∧ ((decide (((m0.length : Nat) : Int) < (w64 ((8 : Int) + ((e_below (c0, c1, c2) (2 : Int)).1))))) = false → K (s_l6Any_R ((List.take m0.length (List.drop 0 m0)), ((e_below (c0, c1, c2) (2 : Int)).2))))))) : s_l6Any_A2 K c0 c1 c2 m0 :=
  Loop.of (by kernel_rfl) h
theorem s_l6Any_v0 (K : TRes → Prop) (c : ((List Int) × Int × Int)) (h :
  ((p_cur c) ∧ ((p_cur2 ((e_model c).2) ((((e_model c).1).length : Nat) : Int)) ∧ ((p_cur2 ((e_below ((e_model c).2) ((((e_model c).1).length : Nat) : Int)).2) (16 : Int)) ∧ (((((e_below ((e_below ((e_model c).2) ((((e_model c).1).length : Nat) : Int)).2) (16 : Int)).1) == (0 : Int)) = true → (((p_cur ((e_below ((e_below ((e_model c).2) ((((e_model c).1).length : Nat) : Int)).2) (16 : Int)).2)) ∧ (((0 : Int) ≤ (e_below ((e_model c).2) ((((e_model c).1).length : Nat) : Int)).1 ∧ Int.toNat ((e_below ((e_model c).2) ((((e_model c).1).length : Nat) : Int)).1) < ((e_model c).1).length) ∧ ((0 + (Int.toNat ((e_below ((e_model c).2) ((((e_model c).1).length : Nat) : Int)).1))) < ((e_model c).1).length))) ∧ K (s_l6Any_R ((List.take (((e_model c).1).length) (List.drop 0 (((e_model c).1).set (0 + (Int.toNat ((e_below ((e_model c).2) ((((e_model c).1).length : Nat) : Int)).1))) ((e_anyOp ((e_below ((e_below ((e_model c).2) ((((e_model c).1).length : Nat) : Int)).2) (16 : Int)).2)).1)))), ((e_anyOp ((e_below ((e_below ((e_model c).2) ((((e_model c).1).length : Nat) : Int)).2) (16 : Int)).2)).2))))) ∧ ((((e_below ((e_below ((e_model c).2) ((((e_model c).1).length : Nat) : Int)).2) (16 : Int)).1) == (0 : Int)) = false → (((((e_below ((e_below ((e_model c).2) ((((e_model c).1).length : Nat) : Int)).2) (16 : Int)).1) == (1 : Int)) = true → (((0 : Int) ≤ (0 : Int) ∧ (0 : Int) ≤ (e_below ((e_model c).2) ((((e_model c).1).length : Nat) : Int)).1 ∧ (e_below ((e_model c).2) ((((e_model c).1).length : Nat) : Int)).1 ≤ ((((e_model c).1).length : Nat) : Int)) ∧ K (s_l6Any_R ((List.take (Int.toNat ((e_below ((e_model c).2) ((((e_model c).1).length : Nat) : Int)).1) - Int.toNat (0 : Int)) (List.drop 0 ((e_model c).1))), ((e_below ((e_below ((e_model c).2) ((((e_model c).1).length : Nat) : Int)).2) (16 : Int)).2))))) ∧ ((((e_below ((e_below ((e_model c).2) ((((e_model c).1).length : Nat) : Int)).2) (16 : Int)).1) == (1 : Int)) = false → (((((e_below ((e_below ((e_model c).2) ((((e_model c).1).length : Nat) : Int)).2) (16 : Int)).1) == (2 : Int)) = true → (s_l6Any_A2 K (((e_below ((e_below ((e_model c).2) ((((e_model c).1).length : Nat) : Int)).2) (16 : Int)).2).1) (((e_below ((e_below ((e_model c).2) ((((e_model c).1).length : Nat) : Int)).2) (16 : Int)).2).2.1) (((e_below ((e_below ((e_model c).2) ((((e_model c).1).length : Nat) : Int)).2) (16 : Int)).2).2.2) (List.take (((e_model c).1).length) ((e_model c).1)))) ∧ ((((e_below ((e_below ((e_model c).2) ((((e_model c).1).length : Nat) : Int)).2) (16 : Int)).1) == (2 : Int)) = false → K (s_l6Any_R ((List.take (((e_model c).1).length) (List.drop 0 ((e_model c).1))), ((e_below ((e_below ((e_model c).2) ((((e_model c).1).length : Nat) : Int)).2) (16 : Int)).2))))))))))))) : Hold (tawp s_l6Any_G (1 + 0) s_l6Any_c (TQ 1 0 s_l6Any_rs K) (tstart [(.bx [(.c (.sl [(.int .u8)]) c.1), (.c TI c.2.1), (.c TI c.2.2)])])) :=
  Hold.of (by kernel_rfl) h
theorem s_l6Any_t (c : ((List Int) × Int × Int)) (K : TRes → Prop) (h : Hold (tawp s_l6Any_G (1 + 0) s_l6Any_c (TQ 1 0 s_l6Any_rs K) (tstart [(.bx [(.c (.sl [(.int .u8)]) c.1), (.c TI c.2.1), (.c TI c.2.2)])]))) : ∃ r, K r ∧ TCon Try.prog 131 [(.bx [(.c (.sl [(.int .u8)]) c.1), (.c TI c.2.1), (.c TI c.2.2)])] r :=
  tcon_gen_ex (sg := [(.b [(.sl [(.int .u8)]), TI, TI])]) mixed (TOk.cons s_l6Model_ok (TOk.cons s_l1Below_ok (TOk.cons s_l5Any_ok TOk.nil))) s_l6Any_st (by kernel_rfl) (by kernel_rfl) (by kernel_rfl) (by kernel_rfl) h
theorem s_l6Any_ex (c : ((List Int) × Int × Int)) (hp : p_cur c) : ∃ t : (List TOp') × (((List Int) × Int × Int)), (q_anyModel c t) ∧ TCon Try.prog 131 [(.bx [(.c (.sl [(.int .u8)]) c.1), (.c TI c.2.1), (.c TI c.2.2)])] (s_l6Any_R t) := by
  refine tex_of (s_l6Any_t c _ (s_l6Any_v0 (fun r' => ∃ t, (q_anyModel c t) ∧ r' = s_l6Any_R t) c ?_))
  have b1 := s_l6Model_post c hp
  generalize e_model c = r1 at b1 ⊢
  obtain ⟨k1, k2, k3⟩ := b1
  have k4 : 1 ≤ r1.1.length := by
    simp only [m_modelOk, Bool.and_eq_true, m_in_iff] at k1
    omega
  have b2 := s_l1Below_post r1.2 r1.1.length k3
  generalize e_below r1.2 r1.1.length = r2 at b2 ⊢
  have h1 := b2.1
  have h2 := b2.2.1 (by omega)
  have b3 := (s_l1Below_post r2.2 16 b2.2.2.2).2.2.2
  generalize e_below r2.2 16 = r3 at b3 ⊢
  refine ⟨hp, k3, b2.2.2.2, fun _ => ⟨⟨b3, ⟨h1, by omega⟩, by omega⟩, leafP ⟨?_, (s_l5Any_post _ b3).2⟩⟩, fun _ => ⟨fun _ => ⟨⟨by omega, by omega, by omega⟩, leafP ⟨?_, b3⟩⟩, fun _ => ⟨fun _ => ?_, fun _ => (leafP ⟨?_, b3⟩)⟩⟩⟩
  · simp; omega
  · simp; omega
  · rw [List.take_length]
    have key : ∀ (k : Nat) (c1 c2 : Int) (c0 : List Int) (m0 : TModel), p_cur (c0, c1, c2) → 1 ≤ m0.length → m0.length + k = 9 → s_l6Any_A2 (fun r' => ∃ t, (q_anyModel c t) ∧ r' = s_l6Any_R t) c0 c1 c2 m0 := by
      intro k
      induction k with
      | zero =>
        intro c1 c2 c0 m0 hc q1 q2
        have b := s_l1Below_post (c0, c1, c2) 2 hc
        have q3 := b.1
        have q4 := b.2.1 (by omega)
        refine s_l6Any_v2 (fun r' => ∃ t, (q_anyModel c t) ∧ r' = s_l6Any_R t) _ _ _ _ ⟨hc, fun h => ?_, fun _ => (leafP ⟨?_, b.2.2.2⟩)⟩
        · rw [w64_ok (x := 8 + _) (by omega) (by omega)] at h
          simp at h; omega
        · simp; omega
      | succ k ih =>
        intro c1 c2 c0 m0 hc q1 q2
        have b := s_l1Below_post (c0, c1, c2) 2 hc
        refine s_l6Any_v2 (fun r' => ∃ t, (q_anyModel c t) ∧ r' = s_l6Any_R t) _ _ _ _ ⟨hc, fun _ => ?_, fun _ => (leafP ⟨?_, b.2.2.2⟩)⟩
        · rw [w64_ok (x := (m0.length : Int) - 1) (by omega) (by omega)]
          refine ⟨⟨⟨by omega, by omega⟩, by omega, ⟨by omega, by omega⟩, by omega, .inl rfl, by rw [big_eq]; omega⟩, ?_⟩
          rw [take_app1]
          exact ih _ _ _ _ b.2.2.2 (by simp) (by simp; omega)
        · simp; omega
    exact key (9 - r1.1.length) _ _ _ _ b3 k4 (by omega)
  · simp; omega
theorem s_l6Any_post (c : ((List Int) × Int × Int)) (hp : p_cur c) : q_anyModel c (e_anyModel c) := (Classical.epsilon_spec (s_l6Any_ex c hp)).1
theorem s_l6Any_h : s_l6Any_C := by
  intro c hp
  exact (Classical.epsilon_spec (s_l6Any_ex c hp)).2

theorem s_l6Any_ok : TRowOk Try.prog s_l6Any_row := rowOk fun x h => s_l6Any_h x.1 h

def s_l8Cuts_R (t : (List Int) × (((List Int) × Int × Int))) : TRes := ⟨(.r [TI] 0 0 ((t.1).length)), [(.sl 3 [TI] true t.1)], [[(.c (.sl [(.int .u8)]) t.2.1), (.c TI t.2.2.1), (.c TI t.2.2.2)]], true, []⟩
def e_cuts (x0 : ((List Int) × Int × Int)) (x1 : List TOp') : (List Int) × (((List Int) × Int × Int)) := Classical.epsilon fun t : (List Int) × (((List Int) × Int × Int)) => (q_cuts x0 x1 t) ∧ TCon Try.prog 188 [(.bx [(.c (.sl [(.int .u8)]) x0.1), (.c TI x0.2.1), (.c TI x0.2.2)]), (.a [(.c (.sl ctOp) x1)])] (s_l8Cuts_R t)
def s_l8Cuts_row : TRow := mkRow 188 [(.b [(.sl [(.int .u8)]), TI, TI]), (.a [(.sl ctOp)])] fun x => (some (p_cuts x.1 x.2.1), s_l8Cuts_R (e_cuts x.1 x.2.1))
def s_l8Cuts_C : Prop := ∀ (x0 : ((List Int) × Int × Int)) (x1 : List TOp'), (p_cuts x0 x1) → TCon Try.prog 188 [(.bx [(.c (.sl [(.int .u8)]) x0.1), (.c TI x0.2.1), (.c TI x0.2.2)]), (.a [(.c (.sl ctOp) x1)])] (s_l8Cuts_R (e_cuts x0 x1))

/-! spec.l8Cuts -/
def s_l8Cuts_G : List TRow := [s_l1Once_row]
def s_l8Cuts_b2 : TCode :=
  (.seq (.seq (.reg [.op (some 8) (.mov (.s 6)),
     .op (some 9) (.fad (.s 3) 0),
     .op (some 10) (.load (.s 9) 1 false),
     .op (some 11) (.len (.s 10)),
     .op (some 12) (.bin .lss (.s 8) (.s 11))])
  (.cond (.s 12) .skip (.exit 0)))
 (.seq (.block 1 (.seq (.reg [.op (some 15) (.mov (.s 0)),
       .op (some 16) (.call 136 [(.s 15), (.k (.c TI (2 : Int)))]),
       .op (some 17) (.mov (.s 16)),
       .grp 17 true [.op (some 18) (.mov (.s 5)), .op (some 19) (.len (.s 18)), .op (some 20) (.bin .lss (.s 19) (.k (.c TI (3 : Int))))] 21 (.s 20)])
    (.cond (.s 21) (.reg [.op (some 22) (.mov (.s 5)),
        .op (some 23) (.mov (.s 6)),
        .op (some 24) (.bsl 3 [TI] [(.s 23)]),
        .op (some 25) (.app (.s 22) (.s 24) 3 [TI]),
        .op (some 5) (.mov (.s 25))]) .skip)))
  (.reg [.op (some 13) (.mov (.s 6)),
     .op (some 14) (.bin .add (.s 13) (.k (.c TI (1 : Int)))),
     .op (some 6) (.mov (.s 14))])))
def s_l8Cuts_L2 : List (Nat × Md) := [(0, .b [.d, .d, .d]), (3, .b [.d]), (5, .one .f), (6, .one .d)]
def s_l8Cuts_y1 : TCode :=
  (.seq (.reg [.op (some 26) (.mov (.s 5)),
    .op (some 4) (.mov (.s 26))])
 .ret)
def s_l8Cuts_c : TCode :=
  (.seq (.reg [.op (some 3) (.box 66 (.s 1) 1),
    .op (some 4) (.mov (.k (.n [TI])))])
 (.seq (.reg [.op (some 7) (.bsl 3 [TI] []),
     .op (some 5) (.mov (.s 7))])
  (.seq (.seq (.reg [.op (some 6) (.mov (.k (.c TI (1 : Int))))])
    (.block 0 (.loop s_l8Cuts_L2 s_l8Cuts_b2)))
   s_l8Cuts_y1)))
def s_l8Cuts_rs : List (ARv × Md) := [(.t 4, .one (.o 3))]
theorem s_l8Cuts_st : compF Try.prog 188 = some (s_l8Cuts_c.er, s_l8Cuts_rs.map Prod.fst, 27) := by kernel_rfl
def s_l8Cuts_Q (K : TRes → Prop) : TPost := TQ 1 0 s_l8Cuts_rs K
def s_l8Cuts_q1 (K : TRes → Prop) : TPost := Qseq (tawp s_l8Cuts_G 1 s_l8Cuts_y1 (s_l8Cuts_Q K)) (s_l8Cuts_Q K)
def s_l8Cuts_q2 (K : TRes → Prop) : TPost := Qblk 0 (s_l8Cuts_q1 K)
def s_l8Cuts_A2 (K : TRes → Prop) (m : List TOp') (i : Int) (c0 : List Int) (c1 : Int) (c2 : Int) (out : List Int) : Prop := Loop s_l8Cuts_G 1 s_l8Cuts_L2 s_l8Cuts_b2 (s_l8Cuts_q2 K) ⟨[(0, (.p 0 0 0)), (3, (.p 1 0 0)), (5, (.r [TI] 2 0 out.length)), (6, (.c TI i))], [(0, (.box [(.c (.sl [(.int .u8)]) c0), (.c TI c1), (.c TI c2)])), (1, (.box [(.c (.sl ctOp) m)])), (2, (.sl 3 [TI] true out))], 3⟩
theorem s_l8Cuts_v2 (K : TRes → Prop) (m : List TOp') (i : Int) (c0 : List Int) (c1 : Int) (c2 : Int) (out : List Int) (h :
  (((decide (i < (m.length : Int))) = true → ((p_cur2 (c0, c1, c2) (2 : Int)) ∧ (((((e_once (c0, c1, c2) (2 : Int)).1) && (decide (((out.length : Nat) : Int) < (3 : Int)))) = true → (((out.length = out.length ∨ out.length + 1 ≤ out.length) ∧ out.length + 1 ≤ big) ∧ (s_l8Cuts_A2 K m (w64 (i + (1 : Int))) (((e_once (c0, c1, c2) (2 : Int)).2).1) (((e_once (c0, c1, c2) (2 : Int)).2).2.1) (((e_once (c0, c1, c2) (2 : Int)).2).2.2) (List.take (out.length + 1) ((List.take out.length out) ++ ([i])))))) ∧ ((((e_once (c0, c1, c2) (2 : Int)).1) && (decide (((out.length : Nat) : Int) < (3 : Int)))) = false → (s_l8Cuts_A2 K m (w64 (i + (1 : Int))) (((e_once (c0, c1, c2) (2 : Int)).2).1) (((e_once (c0, c1, c2) (2 : Int)).2).2.1) (((e_once (c0, c1, c2) (2 : Int)).2).2.2) (List.take out.length out)))))) ∧ ((decide (i < (m.length : Int))) = false → K (s_l8Cuts_R ((List.take out.length out), (c0, c1, c2)))))) : s_l8Cuts_A2 K m i c0 c1 c2 out :=
  Loop.of (by kernel_rfl) h
theorem s_l8Cuts_v0 (K : TRes → Prop) (c : ((List Int) × Int × Int)) (m : List TOp') (h :
  (s_l8Cuts_A2 K m (1 : Int) c.1 c.2.1 c.2.2 ([] : List Int))) : Hold (tawp s_l8Cuts_G (1 + 0) s_l8Cuts_c (TQ 1 0 s_l8Cuts_rs K) (tstart [(.bx [(.c (.sl [(.int .u8)]) c.1), (.c TI c.2.1), (.c TI c.2.2)]), (.a [(.c (.sl ctOp) m)])])) :=
  Hold.of (by kernel_rfl) h
theorem s_l8Cuts_t (c : ((List Int) × Int × Int)) (m : List TOp') (K : TRes → Prop) (h : Hold (tawp s_l8Cuts_G (1 + 0) s_l8Cuts_c (TQ 1 0 s_l8Cuts_rs K) (tstart [(.bx [(.c (.sl [(.int .u8)]) c.1), (.c TI c.2.1), (.c TI c.2.2)]), (.a [(.c (.sl ctOp) m)])]))) : ∃ r, K r ∧ TCon Try.prog 188 [(.bx [(.c (.sl [(.int .u8)]) c.1), (.c TI c.2.1), (.c TI c.2.2)]), (.a [(.c (.sl ctOp) m)])] r :=
  tcon_gen_ex (sg := [(.b [(.sl [(.int .u8)]), TI, TI]), (.a [(.sl ctOp)])]) mixed (TOk.cons s_l1Once_ok TOk.nil) s_l8Cuts_st (by kernel_rfl) (by kernel_rfl) (by kernel_rfl) (by kernel_rfl) h
theorem s_l8Cuts_ex (c : ((List Int) × Int × Int)) (m : List TOp') (hp : p_cuts c m) : ∃ t : (List Int) × (((List Int) × Int × Int)), (q_cuts c m t) ∧ TCon Try.prog 188 [(.bx [(.c (.sl [(.int .u8)]) c.1), (.c TI c.2.1), (.c TI c.2.2)]), (.a [(.c (.sl ctOp) m)])] (s_l8Cuts_R t) := by
  refine tex_of (s_l8Cuts_t c m _ (s_l8Cuts_v0 (fun r' => ∃ t, (q_cuts c m t) ∧ r' = s_l8Cuts_R t) c m ?_))
  obtain ⟨h1, h2⟩ := hp
  refine upLoop (m.length - 1) (fun k => ∀ (c0 : List Int) (c1 c2 : Int) (out : List Int), p_cur (c0, c1, c2) → cutsGo (k : Int) none out = true → out.length ≤ 3 → s_l8Cuts_A2 (fun r' => ∃ t, (q_cuts c m t) ∧ r' = s_l8Cuts_R t) m ((k : Int) + 1) c0 c1 c2 out) ?_ ?_ c.1 c.2.1 c.2.2 [] h1 rfl (by simp)
  · intro c0 c1 c2 out hc hg hl
    refine s_l8Cuts_v2 (fun r' => ∃ t, (q_cuts c m t) ∧ r' = s_l8Cuts_R t) m _ _ _ _ _ ⟨fun h => by simp at h; omega, fun _ => (leafP ⟨fun hm => ?_, ?_, hc⟩)⟩
    · have hm' := hm
      simp only [m_modelOk, Bool.and_eq_true, m_in_iff] at hm'
      simp only [List.take_length, m_cutsOk, hm, Bool.true_and]
      rw [show (m.length : Int) - 1 = ((m.length - 1 : Nat) : Int) by omega]
      exact hg
    · simp only [List.take_length]; exact hl
  · intro k hk ih c0 c1 c2 out hc hg hl
    have b := s_l1Once_post (c0, c1, c2) 2 hc
    have e : w64 ((k : Int) + 1 + 1) = ((k + 1 : Nat) : Int) + 1 := by rw [w64_ok (by omega) (by omega)]; omega
    refine s_l8Cuts_v2 (fun r' => ∃ t, (q_cuts c m t) ∧ r' = s_l8Cuts_R t) m _ _ _ _ _ ⟨fun _ => ⟨hc, fun h => ⟨⟨.inl rfl, by rw [big_eq]; omega⟩, ?_⟩, fun _ => ?_⟩, fun h => by simp at h; omega⟩
    · rw [take_app1, e]
      simp only [Bool.and_eq_true, decide_eq_true_eq] at h
      have hh := cuts_snoc (i := (k : Int) + 1) (by omega) out none (cuts_mono (by omega) _ _ hg) rfl
      refine ih _ _ _ _ b ?_ (by simp; omega)
      rw [show ((k + 1 : Nat) : Int) = (k : Int) + 1 by omega]
      exact hh
    · rw [List.take_length, e]
      exact ih _ _ _ _ b (cuts_mono (by omega) _ _ hg) hl
theorem s_l8Cuts_post (c : ((List Int) × Int × Int)) (m : List TOp') (hp : p_cuts c m) : q_cuts c m (e_cuts c m) := (Classical.epsilon_spec (s_l8Cuts_ex c m hp)).1
theorem s_l8Cuts_h : s_l8Cuts_C := by
  intro c m hp
  exact (Classical.epsilon_spec (s_l8Cuts_ex c m hp)).2

theorem s_l8Cuts_ok : TRowOk Try.prog s_l8Cuts_row := rowOk fun x h => s_l8Cuts_h x.1 x.2.1 h

def s_l8Any_R (t : (List Int) × (((List Int) × Int × Int))) : TRes := ⟨(.c (.sl [TI]) t.1), [], [[(.c (.sl [(.int .u8)]) t.2.1), (.c TI t.2.2.1), (.c TI t.2.2.2)]], true, []⟩
def e_anyCuts (x0 : ((List Int) × Int × Int)) (x1 : List TOp') : (List Int) × (((List Int) × Int × Int)) := Classical.epsilon fun t : (List Int) × (((List Int) × Int × Int)) => (q_anyCuts x0 x1 t) ∧ TCon Try.prog 132 [(.bx [(.c (.sl [(.int .u8)]) x0.1), (.c TI x0.2.1), (.c TI x0.2.2)]), (.a [(.c (.sl ctOp) x1)])] (s_l8Any_R t)
def s_l8Any_row : TRow := mkRow 132 [(.b [(.sl [(.int .u8)]), TI, TI]), (.a [(.sl ctOp)])] fun x => (some (p_cuts x.1 x.2.1), s_l8Any_R (e_anyCuts x.1 x.2.1))
def s_l8Any_C : Prop := ∀ (x0 : ((List Int) × Int × Int)) (x1 : List TOp'), (p_cuts x0 x1) → TCon Try.prog 132 [(.bx [(.c (.sl [(.int .u8)]) x0.1), (.c TI x0.2.1), (.c TI x0.2.2)]), (.a [(.c (.sl ctOp) x1)])] (s_l8Any_R (e_anyCuts x0 x1))

/-! spec.l8Any -/
def s_l8Any_G : List TRow := [s_l8Cuts_row, s_l1Once_row, s_l1Below_row]
def s_l8Any_c : TCode :=
  (.seq (.reg [.op (some 3) (.box 66 (.s 1) 1),
    .op (some 4) (.mov (.k (.n [TI])))])
 (.seq (.reg [.op (some 6) (.mov (.s 0)),
     .op (some 7) (.load (.s 3) 1 true),
     .op (some 8) (.call 188 [(.s 6), (.s 7)]),
     .op (some 5) (.mov (.s 8))])
  (.seq (.seq (.reg [.op (some 9) (.mov (.s 0)),
       .op (some 10) (.call 136 [(.s 9), (.k (.c TI (12 : Int)))])])
    (.cond (.s 10) (.reg [.op (some 11) (.mov (.s 5)),
        .op (some 12) (.mov (.s 0)),
        .op (some 13) (.call 116 [(.s 12), (.k (.c TI (9 : Int)))]),
        .op (some 14) (.bin .sub (.s 13) (.k (.c TI (1 : Int)))),
        .op (some 15) (.bsl 3 [TI] [(.s 14)]),
        .op (some 16) (.app (.s 11) (.s 15) 3 [TI]),
        .op (some 5) (.mov (.s 16))]) .skip))
   (.seq (.reg [.op (some 17) (.mov (.s 5)),
       .op (some 4) (.mov (.s 17))])
    .ret))))
def s_l8Any_rs : List (ARv × Md) := [(.t 4, .one .d)]
theorem s_l8Any_st : compF Try.prog 132 = some (s_l8Any_c.er, s_l8Any_rs.map Prod.fst, 18) := by kernel_rfl
def s_l8Any_Q (K : TRes → Prop) : TPost := TQ 1 0 s_l8Any_rs K
theorem s_l8Any_v0 (K : TRes → Prop) (c : ((List Int) × Int × Int)) (m : List TOp') (h :
  ((p_cuts c m) ∧ ((p_cur2 ((e_cuts c m).2) (12 : Int)) ∧ (((e_once ((e_cuts c m).2) (12 : Int)).1 = true → (((p_cur2 ((e_once ((e_cuts c m).2) (12 : Int)).2) (9 : Int)) ∧ ((((e_cuts c m).1).length = ((e_cuts c m).1).length ∨ ((e_cuts c m).1).length + 1 ≤ ((e_cuts c m).1).length) ∧ ((e_cuts c m).1).length + 1 ≤ big)) ∧ K (s_l8Any_R ((List.take (((e_cuts c m).1).length + 1) (List.drop 0 ((List.take (((e_cuts c m).1).length) ((e_cuts c m).1)) ++ ([w64 (((e_below ((e_once ((e_cuts c m).2) (12 : Int)).2) (9 : Int)).1) - (1 : Int))])))), ((e_below ((e_once ((e_cuts c m).2) (12 : Int)).2) (9 : Int)).2))))) ∧ ((e_once ((e_cuts c m).2) (12 : Int)).1 = false → K (s_l8Any_R ((List.take (((e_cuts c m).1).length) (List.drop 0 ((e_cuts c m).1))), ((e_once ((e_cuts c m).2) (12 : Int)).2)))))))) : Hold (tawp s_l8Any_G (1 + 0) s_l8Any_c (TQ 1 0 s_l8Any_rs K) (tstart [(.bx [(.c (.sl [(.int .u8)]) c.1), (.c TI c.2.1), (.c TI c.2.2)]), (.a [(.c (.sl ctOp) m)])])) :=
  Hold.of (by kernel_rfl) h
theorem s_l8Any_t (c : ((List Int) × Int × Int)) (m : List TOp') (K : TRes → Prop) (h : Hold (tawp s_l8Any_G (1 + 0) s_l8Any_c (TQ 1 0 s_l8Any_rs K) (tstart [(.bx [(.c (.sl [(.int .u8)]) c.1), (.c TI c.2.1), (.c TI c.2.2)]), (.a [(.c (.sl ctOp) m)])]))) : ∃ r, K r ∧ TCon Try.prog 132 [(.bx [(.c (.sl [(.int .u8)]) c.1), (.c TI c.2.1), (.c TI c.2.2)]), (.a [(.c (.sl ctOp) m)])] r :=
  tcon_gen_ex (sg := [(.b [(.sl [(.int .u8)]), TI, TI]), (.a [(.sl ctOp)])]) mixed (TOk.cons s_l8Cuts_ok (TOk.cons s_l1Once_ok (TOk.cons s_l1Below_ok TOk.nil))) s_l8Any_st (by kernel_rfl) (by kernel_rfl) (by kernel_rfl) (by kernel_rfl) h
theorem s_l8Any_ex (c : ((List Int) × Int × Int)) (m : List TOp') (hp : p_cuts c m) : ∃ t : (List Int) × (((List Int) × Int × Int)), (q_anyCuts c m t) ∧ TCon Try.prog 132 [(.bx [(.c (.sl [(.int .u8)]) c.1), (.c TI c.2.1), (.c TI c.2.2)]), (.a [(.c (.sl ctOp) m)])] (s_l8Any_R t) := by
  refine tex_of (s_l8Any_t c m _ (s_l8Any_v0 (fun r' => ∃ t, (q_anyCuts c m t) ∧ r' = s_l8Any_R t) c m ?_))
  have b1 := s_l8Cuts_post c m hp
  generalize e_cuts c m = r1 at b1 ⊢
  obtain ⟨k1, k2, k3⟩ := b1
  have b2 := s_l1Once_post r1.2 12 k3
  generalize e_once r1.2 12 = r2 at b2 ⊢
  refine ⟨hp, k3, fun _ => ⟨⟨b2, .inl rfl, by rw [big_eq]; omega⟩, leafP ⟨?_, (s_l1Below_post _ _ b2).2.2.2⟩⟩, fun _ => (leafP ⟨?_, b2⟩)⟩ <;> (simp; omega)
theorem s_l8Any_post (c : ((List Int) × Int × Int)) (m : List TOp') (hp : p_cuts c m) : q_anyCuts c m (e_anyCuts c m) := (Classical.epsilon_spec (s_l8Any_ex c m hp)).1
theorem s_l8Any_h : s_l8Any_C := by
  intro c m hp
  exact (Classical.epsilon_spec (s_l8Any_ex c m hp)).2

theorem s_l8Any_ok : TRowOk Try.prog s_l8Any_row := rowOk fun x h => s_l8Any_h x.1 x.2.1 h

def s_DrawCutsOk_R (t : (List TOp') × (List Int)) : TRes := ⟨(.tp [(.a [(.c (.sl ctOp) t.1)]), (.c (.sl [TI]) t.2)]), [], [], true, []⟩
def e_drawCutsOk (x0 : List Int) : (List TOp') × (List Int) := Classical.epsilon fun t : (List TOp') × (List Int) => (q_drawCutsOk x0 t) ∧ TCon Try.prog 46 [(.c (.sl [(.int .u8)]) x0)] (s_DrawCutsOk_R t)
def s_DrawCutsOk_row : TRow := mkRow 46 [(.c (.sl [(.int .u8)]))] fun x => (some (p_new x.1), s_DrawCutsOk_R (e_drawCutsOk x.1))
def s_DrawCutsOk_C : Prop := ∀ (x0 : List Int), (p_new x0) → TCon Try.prog 46 [(.c (.sl [(.int .u8)]) x0)] (s_DrawCutsOk_R (e_drawCutsOk x0))

/-! spec.DrawCutsOk -/
def s_DrawCutsOk_G : List TRow := [s_l1New_row, s_l6Any_row, s_l8Any_row]
def s_DrawCutsOk_c : TCode :=
  (.seq (.reg [.op (some 2) (.new 66 [(.n ctOp)]),
    .op (some 3) (.mov (.k (.n [TI])))])
 (.seq (.reg [.op (some 6) (.mov (.s 0)),
     .op (some 7) (.call 114 [(.s 6)]),
     .op (some 4) (.mov (.s 7))])
  (.seq (.reg [.op (some 8) (.mov (.s 4)),
      .op (some 9) (.call 131 [(.s 8)]),
      .op (some 5) (.new 66 [(.n ctOp)]),
      .op none (.store (.s 5) (.s 9) 1)])
   (.seq (.draw [.op (some 10) (.load (.s 5) 1 true),
       .op (some 11) (.mov (.s 4)),
       .op (some 12) (.load (.s 5) 1 true),
       .op (some 13) (.call 132 [(.s 11), (.s 12)]),
       .op none (.store (.s 2) (.s 10) 1),
       .op (some 3) (.mov (.s 13))] [(0, 3)])
    .ret))))
def s_DrawCutsOk_rs : List (ARv × Md) := [(.l 2 1 true, .b [.d]), (.t 3, .one .d)]
theorem s_DrawCutsOk_st : compF Try.prog 46 = some (s_DrawCutsOk_c.er, s_DrawCutsOk_rs.map Prod.fst, 14) := by kernel_rfl
def s_DrawCutsOk_Q (K : TRes → Prop) : TPost := TQ 0 0 s_DrawCutsOk_rs K
theorem s_DrawCutsOk_v0 (K : TRes → Prop) (code : List Int) (h :
  ((p_new code) ∧ ((p_cur (e_new code)) ∧ ((p_cuts ((e_anyModel (e_new code)).2) ((e_anyModel (e_new code)).1)) ∧ K (s_DrawCutsOk_R ((e_anyModel (e_new code)).1, (e_anyCuts ((e_anyModel (e_new code)).2) ((e_anyModel (e_new code)).1)).1)))))) : Hold (tawp s_DrawCutsOk_G (0 + 0) s_DrawCutsOk_c (TQ 0 0 s_DrawCutsOk_rs K) (tstart [(.c (.sl [(.int .u8)]) code)])) :=
  Hold.of (by kernel_rfl) h
theorem s_DrawCutsOk_t (code : List Int) (K : TRes → Prop) (h : Hold (tawp s_DrawCutsOk_G (0 + 0) s_DrawCutsOk_c (TQ 0 0 s_DrawCutsOk_rs K) (tstart [(.c (.sl [(.int .u8)]) code)]))) : ∃ r, K r ∧ TCon Try.prog 46 [(.c (.sl [(.int .u8)]) code)] r :=
  tcon_gen_ex (sg := [(.c (.sl [(.int .u8)]))]) mixed (TOk.cons s_l1New_ok (TOk.cons s_l6Any_ok (TOk.cons s_l8Any_ok TOk.nil))) s_DrawCutsOk_st (by kernel_rfl) (by kernel_rfl) (by kernel_rfl) (by kernel_rfl) h
theorem s_DrawCutsOk_ex (code : List Int) (hp : p_new code) : ∃ t : (List TOp') × (List Int), (q_drawCutsOk code t) ∧ TCon Try.prog 46 [(.c (.sl [(.int .u8)]) code)] (s_DrawCutsOk_R t) := by
  refine tex_of (s_DrawCutsOk_t code _ (s_DrawCutsOk_v0 (fun r' => ∃ t, (q_drawCutsOk code t) ∧ r' = s_DrawCutsOk_R t) code ?_))
  have b1 := s_l6Any_post _ (s_l1New_post code hp)
  have hc : p_cuts (e_anyModel (e_new code)).2 (e_anyModel (e_new code)).1 := ⟨b1.2, b1.1⟩
  exact ⟨hp, s_l1New_post code hp, hc, leafP b1.1⟩
theorem s_DrawCutsOk_post (code : List Int) (hp : p_new code) : q_drawCutsOk code (e_drawCutsOk code) := (Classical.epsilon_spec (s_DrawCutsOk_ex code hp)).1
theorem s_DrawCutsOk_h : s_DrawCutsOk_C := by
  intro code hp
  exact (Classical.epsilon_spec (s_DrawCutsOk_ex code hp)).2

theorem s_DrawCutsOk_ok : TRowOk Try.prog s_DrawCutsOk_row := rowOk fun x h => s_DrawCutsOk_h x.1 h

def s_DrawBestCuts_R (t : (List TOp') × Int) : TRes := ⟨(.tp [(.a [(.c (.sl ctOp) t.1)]), (.c TI t.2)]), [], [], true, []⟩
def e_drawBestCuts (x0 : List Int) : (List TOp') × Int := Classical.epsilon fun t : (List TOp') × Int => (q_drawBestCuts x0 t) ∧ TCon Try.prog 58 [(.c (.sl [(.int .u8)]) x0)] (s_DrawBestCuts_R t)
def s_DrawBestCuts_row : TRow := mkRow 58 [(.c (.sl [(.int .u8)]))] fun x => (some (p_new x.1), s_DrawBestCuts_R (e_drawBestCuts x.1))
def s_DrawBestCuts_C : Prop := ∀ (x0 : List Int), (p_new x0) → TCon Try.prog 58 [(.c (.sl [(.int .u8)]) x0)] (s_DrawBestCuts_R (e_drawBestCuts x0))

/-! spec.DrawBestCuts -/
def s_DrawBestCuts_G : List TRow := [s_l1New_row, s_l6Any_row, s_l1Below_row]
def s_DrawBestCuts_c : TCode :=
  (.seq (.reg [.op (some 2) (.new 66 [(.n ctOp)]),
    .op (some 3) (.mov (.k (.c TI (0 : Int))))])
 (.seq (.reg [.op (some 6) (.mov (.s 0)),
     .op (some 7) (.call 114 [(.s 6)]),
     .op (some 4) (.mov (.s 7))])
  (.seq (.reg [.op (some 8) (.mov (.s 4)),
      .op (some 9) (.call 131 [(.s 8)]),
      .op (some 5) (.new 66 [(.n ctOp)]),
      .op none (.store (.s 5) (.s 9) 1)])
   (.seq (.draw [.op (some 10) (.load (.s 5) 1 true),
       .op (some 11) (.mov (.s 4)),
       .op (some 12) (.call 116 [(.s 11), (.k (.c TI (6 : Int)))]),
       .op none (.store (.s 2) (.s 10) 1),
       .op (some 3) (.mov (.s 12))] [(0, 2)])
    .ret))))
def s_DrawBestCuts_rs : List (ARv × Md) := [(.l 2 1 true, .b [.d]), (.t 3, .one .d)]
theorem s_DrawBestCuts_st : compF Try.prog 58 = some (s_DrawBestCuts_c.er, s_DrawBestCuts_rs.map Prod.fst, 13) := by kernel_rfl
def s_DrawBestCuts_Q (K : TRes → Prop) : TPost := TQ 0 0 s_DrawBestCuts_rs K
theorem s_DrawBestCuts_v0 (K : TRes → Prop) (code : List Int) (h :
  ((p_new code) ∧ ((p_cur (e_new code)) ∧ ((p_cur2 ((e_anyModel (e_new code)).2) (6 : Int)) ∧ K (s_DrawBestCuts_R ((e_anyModel (e_new code)).1, (e_below ((e_anyModel (e_new code)).2) (6 : Int)).1)))))) : Hold (tawp s_DrawBestCuts_G (0 + 0) s_DrawBestCuts_c (TQ 0 0 s_DrawBestCuts_rs K) (tstart [(.c (.sl [(.int .u8)]) code)])) :=
  Hold.of (by kernel_rfl) h
theorem s_DrawBestCuts_t (code : List Int) (K : TRes → Prop) (h : Hold (tawp s_DrawBestCuts_G (0 + 0) s_DrawBestCuts_c (TQ 0 0 s_DrawBestCuts_rs K) (tstart [(.c (.sl [(.int .u8)]) code)]))) : ∃ r, K r ∧ TCon Try.prog 58 [(.c (.sl [(.int .u8)]) code)] r :=
  tcon_gen_ex (sg := [(.c (.sl [(.int .u8)]))]) mixed (TOk.cons s_l1New_ok (TOk.cons s_l6Any_ok (TOk.cons s_l1Below_ok TOk.nil))) s_DrawBestCuts_st (by kernel_rfl) (by kernel_rfl) (by kernel_rfl) (by kernel_rfl) h
theorem s_DrawBestCuts_ex (code : List Int) (hp : p_new code) : ∃ t : (List TOp') × Int, (q_drawBestCuts code t) ∧ TCon Try.prog 58 [(.c (.sl [(.int .u8)]) code)] (s_DrawBestCuts_R t) := by
  refine tex_of (s_DrawBestCuts_t code _ (s_DrawBestCuts_v0 (fun r' => ∃ t, (q_drawBestCuts code t) ∧ r' = s_DrawBestCuts_R t) code ?_))
  have b1 := s_l6Any_post _ (s_l1New_post code hp)
  exact ⟨hp, s_l1New_post code hp, b1.2, leafP b1.1⟩
theorem s_DrawBestCuts_post (code : List Int) (hp : p_new code) : q_drawBestCuts code (e_drawBestCuts code) := (Classical.epsilon_spec (s_DrawBestCuts_ex code hp)).1
theorem s_DrawBestCuts_h : s_DrawBestCuts_C := by
  intro code hp
  exact (Classical.epsilon_spec (s_DrawBestCuts_ex code hp)).2

theorem s_DrawBestCuts_ok : TRowOk Try.prog s_DrawBestCuts_row := rowOk fun x h => s_DrawBestCuts_h x.1 h

end
end Go.Proofs.Ytephkbajoofeoaa.Am
