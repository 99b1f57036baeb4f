/-
  Written by program: the code of functions, what it asks, and that it comes to what the models say.
-/
import Derived.Test.YtephkbajoofeoaaD1
import Derived.Test.YtephkbajoofeoaaPL
namespace Go.Proofs.Ytephkbajoofeoaa.Am
open Go Go.RowKit Go.Proofs.Ytephkbajoofeoaa
set_option linter.unusedVariables false
set_option linter.unusedSimpArgs false
set_option maxHeartbeats 2000000
noncomputable section

def s_l9Some_R (t : Int × Int × Int × Int × Bool × (((List Int) × Int × Int))) : TRes := ⟨(.tp [(.c TI t.1), (.c TI t.2.1), (.c TI t.2.2.1), (.c TI t.2.2.2.1), (.c .bool t.2.2.2.2.1)]), [], [[(.c (.sl [(.int .u8)]) t.2.2.2.2.2.1), (.c TI t.2.2.2.2.2.2.1), (.c TI t.2.2.2.2.2.2.2)]], true, []⟩
def e_some (x0 : ((List Int) × Int × Int)) : Int × Int × Int × Int × Bool × (((List Int) × Int × Int)) := Classical.epsilon fun t : Int × Int × Int × Int × Bool × (((List Int) × Int × Int)) => (q_some x0 t) ∧ TCon Try.prog 135 [(.bx [(.c (.sl [(.int .u8)]) x0.1), (.c TI x0.2.1), (.c TI x0.2.2)])] (s_l9Some_R t)
def s_l9Some_row : TRow := mkRow 135 [(.b [(.sl [(.int .u8)]), TI, TI])] fun x => (some (p_cur x.1), s_l9Some_R (e_some x.1))
def s_l9Some_C : Prop := ∀ (x0 : ((List Int) × Int × Int)), (p_cur x0) → TCon Try.prog 135 [(.bx [(.c (.sl [(.int .u8)]) x0.1), (.c TI x0.2.1), (.c TI x0.2.2)])] (s_l9Some_R (e_some x0))

/-! spec.l9Some -/
def s_l9Some_G : List TRow := [s_l1Below_row, s_l1Once_row, s_l1PickInt_row]
def s_l9Some_y1 : TCode :=
  (.seq (.reg [.op (some 49) (.mov (.s 7)),
    .op (some 50) (.mov (.s 8)),
    .op (some 51) (.mov (.s 9)),
    .op (some 52) (.mov (.s 10)),
    .op (some 53) (.mov (.s 11)),
    .op (some 2) (.mov (.s 49)),
    .op (some 3) (.mov (.s 50)),
    .op (some 4) (.mov (.s 51)),
    .op (some 5) (.mov (.s 52)),
    .op (some 6) (.mov (.s 53))])
 .ret)
def s_l9Some_L1 : List (Nat × Md) := [(7, .one .d), (8, .one .d), (9, .one .d), (10, .one .d), (11, .one .d)]
def s_l9Some_y1w : TCode := .wk s_l9Some_L1 s_l9Some_y1
def s_l9Some_c : TCode :=
  (.seq (.reg [.op (some 2) (.mov (.k (.c TI (0 : Int)))),
    .op (some 3) (.mov (.k (.c TI (0 : Int)))),
    .op (some 4) (.mov (.k (.c TI (0 : Int)))),
    .op (some 5) (.mov (.k (.c TI (0 : Int)))),
    .op (some 6) (.mov (.k (.c .bool false)))])
 (.seq (.reg [.op (some 12) (.mov (.s 0)),
     .op (some 13) (.call 116 [(.s 12), (.k (.c TI (2 : Int)))]),
     .op (some 14) (.bin .add (.k (.c TI (1 : Int))) (.s 13)),
     .op (some 7) (.mov (.s 14))])
  (.seq (.reg [.op (some 15) (.mov (.s 0)),
      .op (some 16) (.call 116 [(.s 15), (.k (.c TI (4 : Int)))]),
      .op (some 17) (.bin .add (.k (.c TI (1 : Int))) (.s 16)),
      .op (some 8) (.mov (.s 17))])
   (.seq (.reg [.op (some 18) (.mov (.s 0)),
       .op (some 19) (.mov (.s 8)),
       .op (some 20) (.call 116 [(.s 18), (.s 19)]),
       .op (some 9) (.mov (.s 20))])
    (.seq (.reg [.op (some 21) (.mov (.s 0)),
        .op (some 22) (.call 116 [(.s 21), (.k (.c TI (5 : Int)))]),
        .op (some 23) (.bin .add (.k (.c TI (1 : Int))) (.s 22)),
        .op (some 10) (.mov (.s 23))])
     (.seq (.reg [.op (some 24) (.mov (.s 0)),
         .op (some 25) (.call 136 [(.s 24), (.k (.c TI (2 : Int)))]),
         .op (some 11) (.mov (.s 25))])
      (.seq (.seq (.reg [.op (some 26) (.mov (.s 0)),
           .op (some 27) (.call 116 [(.s 26), (.k (.c TI (16 : Int)))])])
        (.block 0 (.seq (.reg [.op (some 29) (.bin .eql (.s 27) (.k (.c TI (0 : Int)))),
             .op (some 28) (.mov (.s 29))])
          (.cond (.s 28) (.reg [.op (some 30) (.mov (.s 0)),
              .op (some 31) (.bsl 3 [TI] [(.k (.c TI (0 : Int))), (.k (.c TI (3 : Int)))]),
              .op (some 32) (.call 182 [(.s 30), (.s 31)]),
              .op (some 7) (.mov (.s 32))]) (.seq (.reg [.op (some 34) (.bin .eql (.s 27) (.k (.c TI (1 : Int)))),
               .op (some 33) (.mov (.s 34))])
            (.cond (.s 33) (.reg [.op (some 35) (.mov (.s 0)),
                .op (some 36) (.bsl 3 [TI] [(.k (.c TI (0 : Int))), (.k (.c TI (5 : Int)))]),
                .op (some 37) (.call 182 [(.s 35), (.s 36)]),
                .op (some 8) (.mov (.s 37))]) (.seq (.reg [.op (some 39) (.bin .eql (.s 27) (.k (.c TI (2 : Int)))),
                 .op (some 38) (.mov (.s 39))])
              (.cond (.s 38) (.reg [.op (some 40) (.mov (.s 0)),
                  .op (some 41) (.mov (.s 8)),
                  .op (some 42) (.bsl 3 [TI] [(.k (.c TI (-1 : Int))), (.s 41)]),
                  .op (some 43) (.call 182 [(.s 40), (.s 42)]),
                  .op (some 9) (.mov (.s 43))]) (.seq (.reg [.op (some 45) (.bin .eql (.s 27) (.k (.c TI (3 : Int)))),
                   .op (some 44) (.mov (.s 45))])
                (.cond (.s 44) (.reg [.op (some 46) (.mov (.s 0)),
                    .op (some 47) (.bsl 3 [TI] [(.k (.c TI (0 : Int))), (.k (.c TI (6 : Int)))]),
                    .op (some 48) (.call 182 [(.s 46), (.s 47)]),
                    .op (some 10) (.mov (.s 48))]) .skip))))))))))
       s_l9Some_y1w)))))))
def s_l9Some_rs : List (ARv × Md) := [(.t 2, .one .d), (.t 3, .one .d), (.t 4, .one .d), (.t 5, .one .d), (.t 6, .one .d)]
theorem s_l9Some_st : compF Try.prog 135 = some (s_l9Some_c.er, s_l9Some_rs.map Prod.fst, 54) := by kernel_rfl
def s_l9Some_Q (K : TRes → Prop) : TPost := TQ 1 0 s_l9Some_rs K
def s_l9Some_A1 (K : TRes → Prop) (c : ((List Int) × Int × Int)) (ds : Int) (st : Int) (s : Int) (m : Int) (y : List Int) (y1 : Int) (y2 : Int) : Prop := tawp s_l9Some_G 1 s_l9Some_y1 (s_l9Some_Q K) ⟨[(7, (.c TI ds)), (8, (.c TI st)), (9, (.c TI s)), (10, (.c TI m)), (11, (.c .bool ((e_once ((e_below ((e_below ((e_below ((e_below c (2 : Int)).2) (4 : Int)).2) (w64 ((1 : Int) + ((e_below ((e_below c (2 : Int)).2) (4 : Int)).1)))).2) (5 : Int)).2) (2 : Int)).1)))], [(0, (.box [(.c (.sl [(.int .u8)]) y), (.c TI y1), (.c TI y2)]))], 1⟩
theorem s_l9Some_v1 (K : TRes → Prop) (c : ((List Int) × Int × Int)) (ds : Int) (st : Int) (s : Int) (m : Int) (y : List Int) (y1 : Int) (y2 : Int) (h :
  K (s_l9Some_R (ds, st, s, m, (e_once ((e_below ((e_below ((e_below ((e_below c (2 : Int)).2) (4 : Int)).2) (w64 ((1 : Int) + ((e_below ((e_below c (2 : Int)).2) (4 : Int)).1)))).2) (5 : Int)).2) (2 : Int)).1, (y, y1, y2)))) : Hold (s_l9Some_A1 K c ds st s m y y1 y2) :=
  Hold.of (by kernel_rfl) h
theorem s_l9Some_v0 (K : TRes → Prop) (c : ((List Int) × Int × Int)) (h :
  ((p_cur2 c (2 : Int)) ∧ ((p_cur2 ((e_below c (2 : Int)).2) (4 : Int)) ∧ ((p_cur2 ((e_below ((e_below c (2 : Int)).2) (4 : Int)).2) (w64 ((1 : Int) + ((e_below ((e_below c (2 : Int)).2) (4 : Int)).1)))) ∧ ((p_cur2 ((e_below ((e_below ((e_below c (2 : Int)).2) (4 : Int)).2) (w64 ((1 : Int) + ((e_below ((e_below c (2 : Int)).2) (4 : Int)).1)))).2) (5 : Int)) ∧ ((p_cur2 ((e_below ((e_below ((e_below ((e_below c (2 : Int)).2) (4 : Int)).2) (w64 ((1 : Int) + ((e_below ((e_below c (2 : Int)).2) (4 : Int)).1)))).2) (5 : Int)).2) (2 : Int)) ∧ ((p_cur2 ((e_once ((e_below ((e_below ((e_below ((e_below c (2 : Int)).2) (4 : Int)).2) (w64 ((1 : Int) + ((e_below ((e_below c (2 : Int)).2) (4 : Int)).1)))).2) (5 : Int)).2) (2 : Int)).2) (16 : Int)) ∧ (((((e_below ((e_once ((e_below ((e_below ((e_below ((e_below c (2 : Int)).2) (4 : Int)).2) (w64 ((1 : Int) + ((e_below ((e_below c (2 : Int)).2) (4 : Int)).1)))).2) (5 : Int)).2) (2 : Int)).2) (16 : Int)).1) == (0 : Int)) = true → ((p_pickInt ((e_below ((e_once ((e_below ((e_below ((e_below ((e_below c (2 : Int)).2) (4 : Int)).2) (w64 ((1 : Int) + ((e_below ((e_below c (2 : Int)).2) (4 : Int)).1)))).2) (5 : Int)).2) (2 : Int)).2) (16 : Int)).2) ([(0 : Int), (3 : Int)])) ∧ (s_l9Some_A1 K c ((e_pickInt ((e_below ((e_once ((e_below ((e_below ((e_below ((e_below c (2 : Int)).2) (4 : Int)).2) (w64 ((1 : Int) + ((e_below ((e_below c (2 : Int)).2) (4 : Int)).1)))).2) (5 : Int)).2) (2 : Int)).2) (16 : Int)).2) ([(0 : Int), (3 : Int)])).1) (w64 ((1 : Int) + ((e_below ((e_below c (2 : Int)).2) (4 : Int)).1))) ((e_below ((e_below ((e_below c (2 : Int)).2) (4 : Int)).2) (w64 ((1 : Int) + ((e_below ((e_below c (2 : Int)).2) (4 : Int)).1)))).1) (w64 ((1 : Int) + ((e_below ((e_below ((e_below ((e_below c (2 : Int)).2) (4 : Int)).2) (w64 ((1 : Int) + ((e_below ((e_below c (2 : Int)).2) (4 : Int)).1)))).2) (5 : Int)).1))) (((e_pickInt ((e_below ((e_once ((e_below ((e_below ((e_below ((e_below c (2 : Int)).2) (4 : Int)).2) (w64 ((1 : Int) + ((e_below ((e_below c (2 : Int)).2) (4 : Int)).1)))).2) (5 : Int)).2) (2 : Int)).2) (16 : Int)).2) ([(0 : Int), (3 : Int)])).2).1) (((e_pickInt ((e_below ((e_once ((e_below ((e_below ((e_below ((e_below c (2 : Int)).2) (4 : Int)).2) (w64 ((1 : Int) + ((e_below ((e_below c (2 : Int)).2) (4 : Int)).1)))).2) (5 : Int)).2) (2 : Int)).2) (16 : Int)).2) ([(0 : Int), (3 : Int)])).2).2.1) (((e_pickInt ((e_below ((e_once ((e_below ((e_below ((e_below ((e_below c (2 : Int)).2) (4 : Int)).2) (w64 ((1 : Int) + ((e_below ((e_below c (2 : Int)).2) (4 : Int)).1)))).2) (5 : Int)).2) (2 : Int)).2) (16 : Int)).2) ([(0 : Int), (3 : Int)])).2).2.2)))) ∧ ((((e_below ((e_once ((e_below ((e_below ((e_below ((e_below c (2 : Int)).2) (4 : Int)).2) (w64 ((1 : Int) + ((e_below ((e_below c (2 : Int)).2) (4 : Int)).1)))).2) (5 : Int)).2) (2 : Int)).2) (16 : Int)).1) == (0 : Int)) = false → (((((e_below ((e_once ((e_below ((e_below ((e_below ((e_below c (2 : Int)).2) (4 : Int)).2) (w64 ((1 : Int) + ((e_below ((e_below c (2 : Int)).2) (4 : Int)).1)))).2) (5 : Int)).2) (2 : Int)).2) (16 : Int)).1) == (1 : Int)) = true → ((p_pickInt ((e_below ((e_once ((e_below ((e_below ((e_below ((e_below c (2 : Int)).2) (4 : Int)).2) (w64 ((1 : Int) + ((e_below ((e_below c (2 : Int)).2) (4 : Int)).1)))).2) (5 : Int)).2) (2 : Int)).2) (16 : Int)).2) ([(0 : Int), (5 : Int)])) ∧ (s_l9Some_A1 K c (w64 ((1 : Int) + ((e_below c (2 : Int)).1))) ((e_pickInt ((e_below ((e_once ((e_below ((e_below ((e_below ((e_below c (2 : Int)).2) (4 : Int)).2) (w64 ((1 : Int) + ((e_below ((e_below c (2 : Int)).2) (4 : Int)).1)))).2) (5 : Int)).2) (2 : Int)).2) (16 : Int)).2) ([(0 : Int), (5 : Int)])).1) ((e_below ((e_below ((e_below c (2 : Int)).2) (4 : Int)).2) (w64 ((1 : Int) + ((e_below ((e_below c (2 : Int)).2) (4 : Int)).1)))).1) (w64 ((1 : Int) + ((e_below ((e_below ((e_below ((e_below c (2 : Int)).2) (4 : Int)).2) (w64 ((1 : Int) + ((e_below ((e_below c (2 : Int)).2) (4 : Int)).1)))).2) (5 : Int)).1))) (((e_pickInt ((e_below ((e_once ((e_below ((e_below ((e_below ((e_below c (2 : Int)).2) (4 : Int)).2) (w64 ((1 : Int) + ((e_below ((e_below c (2 : Int)).2) (4 : Int)).1)))).2) (5 : Int)).2) (2 : Int)).2) (16 : Int)).2) ([(0 : Int), (5 : Int)])).2).1) (((e_pickInt ((e_below ((e_once ((e_below ((e_below ((e_below ((e_below c (2 : Int)).2) (4 : Int)).2) (w64 ((1 : Int) + ((e_below ((e_below c (2 : Int)).2) (4 : Int)).1)))).2) (5 : Int)).2) (2 : Int)).2) (16 : Int)).2) ([(0 : Int), (5 : Int)])).2).2.1) (((e_pickInt ((e_below ((e_once ((e_below ((e_below ((e_below ((e_below c (2 : Int)).2) (4 : Int)).2) (w64 ((1 : Int) + ((e_below ((e_below c (2 : Int)).2) (4 : Int)).1)))).2) (5 : Int)).2) (2 : Int)).2) (16 : Int)).2) ([(0 : Int), (5 : Int)])).2).2.2)))) ∧ ((((e_below ((e_once ((e_below ((e_below ((e_below ((e_below c (2 : Int)).2) (4 : Int)).2) (w64 ((1 : Int) + ((e_below ((e_below c (2 : Int)).2) (4 : Int)).1)))).2) (5 : Int)).2) (2 : Int)).2) (16 : Int)).1) == (1 : Int)) = false → (((((e_below ((e_once ((e_below ((e_below ((e_below ((e_below c (2 : Int)).2) (4 : Int)).2) (w64 ((1 : Int) + ((e_below ((e_below c (2 : Int)).2) (4 : Int)).1)))).2) (5 : Int)).2) (2 : Int)).2) (16 : Int)).1) == (2 : Int)) = true → ((p_pickInt ((e_below ((e_once ((e_below ((e_below ((e_below ((e_below c (2 : Int)).2) (4 : Int)).2) (w64 ((1 : Int) + ((e_below ((e_below c (2 : Int)).2) (4 : Int)).1)))).2) (5 : Int)).2) (2 : Int)).2) (16 : Int)).2) ([(-1 : Int), w64 ((1 : Int) + ((e_below ((e_below c (2 : Int)).2) (4 : Int)).1))])) ∧ (s_l9Some_A1 K c (w64 ((1 : Int) + ((e_below c (2 : Int)).1))) (w64 ((1 : Int) + ((e_below ((e_below c (2 : Int)).2) (4 : Int)).1))) ((e_pickInt ((e_below ((e_once ((e_below ((e_below ((e_below ((e_below c (2 : Int)).2) (4 : Int)).2) (w64 ((1 : Int) + ((e_below ((e_below c (2 : Int)).2) (4 : Int)).1)))).2) (5 : Int)).2) (2 : Int)).2) (16 : Int)).2) ([(-1 : Int), w64 ((1 : Int) + ((e_below ((e_below c (2 : Int)).2) (4 : Int)).1))])).1) (w64 ((1 : Int) + ((e_below ((e_below ((e_below ((e_below c (2 : Int)).2) (4 : Int)).2) (w64 ((1 : Int) + ((e_below ((e_below c (2 : Int)).2) (4 : Int)).1)))).2) (5 : Int)).1))) (((e_pickInt ((e_below ((e_once ((e_below ((e_below ((e_below ((e_below c (2 : Int)).2) (4 : Int)).2) (w64 ((1 : Int) + ((e_below ((e_below c (2 : Int)).2) (4 : Int)).1)))).2) (5 : Int)).2) (2 : Int)).2) (16 : Int)).2) ([(-1 : Int), w64 ((1 : Int) + ((e_below ((e_below c (2 : Int)).2) (4 : Int)).1))])).2).1) (((e_pickInt ((e_below ((e_once ((e_below ((e_below ((e_below ((e_below c (2 : Int)).2) (4 : Int)).2) (w64 ((1 : Int) + ((e_below ((e_below c (2 : Int)).2) (4 : Int)).1)))).2) (5 : Int)).2) (2 : Int)).2) (16 : Int)).2) ([(-1 : Int), w64 ((1 : Int) + ((e_below ((e_below c (2 : Int)).2) (4 : Int)).1))])).2).2.1) (((e_pickInt ((e_below ((e_once ((e_below ((e_below ((e_below ((e_below c (2 : Int)).2) (4 : Int)).2) (w64 ((1 : Int) + ((e_below ((e_below c (2 : Int)).2) (4 : Int)).1)))).2) (5 : Int)).2) (2 : Int)).2) (16 : Int)).2) ([(-1 : Int), w64 ((1 : Int) + ((e_below ((e_below c (2 : Int)).2) (4 : Int)).1))])).2).2.2)))) ∧ ((((e_below ((e_once ((e_below ((e_below ((e_below ((e_below c (2 : Int)).2) (4 : Int)).2) (w64 ((1 : Int) + ((e_below ((e_below c (2 : Int)).2) (4 : Int)).1)))).2) (5 : Int)).2) (2 : Int)).2) (16 : Int)).1) == (2 : Int)) = false → (((((e_below ((e_once ((e_below ((e_below ((e_below ((e_below c (2 : Int)).2) (4 : Int)).2) (w64 ((1 : Int) + ((e_below ((e_below c (2 : Int)).2) (4 : Int)).1)))).2) (5 : Int)).2) (2 : Int)).2) (16 : Int)).1) == (3 : Int)) = true → ((p_pickInt ((e_below ((e_once ((e_below ((e_below ((e_below ((e_below c (2 : Int)).2) (4 : Int)).2) (w64 ((1 : Int) + ((e_below ((e_below c (2 : Int)).2) (4 : Int)).1)))).2) (5 : Int)).2) (2 : Int)).2) (16 : Int)).2) ([(0 : Int), (6 : Int)])) ∧ (s_l9Some_A1 K c (w64 ((1 : Int) + ((e_below c (2 : Int)).1))) (w64 ((1 : Int) + ((e_below ((e_below c (2 : Int)).2) (4 : Int)).1))) ((e_below ((e_below ((e_below c (2 : Int)).2) (4 : Int)).2) (w64 ((1 : Int) + ((e_below ((e_below c (2 : Int)).2) (4 : Int)).1)))).1) ((e_pickInt ((e_below ((e_once ((e_below ((e_below ((e_below ((e_below c (2 : Int)).2) (4 : Int)).2) (w64 ((1 : Int) + ((e_below ((e_below c (2 : Int)).2) (4 : Int)).1)))).2) (5 : Int)).2) (2 : Int)).2) (16 : Int)).2) ([(0 : Int), (6 : Int)])).1) (((e_pickInt ((e_below ((e_once ((e_below ((e_below ((e_below ((e_below c (2 : Int)).2) (4 : Int)).2) (w64 ((1 : Int) + ((e_below ((e_below c (2 : Int)).2) (4 : Int)).1)))).2) (5 : Int)).2) (2 : Int)).2) (16 : Int)).2) ([(0 : Int), (6 : Int)])).2).1) (((e_pickInt ((e_below ((e_once ((e_below ((e_below ((e_below ((e_below c (2 : Int)).2) (4 : Int)).2) (w64 ((1 : Int) + ((e_below ((e_below c (2 : Int)).2) (4 : Int)).1)))).2) (5 : Int)).2) (2 : Int)).2) (16 : Int)).2) ([(0 : Int), (6 : Int)])).2).2.1) (((e_pickInt ((e_below ((e_once ((e_below ((e_below ((e_below ((e_below c (2 : Int)).2) (4 : Int)).2) (w64 ((1 : Int) + ((e_below ((e_below c (2 : Int)).2) (4 : Int)).1)))).2) (5 : Int)).2) (2 : Int)).2) (16 : Int)).2) ([(0 : Int), (6 : Int)])).2).2.2)))) ∧ ((((e_below ((e_once ((e_below ((e_below ((e_below ((e_below c (2 : Int)).2) (4 : Int)).2) (w64 ((1 : Int) + ((e_below ((e_below c (2 : Int)).2) (4 : Int)).1)))).2) (5 : Int)).2) (2 : Int)).2) (16 : Int)).1) == (3 : Int)) = false → (s_l9Some_A1 K c (w64 ((1 : Int) + ((e_below c (2 : Int)).1))) (w64 ((1 : Int) + ((e_below ((e_below c (2 : Int)).2) (4 : Int)).1))) ((e_below ((e_below ((e_below c (2 : Int)).2) (4 : Int)).2) (w64 ((1 : Int) + ((e_below ((e_below c (2 : Int)).2) (4 : Int)).1)))).1) (w64 ((1 : Int) + ((e_below ((e_below ((e_below ((e_below c (2 : Int)).2) (4 : Int)).2) (w64 ((1 : Int) + ((e_below ((e_below c (2 : Int)).2) (4 : Int)).1)))).2) (5 : Int)).1))) (((e_below ((e_once ((e_below ((e_below ((e_below ((e_below c (2 : Int)).2) (4 : Int)).2) (w64 ((1 : Int) + ((e_below ((e_below c (2 : Int)).2) (4 : Int)).1)))).2) (5 : Int)).2) (2 : Int)).2) (16 : Int)).2).1) (((e_below ((e_once ((e_below ((e_below ((e_below ((e_below c (2 : Int)).2) (4 : Int)).2) (w64 ((1 : Int) + ((e_below ((e_below c (2 : Int)).2) (4 : Int)).1)))).2) (5 : Int)).2) (2 : Int)).2) (16 : Int)).2).2.1) (((e_below ((e_once ((e_below ((e_below ((e_below ((e_below c (2 : Int)).2) (4 : Int)).2) (w64 ((1 : Int) + ((e_below ((e_below c (2 : Int)).2) (4 : Int)).1)))).2) (5 : Int)).2) (2 : Int)).2) (16 : Int)).2).2.2))))))))))))))))) : Hold (tawp s_l9Some_G (1 + 0) s_l9Some_c (TQ 1 0 s_l9Some_rs K) (tstart [(.bx [(.c (.sl [(.int .u8)]) c.1), (.c TI c.2.1), (.c TI c.2.2)])])) :=
  Hold.of (by kernel_rfl) h
theorem s_l9Some_t (c : ((List Int) × Int × Int)) (K : TRes → Prop) (h : Hold (tawp s_l9Some_G (1 + 0) s_l9Some_c (TQ 1 0 s_l9Some_rs K) (tstart [(.bx [(.c (.sl [(.int .u8)]) c.1), (.c TI c.2.1), (.c TI c.2.2)])]))) : ∃ r, K r ∧ TCon Try.prog 135 [(.bx [(.c (.sl [(.int .u8)]) c.1), (.c TI c.2.1), (.c TI c.2.2)])] r :=
  tcon_gen_ex (sg := [(.b [(.sl [(.int .u8)]), TI, TI])]) mixed (TOk.cons s_l1Below_ok (TOk.cons s_l1Once_ok (TOk.cons s_l1PickInt_ok TOk.nil))) s_l9Some_st (by kernel_rfl) (by kernel_rfl) (by kernel_rfl) (by kernel_rfl) h
theorem s_l9Some_ex (c : ((List Int) × Int × Int)) (hp : p_cur c) : ∃ t : Int × Int × Int × Int × Bool × (((List Int) × Int × Int)), (q_some c t) ∧ TCon Try.prog 135 [(.bx [(.c (.sl [(.int .u8)]) c.1), (.c TI c.2.1), (.c TI c.2.2)])] (s_l9Some_R t) := by
  refine tex_of (s_l9Some_t c _ (s_l9Some_v0 (fun r' => ∃ t, (q_some c t) ∧ r' = s_l9Some_R t) c ?_))
  have key : ∀ (ds st s m : Int) (t : TCur), p_cur t → s_l9Some_A1 (fun r' => ∃ t, (q_some c t) ∧ r' = s_l9Some_R t) c ds st s m t.1 t.2.1 t.2.2 := fun ds st s m t h => (s_l9Some_v1 (fun r' => ∃ t, (q_some c t) ∧ r' = s_l9Some_R t) c ds st s m t.1 t.2.1 t.2.2 (leafP h)).h
  have b1 := (s_l1Below_post c 2 hp).2.2.2
  generalize e_below c 2 = r1 at b1 key ⊢
  have b2 := (s_l1Below_post r1.2 4 b1).2.2.2
  generalize e_below r1.2 4 = r2 at b2 key ⊢
  have b3 := (s_l1Below_post r2.2 (w64 (1 + r2.1)) b2).2.2.2
  generalize e_below r2.2 (w64 (1 + r2.1)) = r3 at b3 key ⊢
  have b4 := (s_l1Below_post r3.2 5 b3).2.2.2
  generalize e_below r3.2 5 = r4 at b4 key ⊢
  have b5 := s_l1Once_post r4.2 2 b4
  generalize e_once r4.2 2 = r5 at b5 key ⊢
  have b6 := (s_l1Below_post r5.2 16 b5).2.2.2
  generalize e_below r5.2 16 = r6 at b6 key ⊢
  have hpk : ∀ l : List Int, 1 ≤ l.length → l.length ≤ 100 → p_pickInt r6.2 l := fun l h1 h2 => ⟨b6, h1, h2⟩
  have hpc : ∀ l : List Int, 1 ≤ l.length → l.length ≤ 100 → p_cur (e_pickInt r6.2 l).2 := fun l h1 h2 => (s_l1PickInt_post r6.2 l ⟨b6, h1, h2⟩).2
  refine ⟨hp, b1, b2, b3, b4, b5, ?_⟩
  refine ⟨fun _ => ⟨hpk _ (by simp) (by simp), ?_⟩, fun _ => ?_⟩
  · exact key _ _ _ _ (e_pickInt r6.2 [0, 3]).2 (hpc _ (by simp) (by simp))
  refine ⟨fun _ => ⟨hpk _ (by simp) (by simp), ?_⟩, fun _ => ?_⟩
  · exact key _ _ _ _ (e_pickInt r6.2 [0, 5]).2 (hpc _ (by simp) (by simp))
  refine ⟨fun _ => ⟨hpk _ (by simp) (by simp), ?_⟩, fun _ => ?_⟩
  · exact key _ _ _ _ (e_pickInt r6.2 [-1, w64 (1 + r2.1)]).2 (hpc _ (by simp) (by simp))
  refine ⟨fun _ => ⟨hpk _ (by simp) (by simp), ?_⟩, fun _ => ?_⟩
  · exact key _ _ _ _ (e_pickInt r6.2 [0, 6]).2 (hpc _ (by simp) (by simp))
  exact key _ _ _ _ r6.2 b6
theorem s_l9Some_post (c : ((List Int) × Int × Int)) (hp : p_cur c) : q_some c (e_some c) := (Classical.epsilon_spec (s_l9Some_ex c hp)).1
theorem s_l9Some_h : s_l9Some_C := by
  intro c hp
  exact (Classical.epsilon_spec (s_l9Some_ex c hp)).2

theorem s_l9Some_ok : TRowOk Try.prog s_l9Some_row := rowOk fun x h => s_l9Some_h x.1 h

def s_DrawPlan_R (t : Int × Int × Int × Int × Bool) : TRes := ⟨(.tp [(.c TI t.1), (.c TI t.2.1), (.c TI t.2.2.1), (.c TI t.2.2.2.1), (.c .bool t.2.2.2.2)]), [], [], false, []⟩
def e_drawPlan (x0 : List Int) : Int × Int × Int × Int × Bool := Classical.epsilon fun t : Int × Int × Int × Int × Bool => (q_drawPlan x0 t) ∧ TCon Try.prog 53 [(.c (.sl [(.int .u8)]) x0)] (s_DrawPlan_R t)
def s_DrawPlan_row : TRow := mkRow 53 [(.c (.sl [(.int .u8)]))] fun x => (some (p_new x.1), s_DrawPlan_R (e_drawPlan x.1))
def s_DrawPlan_C : Prop := ∀ (x0 : List Int), (p_new x0) → TCon Try.prog 53 [(.c (.sl [(.int .u8)]) x0)] (s_DrawPlan_R (e_drawPlan x0))

/-! spec.DrawPlan -/
def s_DrawPlan_G : List TRow := [s_l1New_row, s_l9Some_row]
def s_DrawPlan_c : TCode :=
  (.seq (.reg [.op (some 2) (.mov (.k (.c TI (0 : Int)))),
    .op (some 3) (.mov (.k (.c TI (0 : Int)))),
    .op (some 4) (.mov (.k (.c TI (0 : Int)))),
    .op (some 5) (.mov (.k (.c TI (0 : Int)))),
    .op (some 6) (.mov (.k (.c .bool false)))])
 (.seq (.reg [.op (some 7) (.mov (.s 0)),
     .op (some 8) (.call 114 [(.s 7)]),
     .op (some 9) (.call 135 [(.s 8)]),
     .op (some 10) (.ext (.s 9) 0),
     .op (some 11) (.ext (.s 9) 1),
     .op (some 12) (.ext (.s 9) 2),
     .op (some 13) (.ext (.s 9) 3),
     .op (some 14) (.ext (.s 9) 4),
     .op (some 2) (.mov (.s 10)),
     .op (some 3) (.mov (.s 11)),
     .op (some 4) (.mov (.s 12)),
     .op (some 5) (.mov (.s 13)),
     .op (some 6) (.mov (.s 14))])
  .ret))
def s_DrawPlan_rs : List (ARv × Md) := [(.t 2, .one .d), (.t 3, .one .d), (.t 4, .one .d), (.t 5, .one .d), (.t 6, .one .d)]
theorem s_DrawPlan_st : compF Try.prog 53 = some (s_DrawPlan_c.er, s_DrawPlan_rs.map Prod.fst, 15) := by kernel_rfl
def s_DrawPlan_Q (K : TRes → Prop) : TPost := TQ 0 0 s_DrawPlan_rs K
theorem s_DrawPlan_v0 (K : TRes → Prop) (code : List Int) (h :
  (((p_new code) ∧ (p_cur (e_new code))) ∧ K (s_DrawPlan_R ((e_some (e_new code)).1, (e_some (e_new code)).2.1, (e_some (e_new code)).2.2.1, (e_some (e_new code)).2.2.2.1, (e_some (e_new code)).2.2.2.2.1)))) : Hold (tawp s_DrawPlan_G (0 + 0) s_DrawPlan_c (TQ 0 0 s_DrawPlan_rs K) (tstart [(.c (.sl [(.int .u8)]) code)])) :=
  Hold.of (by kernel_rfl) h
theorem s_DrawPlan_t (code : List Int) (K : TRes → Prop) (h : Hold (tawp s_DrawPlan_G (0 + 0) s_DrawPlan_c (TQ 0 0 s_DrawPlan_rs K) (tstart [(.c (.sl [(.int .u8)]) code)]))) : ∃ r, K r ∧ TCon Try.prog 53 [(.c (.sl [(.int .u8)]) code)] r :=
  tcon_gen_ex (sg := [(.c (.sl [(.int .u8)]))]) mixed (TOk.cons s_l1New_ok (TOk.cons s_l9Some_ok TOk.nil)) s_DrawPlan_st (by kernel_rfl) (by kernel_rfl) (by kernel_rfl) (by kernel_rfl) h
theorem s_DrawPlan_ex (code : List Int) (hp : p_new code) : ∃ t : Int × Int × Int × Int × Bool, (q_drawPlan code t) ∧ TCon Try.prog 53 [(.c (.sl [(.int .u8)]) code)] (s_DrawPlan_R t) := by
  refine tex_of (s_DrawPlan_t code _ (s_DrawPlan_v0 (fun r' => ∃ t, (q_drawPlan code t) ∧ r' = s_DrawPlan_R t) code ?_))
  exact ⟨⟨hp, s_l1New_post code hp⟩, leafP (trivial)⟩
theorem s_DrawPlan_post (code : List Int) (hp : p_new code) : q_drawPlan code (e_drawPlan code) := (Classical.epsilon_spec (s_DrawPlan_ex code hp)).1
theorem s_DrawPlan_h : s_DrawPlan_C := by
  intro code hp
  exact (Classical.epsilon_spec (s_DrawPlan_ex code hp)).2

theorem s_DrawPlan_ok : TRowOk Try.prog s_DrawPlan_row := rowOk fun x h => s_DrawPlan_h x.1 h

def s_DrawPlanOk_R (t : (List TIns) × Int × Int × Int × Bool) : TRes := ⟨(.tp [(.c (.sl ctIns) t.1), (.c TI t.2.1), (.c TI t.2.2.1), (.c TI t.2.2.2.1), (.c .bool t.2.2.2.2)]), [], [], true, []⟩
def e_drawPlanOk (x0 : List Int) : (List TIns) × Int × Int × Int × Bool := Classical.epsilon fun t : (List TIns) × Int × Int × Int × Bool => (q_drawPlanOk x0 t) ∧ TCon Try.prog 55 [(.c (.sl [(.int .u8)]) x0)] (s_DrawPlanOk_R t)
def s_DrawPlanOk_row : TRow := mkRow 55 [(.c (.sl [(.int .u8)]))] fun x => (some (p_new x.1), s_DrawPlanOk_R (e_drawPlanOk x.1))
def s_DrawPlanOk_C : Prop := ∀ (x0 : List Int), (p_new x0) → TCon Try.prog 55 [(.c (.sl [(.int .u8)]) x0)] (s_DrawPlanOk_R (e_drawPlanOk x0))

/-! spec.DrawPlanOk -/
def s_DrawPlanOk_G : List TRow := [s_l1New_row, s_l9Some_row, s_Plan_row, s_l1Once_row, s_l1Below_row]
def s_DrawPlanOk_y1 : TCode :=
  (.seq (.reg [.op (some 61) (.mov (.s 13)),
    .op (some 62) (.mov (.s 9)),
    .op (some 63) (.mov (.s 10)),
    .op (some 64) (.mov (.s 11)),
    .op (some 65) (.mov (.s 12)),
    .op (some 2) (.mov (.s 61)),
    .op (some 3) (.mov (.s 62)),
    .op (some 4) (.mov (.s 63)),
    .op (some 5) (.mov (.s 64)),
    .op (some 6) (.mov (.s 65))])
 .ret)
def s_DrawPlanOk_L1 : List (Nat × Md) := [(9, .one .d), (10, .one .d), (11, .one .d), (12, .one .d), (13, .one .f)]
def s_DrawPlanOk_y1w : TCode := .wk s_DrawPlanOk_L1 s_DrawPlanOk_y1
def s_DrawPlanOk_c : TCode :=
  (.seq (.reg [.op (some 2) (.mov (.k (.n ctIns))),
    .op (some 3) (.mov (.k (.c TI (0 : Int)))),
    .op (some 4) (.mov (.k (.c TI (0 : Int)))),
    .op (some 5) (.mov (.k (.c TI (0 : Int)))),
    .op (some 6) (.mov (.k (.c .bool false)))])
 (.seq (.reg [.op (some 16) (.mov (.s 0)),
     .op (some 17) (.call 114 [(.s 16)]),
     .op (some 7) (.mov (.s 17))])
  (.seq (.reg [.op (some 19) (.mov (.s 7)),
      .op (some 20) (.call 135 [(.s 19)]),
      .op (some 18) (.mov (.s 20)),
      .op (some 21) (.ext (.s 18) 0),
      .op (some 22) (.ext (.s 18) 1),
      .op (some 23) (.ext (.s 18) 2),
      .op (some 24) (.ext (.s 18) 3),
      .op (some 25) (.ext (.s 18) 4),
      .op (some 8) (.mov (.s 21)),
      .op (some 9) (.mov (.s 22)),
      .op (some 10) (.mov (.s 23)),
      .op (some 11) (.mov (.s 24)),
      .op (some 12) (.mov (.s 25))])
   (.seq (.reg [.op (some 26) (.mov (.s 8)),
       .op (some 27) (.mov (.s 9)),
       .op (some 28) (.mov (.s 10)),
       .op (some 29) (.mov (.s 11)),
       .op (some 30) (.mov (.s 12)),
       .op (some 31) (.call 17 [(.s 26), (.s 27), (.s 28), (.s 29), (.s 30)]),
       .op (some 13) (.mov (.s 31))])
    (.seq (.seq (.reg [.op (some 32) (.mov (.s 13)),
         .op (some 33) (.len (.s 32)),
         .op (some 34) (.bin .gtr (.s 33) (.k (.c TI (2 : Int)))),
         .op (some 35) (.mov (.s 34)),
         .gw 35 true [.op (some 36) (.mov (.s 7))] 37 (.call 136 [(.s 36), (.k (.c TI (3 : Int)))]) 38 (.s 37)])
      (.cond (.s 38) (.seq (.reg [.op (some 39) (.mov (.s 7)),
           .op (some 40) (.mov (.s 13)),
           .op (some 41) (.len (.s 40)),
           .op (some 42) (.bin .sub (.s 41) (.k (.c TI (1 : Int)))),
           .op (some 43) (.call 116 [(.s 39), (.s 42)]),
           .op (some 14) (.mov (.s 43))])
        (.seq (.reg [.op (some 44) (.mov (.s 13)),
            .op (some 45) (.mov (.s 14)),
            .op (some 46) (.iad (.s 44) (.s 45) ctIns),
            .op (some 47) (.load (.s 46) 2 true),
            .op (some 15) (.new 151 [(.c TI (0 : Int)), (.c TI (0 : Int))]),
            .op none (.store (.s 15) (.s 47) 2)])
         (.seq (.reg [.op (some 48) (.mov (.s 13)),
             .op (some 49) (.mov (.s 14)),
             .op (some 50) (.mov (.s 13)),
             .op (some 51) (.mov (.s 14)),
             .op (some 52) (.bin .add (.s 51) (.k (.c TI (1 : Int)))),
             .op (some 53) (.iad (.s 50) (.s 52) ctIns),
             .op (some 54) (.load (.s 53) 2 true),
             .op (some 55) (.iad (.s 48) (.s 49) ctIns),
             .op none (.store (.s 55) (.s 54) 2)])
          (.reg [.op (some 56) (.mov (.s 13)),
             .op (some 57) (.mov (.s 14)),
             .op (some 58) (.bin .add (.s 57) (.k (.c TI (1 : Int)))),
             .op (some 59) (.load (.s 15) 2 true),
             .op (some 60) (.iad (.s 56) (.s 58) ctIns),
             .op none (.store (.s 60) (.s 59) 2)])))) .skip))
     s_DrawPlanOk_y1w)))))
def s_DrawPlanOk_rs : List (ARv × Md) := [(.t 2, .one .d), (.t 3, .one .d), (.t 4, .one .d), (.t 5, .one .d), (.t 6, .one .d)]
theorem s_DrawPlanOk_st : compF Try.prog 55 = some (s_DrawPlanOk_c.er, s_DrawPlanOk_rs.map Prod.fst, 66) := by kernel_rfl
def s_DrawPlanOk_Q (K : TRes → Prop) : TPost := TQ 0 0 s_DrawPlanOk_rs K
def s_DrawPlanOk_A1 (K : TRes → Prop) (code : List Int) (l : List TIns) : Prop := tawp s_DrawPlanOk_G 0 s_DrawPlanOk_y1 (s_DrawPlanOk_Q K) ⟨[(9, (.c TI ((e_some (e_new code)).2.1))), (10, (.c TI ((e_some (e_new code)).2.2.1))), (11, (.c TI ((e_some (e_new code)).2.2.2.1))), (12, (.c .bool ((e_some (e_new code)).2.2.2.2.1))), (13, (.r ctIns 0 0 l.length))], [(0, (.sl 151 ctIns true l))], 1⟩
theorem s_DrawPlanOk_v1 (K : TRes → Prop) (code : List Int) (l : List TIns) (h :
  K (s_DrawPlanOk_R ((List.take l.length (List.drop 0 l)), (e_some (e_new code)).2.1, (e_some (e_new code)).2.2.1, (e_some (e_new code)).2.2.2.1, (e_some (e_new code)).2.2.2.2.1))) : Hold (s_DrawPlanOk_A1 K code l) :=
  Hold.of (by kernel_rfl) h
theorem s_DrawPlanOk_v0 (K : TRes → Prop) (code : List Int) (h :
  ((p_new code) ∧ ((p_cur (e_new code)) ∧ (((decide ((((m_plan ((e_some (e_new code)).1) ((e_some (e_new code)).2.1) ((e_some (e_new code)).2.2.1) ((e_some (e_new code)).2.2.2.1) ((e_some (e_new code)).2.2.2.2.1)).length : Nat) : Int) > (2 : Int))) = true → (p_cur2 ((e_some (e_new code)).2.2.2.2.2) (3 : Int))) ∧ ((((decide ((((m_plan ((e_some (e_new code)).1) ((e_some (e_new code)).2.1) ((e_some (e_new code)).2.2.1) ((e_some (e_new code)).2.2.2.1) ((e_some (e_new code)).2.2.2.2.1)).length : Nat) : Int) > (2 : Int))) && ((e_once ((e_some (e_new code)).2.2.2.2.2) (3 : Int)).1)) = true → ((p_cur2 ((cond (decide ((((m_plan ((e_some (e_new code)).1) ((e_some (e_new code)).2.1) ((e_some (e_new code)).2.2.1) ((e_some (e_new code)).2.2.2.1) ((e_some (e_new code)).2.2.2.2.1)).length : Nat) : Int) > (2 : Int))) (((e_once ((e_some (e_new code)).2.2.2.2.2) (3 : Int)).2).1) (((e_some (e_new code)).2.2.2.2.2).1)), (cond (decide ((((m_plan ((e_some (e_new code)).1) ((e_some (e_new code)).2.1) ((e_some (e_new code)).2.2.1) ((e_some (e_new code)).2.2.2.1) ((e_some (e_new code)).2.2.2.2.1)).length : Nat) : Int) > (2 : Int))) (((e_once ((e_some (e_new code)).2.2.2.2.2) (3 : Int)).2).2.1) (((e_some (e_new code)).2.2.2.2.2).2.1)), (cond (decide ((((m_plan ((e_some (e_new code)).1) ((e_some (e_new code)).2.1) ((e_some (e_new code)).2.2.1) ((e_some (e_new code)).2.2.2.1) ((e_some (e_new code)).2.2.2.2.1)).length : Nat) : Int) > (2 : Int))) (((e_once ((e_some (e_new code)).2.2.2.2.2) (3 : Int)).2).2.2) (((e_some (e_new code)).2.2.2.2.2).2.2))) (w64 ((((m_plan ((e_some (e_new code)).1) ((e_some (e_new code)).2.1) ((e_some (e_new code)).2.2.1) ((e_some (e_new code)).2.2.2.1) ((e_some (e_new code)).2.2.2.2.1)).length : Nat) : Int) - (1 : Int)))) ∧ ((((0 : Int) ≤ (e_below ((cond (decide ((((m_plan ((e_some (e_new code)).1) ((e_some (e_new code)).2.1) ((e_some (e_new code)).2.2.1) ((e_some (e_new code)).2.2.2.1) ((e_some (e_new code)).2.2.2.2.1)).length : Nat) : Int) > (2 : Int))) (((e_once ((e_some (e_new code)).2.2.2.2.2) (3 : Int)).2).1) (((e_some (e_new code)).2.2.2.2.2).1)), (cond (decide ((((m_plan ((e_some (e_new code)).1) ((e_some (e_new code)).2.1) ((e_some (e_new code)).2.2.1) ((e_some (e_new code)).2.2.2.1) ((e_some (e_new code)).2.2.2.2.1)).length : Nat) : Int) > (2 : Int))) (((e_once ((e_some (e_new code)).2.2.2.2.2) (3 : Int)).2).2.1) (((e_some (e_new code)).2.2.2.2.2).2.1)), (cond (decide ((((m_plan ((e_some (e_new code)).1) ((e_some (e_new code)).2.1) ((e_some (e_new code)).2.2.1) ((e_some (e_new code)).2.2.2.1) ((e_some (e_new code)).2.2.2.2.1)).length : Nat) : Int) > (2 : Int))) (((e_once ((e_some (e_new code)).2.2.2.2.2) (3 : Int)).2).2.2) (((e_some (e_new code)).2.2.2.2.2).2.2))) (w64 ((((m_plan ((e_some (e_new code)).1) ((e_some (e_new code)).2.1) ((e_some (e_new code)).2.2.1) ((e_some (e_new code)).2.2.2.1) ((e_some (e_new code)).2.2.2.2.1)).length : Nat) : Int) - (1 : Int)))).1 ∧ Int.toNat ((e_below ((cond (decide ((((m_plan ((e_some (e_new code)).1) ((e_some (e_new code)).2.1) ((e_some (e_new code)).2.2.1) ((e_some (e_new code)).2.2.2.1) ((e_some (e_new code)).2.2.2.2.1)).length : Nat) : Int) > (2 : Int))) (((e_once ((e_some (e_new code)).2.2.2.2.2) (3 : Int)).2).1) (((e_some (e_new code)).2.2.2.2.2).1)), (cond (decide ((((m_plan ((e_some (e_new code)).1) ((e_some (e_new code)).2.1) ((e_some (e_new code)).2.2.1) ((e_some (e_new code)).2.2.2.1) ((e_some (e_new code)).2.2.2.2.1)).length : Nat) : Int) > (2 : Int))) (((e_once ((e_some (e_new code)).2.2.2.2.2) (3 : Int)).2).2.1) (((e_some (e_new code)).2.2.2.2.2).2.1)), (cond (decide ((((m_plan ((e_some (e_new code)).1) ((e_some (e_new code)).2.1) ((e_some (e_new code)).2.2.1) ((e_some (e_new code)).2.2.2.1) ((e_some (e_new code)).2.2.2.2.1)).length : Nat) : Int) > (2 : Int))) (((e_once ((e_some (e_new code)).2.2.2.2.2) (3 : Int)).2).2.2) (((e_some (e_new code)).2.2.2.2.2).2.2))) (w64 ((((m_plan ((e_some (e_new code)).1) ((e_some (e_new code)).2.1) ((e_some (e_new code)).2.2.1) ((e_some (e_new code)).2.2.2.1) ((e_some (e_new code)).2.2.2.2.1)).length : Nat) : Int) - (1 : Int)))).1) < (m_plan ((e_some (e_new code)).1) ((e_some (e_new code)).2.1) ((e_some (e_new code)).2.2.1) ((e_some (e_new code)).2.2.2.1) ((e_some (e_new code)).2.2.2.2.1)).length) ∧ ((0 + (Int.toNat ((e_below ((cond (decide ((((m_plan ((e_some (e_new code)).1) ((e_some (e_new code)).2.1) ((e_some (e_new code)).2.2.1) ((e_some (e_new code)).2.2.2.1) ((e_some (e_new code)).2.2.2.2.1)).length : Nat) : Int) > (2 : Int))) (((e_once ((e_some (e_new code)).2.2.2.2.2) (3 : Int)).2).1) (((e_some (e_new code)).2.2.2.2.2).1)), (cond (decide ((((m_plan ((e_some (e_new code)).1) ((e_some (e_new code)).2.1) ((e_some (e_new code)).2.2.1) ((e_some (e_new code)).2.2.2.1) ((e_some (e_new code)).2.2.2.2.1)).length : Nat) : Int) > (2 : Int))) (((e_once ((e_some (e_new code)).2.2.2.2.2) (3 : Int)).2).2.1) (((e_some (e_new code)).2.2.2.2.2).2.1)), (cond (decide ((((m_plan ((e_some (e_new code)).1) ((e_some (e_new code)).2.1) ((e_some (e_new code)).2.2.1) ((e_some (e_new code)).2.2.2.1) ((e_some (e_new code)).2.2.2.2.1)).length : Nat) : Int) > (2 : Int))) (((e_once ((e_some (e_new code)).2.2.2.2.2) (3 : Int)).2).2.2) (((e_some (e_new code)).2.2.2.2.2).2.2))) (w64 ((((m_plan ((e_some (e_new code)).1) ((e_some (e_new code)).2.1) ((e_some (e_new code)).2.2.1) ((e_some (e_new code)).2.2.2.1) ((e_some (e_new code)).2.2.2.2.1)).length : Nat) : Int) - (1 : Int)))).1))) < (m_plan ((e_some (e_new code)).1) ((e_some (e_new code)).2.1) ((e_some (e_new code)).2.2.1) ((e_some (e_new code)).2.2.2.1) ((e_some (e_new code)).2.2.2.2.1)).length)) ∧ ((((0 : Int) ≤ w64 (((e_below ((cond (decide ((((m_plan ((e_some (e_new code)).1) ((e_some (e_new code)).2.1) ((e_some (e_new code)).2.2.1) ((e_some (e_new code)).2.2.2.1) ((e_some (e_new code)).2.2.2.2.1)).length : Nat) : Int) > (2 : Int))) (((e_once ((e_some (e_new code)).2.2.2.2.2) (3 : Int)).2).1) (((e_some (e_new code)).2.2.2.2.2).1)), (cond (decide ((((m_plan ((e_some (e_new code)).1) ((e_some (e_new code)).2.1) ((e_some (e_new code)).2.2.1) ((e_some (e_new code)).2.2.2.1) ((e_some (e_new code)).2.2.2.2.1)).length : Nat) : Int) > (2 : Int))) (((e_once ((e_some (e_new code)).2.2.2.2.2) (3 : Int)).2).2.1) (((e_some (e_new code)).2.2.2.2.2).2.1)), (cond (decide ((((m_plan ((e_some (e_new code)).1) ((e_some (e_new code)).2.1) ((e_some (e_new code)).2.2.1) ((e_some (e_new code)).2.2.2.1) ((e_some (e_new code)).2.2.2.2.1)).length : Nat) : Int) > (2 : Int))) (((e_once ((e_some (e_new code)).2.2.2.2.2) (3 : Int)).2).2.2) (((e_some (e_new code)).2.2.2.2.2).2.2))) (w64 ((((m_plan ((e_some (e_new code)).1) ((e_some (e_new code)).2.1) ((e_some (e_new code)).2.2.1) ((e_some (e_new code)).2.2.2.1) ((e_some (e_new code)).2.2.2.2.1)).length : Nat) : Int) - (1 : Int)))).1) + (1 : Int)) ∧ Int.toNat (w64 (((e_below ((cond (decide ((((m_plan ((e_some (e_new code)).1) ((e_some (e_new code)).2.1) ((e_some (e_new code)).2.2.1) ((e_some (e_new code)).2.2.2.1) ((e_some (e_new code)).2.2.2.2.1)).length : Nat) : Int) > (2 : Int))) (((e_once ((e_some (e_new code)).2.2.2.2.2) (3 : Int)).2).1) (((e_some (e_new code)).2.2.2.2.2).1)), (cond (decide ((((m_plan ((e_some (e_new code)).1) ((e_some (e_new code)).2.1) ((e_some (e_new code)).2.2.1) ((e_some (e_new code)).2.2.2.1) ((e_some (e_new code)).2.2.2.2.1)).length : Nat) : Int) > (2 : Int))) (((e_once ((e_some (e_new code)).2.2.2.2.2) (3 : Int)).2).2.1) (((e_some (e_new code)).2.2.2.2.2).2.1)), (cond (decide ((((m_plan ((e_some (e_new code)).1) ((e_some (e_new code)).2.1) ((e_some (e_new code)).2.2.1) ((e_some (e_new code)).2.2.2.1) ((e_some (e_new code)).2.2.2.2.1)).length : Nat) : Int) > (2 : Int))) (((e_once ((e_some (e_new code)).2.2.2.2.2) (3 : Int)).2).2.2) (((e_some (e_new code)).2.2.2.2.2).2.2))) (w64 ((((m_plan ((e_some (e_new code)).1) ((e_some (e_new code)).2.1) ((e_some (e_new code)).2.2.1) ((e_some (e_new code)).2.2.2.1) ((e_some (e_new code)).2.2.2.2.1)).length : Nat) : Int) - (1 : Int)))).1) + (1 : Int))) < (m_plan ((e_some (e_new code)).1) ((e_some (e_new code)).2.1) ((e_some (e_new code)).2.2.1) ((e_some (e_new code)).2.2.2.1) ((e_some (e_new code)).2.2.2.2.1)).length) ∧ (((0 + (Int.toNat (w64 (((e_below ((cond (decide ((((m_plan ((e_some (e_new code)).1) ((e_some (e_new code)).2.1) ((e_some (e_new code)).2.2.1) ((e_some (e_new code)).2.2.2.1) ((e_some (e_new code)).2.2.2.2.1)).length : Nat) : Int) > (2 : Int))) (((e_once ((e_some (e_new code)).2.2.2.2.2) (3 : Int)).2).1) (((e_some (e_new code)).2.2.2.2.2).1)), (cond (decide ((((m_plan ((e_some (e_new code)).1) ((e_some (e_new code)).2.1) ((e_some (e_new code)).2.2.1) ((e_some (e_new code)).2.2.2.1) ((e_some (e_new code)).2.2.2.2.1)).length : Nat) : Int) > (2 : Int))) (((e_once ((e_some (e_new code)).2.2.2.2.2) (3 : Int)).2).2.1) (((e_some (e_new code)).2.2.2.2.2).2.1)), (cond (decide ((((m_plan ((e_some (e_new code)).1) ((e_some (e_new code)).2.1) ((e_some (e_new code)).2.2.1) ((e_some (e_new code)).2.2.2.1) ((e_some (e_new code)).2.2.2.2.1)).length : Nat) : Int) > (2 : Int))) (((e_once ((e_some (e_new code)).2.2.2.2.2) (3 : Int)).2).2.2) (((e_some (e_new code)).2.2.2.2.2).2.2))) (w64 ((((m_plan ((e_some (e_new code)).1) ((e_some (e_new code)).2.1) ((e_some (e_new code)).2.2.1) ((e_some (e_new code)).2.2.2.1) ((e_some (e_new code)).2.2.2.2.1)).length : Nat) : Int) - (1 : Int)))).1) + (1 : Int))))) < (m_plan ((e_some (e_new code)).1) ((e_some (e_new code)).2.1) ((e_some (e_new code)).2.2.1) ((e_some (e_new code)).2.2.2.1) ((e_some (e_new code)).2.2.2.2.1)).length) ∧ (((0 : Int) ≤ (e_below ((cond (decide ((((m_plan ((e_some (e_new code)).1) ((e_some (e_new code)).2.1) ((e_some (e_new code)).2.2.1) ((e_some (e_new code)).2.2.2.1) ((e_some (e_new code)).2.2.2.2.1)).length : Nat) : Int) > (2 : Int))) (((e_once ((e_some (e_new code)).2.2.2.2.2) (3 : Int)).2).1) (((e_some (e_new code)).2.2.2.2.2).1)), (cond (decide ((((m_plan ((e_some (e_new code)).1) ((e_some (e_new code)).2.1) ((e_some (e_new code)).2.2.1) ((e_some (e_new code)).2.2.2.1) ((e_some (e_new code)).2.2.2.2.1)).length : Nat) : Int) > (2 : Int))) (((e_once ((e_some (e_new code)).2.2.2.2.2) (3 : Int)).2).2.1) (((e_some (e_new code)).2.2.2.2.2).2.1)), (cond (decide ((((m_plan ((e_some (e_new code)).1) ((e_some (e_new code)).2.1) ((e_some (e_new code)).2.2.1) ((e_some (e_new code)).2.2.2.1) ((e_some (e_new code)).2.2.2.2.1)).length : Nat) : Int) > (2 : Int))) (((e_once ((e_some (e_new code)).2.2.2.2.2) (3 : Int)).2).2.2) (((e_some (e_new code)).2.2.2.2.2).2.2))) (w64 ((((m_plan ((e_some (e_new code)).1) ((e_some (e_new code)).2.1) ((e_some (e_new code)).2.2.1) ((e_some (e_new code)).2.2.2.1) ((e_some (e_new code)).2.2.2.2.1)).length : Nat) : Int) - (1 : Int)))).1 ∧ Int.toNat ((e_below ((cond (decide ((((m_plan ((e_some (e_new code)).1) ((e_some (e_new code)).2.1) ((e_some (e_new code)).2.2.1) ((e_some (e_new code)).2.2.2.1) ((e_some (e_new code)).2.2.2.2.1)).length : Nat) : Int) > (2 : Int))) (((e_once ((e_some (e_new code)).2.2.2.2.2) (3 : Int)).2).1) (((e_some (e_new code)).2.2.2.2.2).1)), (cond (decide ((((m_plan ((e_some (e_new code)).1) ((e_some (e_new code)).2.1) ((e_some (e_new code)).2.2.1) ((e_some (e_new code)).2.2.2.1) ((e_some (e_new code)).2.2.2.2.1)).length : Nat) : Int) > (2 : Int))) (((e_once ((e_some (e_new code)).2.2.2.2.2) (3 : Int)).2).2.1) (((e_some (e_new code)).2.2.2.2.2).2.1)), (cond (decide ((((m_plan ((e_some (e_new code)).1) ((e_some (e_new code)).2.1) ((e_some (e_new code)).2.2.1) ((e_some (e_new code)).2.2.2.1) ((e_some (e_new code)).2.2.2.2.1)).length : Nat) : Int) > (2 : Int))) (((e_once ((e_some (e_new code)).2.2.2.2.2) (3 : Int)).2).2.2) (((e_some (e_new code)).2.2.2.2.2).2.2))) (w64 ((((m_plan ((e_some (e_new code)).1) ((e_some (e_new code)).2.1) ((e_some (e_new code)).2.2.1) ((e_some (e_new code)).2.2.2.1) ((e_some (e_new code)).2.2.2.2.1)).length : Nat) : Int) - (1 : Int)))).1) < (m_plan ((e_some (e_new code)).1) ((e_some (e_new code)).2.1) ((e_some (e_new code)).2.2.1) ((e_some (e_new code)).2.2.2.1) ((e_some (e_new code)).2.2.2.2.1)).length) ∧ ((0 + (Int.toNat ((e_below ((cond (decide ((((m_plan ((e_some (e_new code)).1) ((e_some (e_new code)).2.1) ((e_some (e_new code)).2.2.1) ((e_some (e_new code)).2.2.2.1) ((e_some (e_new code)).2.2.2.2.1)).length : Nat) : Int) > (2 : Int))) (((e_once ((e_some (e_new code)).2.2.2.2.2) (3 : Int)).2).1) (((e_some (e_new code)).2.2.2.2.2).1)), (cond (decide ((((m_plan ((e_some (e_new code)).1) ((e_some (e_new code)).2.1) ((e_some (e_new code)).2.2.1) ((e_some (e_new code)).2.2.2.1) ((e_some (e_new code)).2.2.2.2.1)).length : Nat) : Int) > (2 : Int))) (((e_once ((e_some (e_new code)).2.2.2.2.2) (3 : Int)).2).2.1) (((e_some (e_new code)).2.2.2.2.2).2.1)), (cond (decide ((((m_plan ((e_some (e_new code)).1) ((e_some (e_new code)).2.1) ((e_some (e_new code)).2.2.1) ((e_some (e_new code)).2.2.2.1) ((e_some (e_new code)).2.2.2.2.1)).length : Nat) : Int) > (2 : Int))) (((e_once ((e_some (e_new code)).2.2.2.2.2) (3 : Int)).2).2.2) (((e_some (e_new code)).2.2.2.2.2).2.2))) (w64 ((((m_plan ((e_some (e_new code)).1) ((e_some (e_new code)).2.1) ((e_some (e_new code)).2.2.1) ((e_some (e_new code)).2.2.2.1) ((e_some (e_new code)).2.2.2.2.1)).length : Nat) : Int) - (1 : Int)))).1))) < (m_plan ((e_some (e_new code)).1) ((e_some (e_new code)).2.1) ((e_some (e_new code)).2.2.1) ((e_some (e_new code)).2.2.2.1) ((e_some (e_new code)).2.2.2.2.1)).length)))) ∧ ((((0 : Int) ≤ w64 (((e_below ((cond (decide ((((m_plan ((e_some (e_new code)).1) ((e_some (e_new code)).2.1) ((e_some (e_new code)).2.2.1) ((e_some (e_new code)).2.2.2.1) ((e_some (e_new code)).2.2.2.2.1)).length : Nat) : Int) > (2 : Int))) (((e_once ((e_some (e_new code)).2.2.2.2.2) (3 : Int)).2).1) (((e_some (e_new code)).2.2.2.2.2).1)), (cond (decide ((((m_plan ((e_some (e_new code)).1) ((e_some (e_new code)).2.1) ((e_some (e_new code)).2.2.1) ((e_some (e_new code)).2.2.2.1) ((e_some (e_new code)).2.2.2.2.1)).length : Nat) : Int) > (2 : Int))) (((e_once ((e_some (e_new code)).2.2.2.2.2) (3 : Int)).2).2.1) (((e_some (e_new code)).2.2.2.2.2).2.1)), (cond (decide ((((m_plan ((e_some (e_new code)).1) ((e_some (e_new code)).2.1) ((e_some (e_new code)).2.2.1) ((e_some (e_new code)).2.2.2.1) ((e_some (e_new code)).2.2.2.2.1)).length : Nat) : Int) > (2 : Int))) (((e_once ((e_some (e_new code)).2.2.2.2.2) (3 : Int)).2).2.2) (((e_some (e_new code)).2.2.2.2.2).2.2))) (w64 ((((m_plan ((e_some (e_new code)).1) ((e_some (e_new code)).2.1) ((e_some (e_new code)).2.2.1) ((e_some (e_new code)).2.2.2.1) ((e_some (e_new code)).2.2.2.2.1)).length : Nat) : Int) - (1 : Int)))).1) + (1 : Int)) ∧ Int.toNat (w64 (((e_below ((cond (decide ((((m_plan ((e_some (e_new code)).1) ((e_some (e_new code)).2.1) ((e_some (e_new code)).2.2.1) ((e_some (e_new code)).2.2.2.1) ((e_some (e_new code)).2.2.2.2.1)).length : Nat) : Int) > (2 : Int))) (((e_once ((e_some (e_new code)).2.2.2.2.2) (3 : Int)).2).1) (((e_some (e_new code)).2.2.2.2.2).1)), (cond (decide ((((m_plan ((e_some (e_new code)).1) ((e_some (e_new code)).2.1) ((e_some (e_new code)).2.2.1) ((e_some (e_new code)).2.2.2.1) ((e_some (e_new code)).2.2.2.2.1)).length : Nat) : Int) > (2 : Int))) (((e_once ((e_some (e_new code)).2.2.2.2.2) (3 : Int)).2).2.1) (((e_some (e_new code)).2.2.2.2.2).2.1)), (cond (decide ((((m_plan ((e_some (e_new code)).1) ((e_some (e_new code)).2.1) ((e_some (e_new code)).2.2.1) ((e_some (e_new code)).2.2.2.1) ((e_some (e_new code)).2.2.2.2.1)).length : Nat) : Int) > (2 : Int))) (((e_once ((e_some (e_new code)).2.2.2.2.2) (3 : Int)).2).2.2) (((e_some (e_new code)).2.2.2.2.2).2.2))) (w64 ((((m_plan ((e_some (e_new code)).1) ((e_some (e_new code)).2.1) ((e_some (e_new code)).2.2.1) ((e_some (e_new code)).2.2.2.1) ((e_some (e_new code)).2.2.2.2.1)).length : Nat) : Int) - (1 : Int)))).1) + (1 : Int))) < (m_plan ((e_some (e_new code)).1) ((e_some (e_new code)).2.1) ((e_some (e_new code)).2.2.1) ((e_some (e_new code)).2.2.2.1) ((e_some (e_new code)).2.2.2.2.1)).length) ∧ ((0 + (Int.toNat (w64 (((e_below ((cond (decide ((((m_plan ((e_some (e_new code)).1) ((e_some (e_new code)).2.1) ((e_some (e_new code)).2.2.1) ((e_some (e_new code)).2.2.2.1) ((e_some (e_new code)).2.2.2.2.1)).length : Nat) : Int) > (2 : Int))) (((e_once ((e_some (e_new code)).2.2.2.2.2) (3 : Int)).2).1) (((e_some (e_new code)).2.2.2.2.2).1)), (cond (decide ((((m_plan ((e_some (e_new code)).1) ((e_some (e_new code)).2.1) ((e_some (e_new code)).2.2.1) ((e_some (e_new code)).2.2.2.1) ((e_some (e_new code)).2.2.2.2.1)).length : Nat) : Int) > (2 : Int))) (((e_once ((e_some (e_new code)).2.2.2.2.2) (3 : Int)).2).2.1) (((e_some (e_new code)).2.2.2.2.2).2.1)), (cond (decide ((((m_plan ((e_some (e_new code)).1) ((e_some (e_new code)).2.1) ((e_some (e_new code)).2.2.1) ((e_some (e_new code)).2.2.2.1) ((e_some (e_new code)).2.2.2.2.1)).length : Nat) : Int) > (2 : Int))) (((e_once ((e_some (e_new code)).2.2.2.2.2) (3 : Int)).2).2.2) (((e_some (e_new code)).2.2.2.2.2).2.2))) (w64 ((((m_plan ((e_some (e_new code)).1) ((e_some (e_new code)).2.1) ((e_some (e_new code)).2.2.1) ((e_some (e_new code)).2.2.2.1) ((e_some (e_new code)).2.2.2.2.1)).length : Nat) : Int) - (1 : Int)))).1) + (1 : Int))))) < (((m_plan ((e_some (e_new code)).1) ((e_some (e_new code)).2.1) ((e_some (e_new code)).2.2.1) ((e_some (e_new code)).2.2.2.1) ((e_some (e_new code)).2.2.2.2.1))).set (0 + (Int.toNat ((e_below ((cond (decide ((((m_plan ((e_some (e_new code)).1) ((e_some (e_new code)).2.1) ((e_some (e_new code)).2.2.1) ((e_some (e_new code)).2.2.2.1) ((e_some (e_new code)).2.2.2.2.1)).length : Nat) : Int) > (2 : Int))) (((e_once ((e_some (e_new code)).2.2.2.2.2) (3 : Int)).2).1) (((e_some (e_new code)).2.2.2.2.2).1)), (cond (decide ((((m_plan ((e_some (e_new code)).1) ((e_some (e_new code)).2.1) ((e_some (e_new code)).2.2.1) ((e_some (e_new code)).2.2.2.1) ((e_some (e_new code)).2.2.2.2.1)).length : Nat) : Int) > (2 : Int))) (((e_once ((e_some (e_new code)).2.2.2.2.2) (3 : Int)).2).2.1) (((e_some (e_new code)).2.2.2.2.2).2.1)), (cond (decide ((((m_plan ((e_some (e_new code)).1) ((e_some (e_new code)).2.1) ((e_some (e_new code)).2.2.1) ((e_some (e_new code)).2.2.2.1) ((e_some (e_new code)).2.2.2.2.1)).length : Nat) : Int) > (2 : Int))) (((e_once ((e_some (e_new code)).2.2.2.2.2) (3 : Int)).2).2.2) (((e_some (e_new code)).2.2.2.2.2).2.2))) (w64 ((((m_plan ((e_some (e_new code)).1) ((e_some (e_new code)).2.1) ((e_some (e_new code)).2.2.1) ((e_some (e_new code)).2.2.2.1) ((e_some (e_new code)).2.2.2.2.1)).length : Nat) : Int) - (1 : Int)))).1))) (gtd dIns (m_plan ((e_some (e_new code)).1) ((e_some (e_new code)).2.1) ((e_some (e_new code)).2.2.1) ((e_some (e_new code)).2.2.2.1) ((e_some (e_new code)).2.2.2.2.1)) (0 + (Int.toNat (w64 (((e_below ((cond (decide ((((m_plan ((e_some (e_new code)).1) ((e_some (e_new code)).2.1) ((e_some (e_new code)).2.2.1) ((e_some (e_new code)).2.2.2.1) ((e_some (e_new code)).2.2.2.2.1)).length : Nat) : Int) > (2 : Int))) (((e_once ((e_some (e_new code)).2.2.2.2.2) (3 : Int)).2).1) (((e_some (e_new code)).2.2.2.2.2).1)), (cond (decide ((((m_plan ((e_some (e_new code)).1) ((e_some (e_new code)).2.1) ((e_some (e_new code)).2.2.1) ((e_some (e_new code)).2.2.2.1) ((e_some (e_new code)).2.2.2.2.1)).length : Nat) : Int) > (2 : Int))) (((e_once ((e_some (e_new code)).2.2.2.2.2) (3 : Int)).2).2.1) (((e_some (e_new code)).2.2.2.2.2).2.1)), (cond (decide ((((m_plan ((e_some (e_new code)).1) ((e_some (e_new code)).2.1) ((e_some (e_new code)).2.2.1) ((e_some (e_new code)).2.2.2.1) ((e_some (e_new code)).2.2.2.2.1)).length : Nat) : Int) > (2 : Int))) (((e_once ((e_some (e_new code)).2.2.2.2.2) (3 : Int)).2).2.2) (((e_some (e_new code)).2.2.2.2.2).2.2))) (w64 ((((m_plan ((e_some (e_new code)).1) ((e_some (e_new code)).2.1) ((e_some (e_new code)).2.2.1) ((e_some (e_new code)).2.2.2.1) ((e_some (e_new code)).2.2.2.2.1)).length : Nat) : Int) - (1 : Int)))).1) + (1 : Int))))))).length)) ∧ (s_DrawPlanOk_A1 K code (List.take ((m_plan ((e_some (e_new code)).1) ((e_some (e_new code)).2.1) ((e_some (e_new code)).2.2.1) ((e_some (e_new code)).2.2.2.1) ((e_some (e_new code)).2.2.2.2.1)).length) ((((m_plan ((e_some (e_new code)).1) ((e_some (e_new code)).2.1) ((e_some (e_new code)).2.2.1) ((e_some (e_new code)).2.2.2.1) ((e_some (e_new code)).2.2.2.2.1))).set (0 + (Int.toNat ((e_below ((cond (decide ((((m_plan ((e_some (e_new code)).1) ((e_some (e_new code)).2.1) ((e_some (e_new code)).2.2.1) ((e_some (e_new code)).2.2.2.1) ((e_some (e_new code)).2.2.2.2.1)).length : Nat) : Int) > (2 : Int))) (((e_once ((e_some (e_new code)).2.2.2.2.2) (3 : Int)).2).1) (((e_some (e_new code)).2.2.2.2.2).1)), (cond (decide ((((m_plan ((e_some (e_new code)).1) ((e_some (e_new code)).2.1) ((e_some (e_new code)).2.2.1) ((e_some (e_new code)).2.2.2.1) ((e_some (e_new code)).2.2.2.2.1)).length : Nat) : Int) > (2 : Int))) (((e_once ((e_some (e_new code)).2.2.2.2.2) (3 : Int)).2).2.1) (((e_some (e_new code)).2.2.2.2.2).2.1)), (cond (decide ((((m_plan ((e_some (e_new code)).1) ((e_some (e_new code)).2.1) ((e_some (e_new code)).2.2.1) ((e_some (e_new code)).2.2.2.1) ((e_some (e_new code)).2.2.2.2.1)).length : Nat) : Int) > (2 : Int))) (((e_once ((e_some (e_new code)).2.2.2.2.2) (3 : Int)).2).2.2) (((e_some (e_new code)).2.2.2.2.2).2.2))) (w64 ((((m_plan ((e_some (e_new code)).1) ((e_some (e_new code)).2.1) ((e_some (e_new code)).2.2.1) ((e_some (e_new code)).2.2.2.1) ((e_some (e_new code)).2.2.2.2.1)).length : Nat) : Int) - (1 : Int)))).1))) (gtd dIns (m_plan ((e_some (e_new code)).1) ((e_some (e_new code)).2.1) ((e_some (e_new code)).2.2.1) ((e_some (e_new code)).2.2.2.1) ((e_some (e_new code)).2.2.2.2.1)) (0 + (Int.toNat (w64 (((e_below ((cond (decide ((((m_plan ((e_some (e_new code)).1) ((e_some (e_new code)).2.1) ((e_some (e_new code)).2.2.1) ((e_some (e_new code)).2.2.2.1) ((e_some (e_new code)).2.2.2.2.1)).length : Nat) : Int) > (2 : Int))) (((e_once ((e_some (e_new code)).2.2.2.2.2) (3 : Int)).2).1) (((e_some (e_new code)).2.2.2.2.2).1)), (cond (decide ((((m_plan ((e_some (e_new code)).1) ((e_some (e_new code)).2.1) ((e_some (e_new code)).2.2.1) ((e_some (e_new code)).2.2.2.1) ((e_some (e_new code)).2.2.2.2.1)).length : Nat) : Int) > (2 : Int))) (((e_once ((e_some (e_new code)).2.2.2.2.2) (3 : Int)).2).2.1) (((e_some (e_new code)).2.2.2.2.2).2.1)), (cond (decide ((((m_plan ((e_some (e_new code)).1) ((e_some (e_new code)).2.1) ((e_some (e_new code)).2.2.1) ((e_some (e_new code)).2.2.2.1) ((e_some (e_new code)).2.2.2.2.1)).length : Nat) : Int) > (2 : Int))) (((e_once ((e_some (e_new code)).2.2.2.2.2) (3 : Int)).2).2.2) (((e_some (e_new code)).2.2.2.2.2).2.2))) (w64 ((((m_plan ((e_some (e_new code)).1) ((e_some (e_new code)).2.1) ((e_some (e_new code)).2.2.1) ((e_some (e_new code)).2.2.2.1) ((e_some (e_new code)).2.2.2.2.1)).length : Nat) : Int) - (1 : Int)))).1) + (1 : Int))))))).set (0 + (Int.toNat (w64 (((e_below ((cond (decide ((((m_plan ((e_some (e_new code)).1) ((e_some (e_new code)).2.1) ((e_some (e_new code)).2.2.1) ((e_some (e_new code)).2.2.2.1) ((e_some (e_new code)).2.2.2.2.1)).length : Nat) : Int) > (2 : Int))) (((e_once ((e_some (e_new code)).2.2.2.2.2) (3 : Int)).2).1) (((e_some (e_new code)).2.2.2.2.2).1)), (cond (decide ((((m_plan ((e_some (e_new code)).1) ((e_some (e_new code)).2.1) ((e_some (e_new code)).2.2.1) ((e_some (e_new code)).2.2.2.1) ((e_some (e_new code)).2.2.2.2.1)).length : Nat) : Int) > (2 : Int))) (((e_once ((e_some (e_new code)).2.2.2.2.2) (3 : Int)).2).2.1) (((e_some (e_new code)).2.2.2.2.2).2.1)), (cond (decide ((((m_plan ((e_some (e_new code)).1) ((e_some (e_new code)).2.1) ((e_some (e_new code)).2.2.1) ((e_some (e_new code)).2.2.2.1) ((e_some (e_new code)).2.2.2.2.1)).length : Nat) : Int) > (2 : Int))) (((e_once ((e_some (e_new code)).2.2.2.2.2) (3 : Int)).2).2.2) (((e_some (e_new code)).2.2.2.2.2).2.2))) (w64 ((((m_plan ((e_some (e_new code)).1) ((e_some (e_new code)).2.1) ((e_some (e_new code)).2.2.1) ((e_some (e_new code)).2.2.2.1) ((e_some (e_new code)).2.2.2.2.1)).length : Nat) : Int) - (1 : Int)))).1) + (1 : Int))))) (gtd dIns (m_plan ((e_some (e_new code)).1) ((e_some (e_new code)).2.1) ((e_some (e_new code)).2.2.1) ((e_some (e_new code)).2.2.2.1) ((e_some (e_new code)).2.2.2.2.1)) (0 + (Int.toNat ((e_below ((cond (decide ((((m_plan ((e_some (e_new code)).1) ((e_some (e_new code)).2.1) ((e_some (e_new code)).2.2.1) ((e_some (e_new code)).2.2.2.1) ((e_some (e_new code)).2.2.2.2.1)).length : Nat) : Int) > (2 : Int))) (((e_once ((e_some (e_new code)).2.2.2.2.2) (3 : Int)).2).1) (((e_some (e_new code)).2.2.2.2.2).1)), (cond (decide ((((m_plan ((e_some (e_new code)).1) ((e_some (e_new code)).2.1) ((e_some (e_new code)).2.2.1) ((e_some (e_new code)).2.2.2.1) ((e_some (e_new code)).2.2.2.2.1)).length : Nat) : Int) > (2 : Int))) (((e_once ((e_some (e_new code)).2.2.2.2.2) (3 : Int)).2).2.1) (((e_some (e_new code)).2.2.2.2.2).2.1)), (cond (decide ((((m_plan ((e_some (e_new code)).1) ((e_some (e_new code)).2.1) ((e_some (e_new code)).2.2.1) ((e_some (e_new code)).2.2.2.1) ((e_some (e_new code)).2.2.2.2.1)).length : Nat) : Int) > (2 : Int))) (((e_once ((e_some (e_new code)).2.2.2.2.2) (3 : Int)).2).2.2) (((e_some (e_new code)).2.2.2.2.2).2.2))) (w64 ((((m_plan ((e_some (e_new code)).1) ((e_some (e_new code)).2.1) ((e_some (e_new code)).2.2.1) ((e_some (e_new code)).2.2.2.1) ((e_some (e_new code)).2.2.2.2.1)).length : Nat) : Int) - (1 : Int)))).1)))))))))))) ∧ (((decide ((((m_plan ((e_some (e_new code)).1) ((e_some (e_new code)).2.1) ((e_some (e_new code)).2.2.1) ((e_some (e_new code)).2.2.2.1) ((e_some (e_new code)).2.2.2.2.1)).length : Nat) : Int) > (2 : Int))) && ((e_once ((e_some (e_new code)).2.2.2.2.2) (3 : Int)).1)) = false → (s_DrawPlanOk_A1 K code (List.take ((m_plan ((e_some (e_new code)).1) ((e_some (e_new code)).2.1) ((e_some (e_new code)).2.2.1) ((e_some (e_new code)).2.2.2.1) ((e_some (e_new code)).2.2.2.2.1)).length) (m_plan ((e_some (e_new code)).1) ((e_some (e_new code)).2.1) ((e_some (e_new code)).2.2.1) ((e_some (e_new code)).2.2.2.1) ((e_some (e_new code)).2.2.2.2.1)))))))))) : Hold (tawp s_DrawPlanOk_G (0 + 0) s_DrawPlanOk_c (TQ 0 0 s_DrawPlanOk_rs K) (tstart [(.c (.sl [(.int .u8)]) code)])) :=
  Hold.of (by kernel_rfl) h
theorem s_DrawPlanOk_t (code : List Int) (K : TRes → Prop) (h : Hold (tawp s_DrawPlanOk_G (0 + 0) s_DrawPlanOk_c (TQ 0 0 s_DrawPlanOk_rs K) (tstart [(.c (.sl [(.int .u8)]) code)]))) : ∃ r, K r ∧ TCon Try.prog 55 [(.c (.sl [(.int .u8)]) code)] r :=
  tcon_gen_ex (sg := [(.c (.sl [(.int .u8)]))]) mixed (TOk.cons s_l1New_ok (TOk.cons s_l9Some_ok (TOk.cons s_Plan_ok (TOk.cons s_l1Once_ok (TOk.cons s_l1Below_ok TOk.nil))))) s_DrawPlanOk_st (by kernel_rfl) (by kernel_rfl) (by kernel_rfl) (by kernel_rfl) h
theorem s_DrawPlanOk_ex (code : List Int) (hp : p_new code) : ∃ t : (List TIns) × Int × Int × Int × Bool, (q_drawPlanOk code t) ∧ TCon Try.prog 55 [(.c (.sl [(.int .u8)]) code)] (s_DrawPlanOk_R t) := by
  refine tex_of (s_DrawPlanOk_t code _ (s_DrawPlanOk_v0 (fun r' => ∃ t, (q_drawPlanOk code t) ∧ r' = s_DrawPlanOk_R t) code ?_))
  have key : ∀ l, s_DrawPlanOk_A1 (fun r' => ∃ t, (q_drawPlanOk code t) ∧ r' = s_DrawPlanOk_R t) code l := fun l => (s_DrawPlanOk_v1 (fun r' => ∃ t, (q_drawPlanOk code t) ∧ r' = s_DrawPlanOk_R t) code l (leafP (trivial))).h
  have hc := s_l1New_post code hp
  have hs := s_l9Some_post _ hc
  generalize e_some (e_new code) = r at hs key ⊢
  have hl := plan_le r.1 r.2.1 r.2.2.1 r.2.2.2.1 r.2.2.2.2.1
  generalize m_plan r.1 r.2.1 r.2.2.1 r.2.2.2.1 r.2.2.2.2.1 = l at hl ⊢
  refine ⟨hp, hc, fun _ => hs, fun h => ?_, fun _ => key _⟩
  simp only [Bool.and_eq_true] at h
  rw [h.1]
  have eta3 : ∀ t : TCur, (t.1, t.2.1, t.2.2) = t := fun _ => rfl
  simp only [cond_true, eta3]
  have h1 : (l.length : Int) > 2 := of_decide_eq_true h.1
  have h2 := s_l1Once_post r.2.2.2.2.2 3 hs
  have b := s_l1Below_post (e_once r.2.2.2.2.2 3).2 (w64 (l.length - 1)) h2
  have b1 := b.1
  rw [w64_ok (x := (l.length : Int) - 1) (by omega) (by omega)] at b b1 ⊢
  have b2 := b.2.1 (by omega)
  refine ⟨h2, ?_⟩
  rw [w64_ok (x := _ + 1) (by omega) (by omega)]
  refine ⟨?_, ?_, ?_, key _⟩ <;> ((try simp only [List.length_set]); omega)
theorem s_DrawPlanOk_post (code : List Int) (hp : p_new code) : q_drawPlanOk code (e_drawPlanOk code) := (Classical.epsilon_spec (s_DrawPlanOk_ex code hp)).1
theorem s_DrawPlanOk_h : s_DrawPlanOk_C := by
  intro code hp
  exact (Classical.epsilon_spec (s_DrawPlanOk_ex code hp)).2

theorem s_DrawPlanOk_ok : TRowOk Try.prog s_DrawPlanOk_row := rowOk fun x h => s_DrawPlanOk_h x.1 h

end
end Go.Proofs.Ytephkbajoofeoaa.Am
