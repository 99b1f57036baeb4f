/-
  THE LAWS OF THE INSTRUCTION's WORD AND OF THE WARMING UP, BY THE ABSTRACT MACHINE.
-/
import Derived.Test.YtjigmfomaoanmaaC1
namespace Go.Proofs.Ytjigmfomaoanmaa.Am
open Go Go.RowKit Go.Proofs.Ytjigmfomaoanmaa
/- loop.example/g01407/spec.WarmUp · results in [(8, 0)] -/
def c11 : ACode :=
  (.seq
   (.reg [
     ⟨(some 8), .mov (.k (.c (.v (.int .i64 0)))), none, 0⟩])
   (.seq
    (.seq
     (.reg [
       ⟨(some 9), .mov (.s 1), none, 0⟩,
       ⟨(some 10), .call 30 [(.s 9), (.k (.c (.v (.int .i64 1)))), (.k (.c (.v (.int .i64 4))))], none, 16⟩,
       ⟨(some 11), .not (.s 10), none, 32⟩,
       ⟨(some 12), .mov (.s 11), none, 48⟩,
       ⟨(some 13), .mov (.s 2), (some (12, false)), 64⟩,
       ⟨(some 14), .mov (.s 1), (some (12, false)), 80⟩,
       ⟨(some 15), .bin .sub (.s 14) (.k (.c (.v (.int .i64 1)))), (some (12, false)), 96⟩,
       ⟨(some 16), .call 30 [(.s 13), (.k (.c (.v (.int .i64 0)))), (.s 15)], (some (12, false)), 112⟩,
       ⟨(some 17), .not (.s 16), (some (12, false)), 128⟩,
       ⟨(some 18), .pick (.s 12) (.k (.c (.v (.bool true)))) (.s 17), none, 144⟩,
       ⟨(some 19), .mov (.s 18), none, 160⟩,
       ⟨(some 20), .mov (.s 3), (some (19, false)), 176⟩,
       ⟨(some 21), .call 30 [(.s 20), (.k (.c (.v (.int .i64 1)))), (.k (.c (.v (.int .i64 5))))], (some (19, false)), 192⟩,
       ⟨(some 22), .not (.s 21), (some (19, false)), 208⟩,
       ⟨(some 23), .pick (.s 19) (.k (.c (.v (.bool true)))) (.s 22), none, 224⟩])
     (.cond (.s 23)
      (.seq
       (.reg [
         ⟨(some 8), .mov (.k (.c (.v (.int .i64 0)))), none, 0⟩])
       .ret)
      .skip))
    (.seq
     (.seq
      (.reg [
        ⟨(some 24), .mov (.s 0), none, 0⟩,
        ⟨(some 25), .bin .eql (.s 24) (.k (.c (.v (.int .i64 2)))), none, 16⟩])
      (.cond (.s 25)
       (.seq
        (.reg [
          ⟨(some 26), .mov (.s 3), none, 0⟩,
          ⟨(some 27), .mov (.s 1), none, 16⟩,
          ⟨(some 28), .bin .sub (.s 27) (.k (.c (.v (.int .i64 1)))), none, 32⟩,
          ⟨(some 29), .mov (.s 2), none, 48⟩,
          ⟨(some 30), .bin .sub (.s 28) (.s 29), none, 64⟩,
          ⟨(some 31), .mm false (.s 26) (.s 30), none, 80⟩,
          ⟨(some 8), .mov (.s 31), none, 96⟩])
        .ret)
       .skip))
     (.seq
      (.reg [
        ⟨(some 32), .mov (.s 3), none, 0⟩,
        ⟨(some 8), .mov (.s 32), none, 16⟩])
      .ret))))

/- loop.example/g01407/impl.WarmUp · results in [(8, 0)] -/
def c12 : ACode :=
  (.seq
   (.reg [
     ⟨(some 8), .mov (.k (.c (.v (.int .i64 0)))), none, 0⟩])
   (.seq
    (.seq
     (.reg [
       ⟨(some 9), .mov (.s 1), none, 0⟩,
       ⟨(some 10), .mov (.s 2), none, 16⟩,
       ⟨(some 11), .mov (.s 3), none, 32⟩,
       ⟨(some 12), .call 31 [(.s 9), (.s 10), (.s 11)], none, 48⟩,
       ⟨(some 13), .not (.s 12), none, 64⟩])
     (.cond (.s 13)
      (.seq
       (.reg [
         ⟨(some 8), .mov (.k (.c (.v (.int .i64 0)))), none, 0⟩])
       .ret)
      .skip))
    (.seq
     (.seq
      (.reg [
        ⟨(some 14), .mov (.s 0), none, 0⟩,
        ⟨(some 15), .bin .eql (.s 14) (.k (.c (.v (.int .i64 2)))), none, 16⟩])
      (.cond (.s 15)
       (.seq
        (.reg [
          ⟨(some 16), .mov (.s 3), none, 0⟩,
          ⟨(some 17), .mov (.s 1), none, 16⟩,
          ⟨(some 18), .bin .sub (.s 17) (.k (.c (.v (.int .i64 1)))), none, 32⟩,
          ⟨(some 19), .mov (.s 2), none, 48⟩,
          ⟨(some 20), .bin .sub (.s 18) (.s 19), none, 64⟩,
          ⟨(some 21), .mm false (.s 16) (.s 20), none, 80⟩,
          ⟨(some 8), .mov (.s 21), none, 96⟩])
        .ret)
       .skip))
     (.seq
      (.reg [
        ⟨(some 22), .mov (.s 3), none, 0⟩,
        ⟨(some 8), .mov (.s 22), none, 16⟩])
      .ret))))

/- loop.example/g01407/spec.InsWord · results in [(2, 0)] -/
def c13 : ACode :=
  (.seq
   (.reg [
     ⟨(some 2), .mov (.k (.c (.v (.string ⟨#[]⟩)))), none, 0⟩])
   (.seq
    (.seq
     (.reg [
       ⟨(some 3), .mov (.s 0), none, 0⟩,
       ⟨(some 4), .call 30 [(.s 3), (.k (.c (.v (.int .i64 1)))), (.k (.c (.v (.int .i64 8))))], none, 16⟩,
       ⟨(some 5), .not (.s 4), none, 32⟩])
     (.cond (.s 5)
      (.seq
       (.reg [
         ⟨(some 2), .mov (.k (.c (.v (.string ⟨#[]⟩)))), none, 0⟩])
       .ret)
      .skip))
    (.seq
     (.reg [
       ⟨(some 6), .bsl 9 1 [(.k (.c (.v (.string ⟨#[114, 101, 99, 118]⟩)))), (.k (.c (.v (.string ⟨#[102, 119, 100]⟩)))), (.k (.c (.v (.string ⟨#[115, 101, 110, 100]⟩)))), (.k (.c (.v (.string ⟨#[114, 101, 99, 118, 103]⟩)))), (.k (.c (.v (.string ⟨#[114, 101, 100, 111]⟩)))), (.k (.c (.v (.string ⟨#[98, 119, 100]⟩)))), (.k (.c (.v (.string ⟨#[115, 101, 110, 100, 103]⟩)))), (.k (.c (.v (.string ⟨#[102, 108, 117, 115, 104]⟩))))], none, 0⟩,
       ⟨(some 7), .mov (.s 0), none, 16⟩,
       ⟨(some 8), .bin .sub (.s 7) (.k (.c (.v (.int .i64 1)))), none, 32⟩,
       ⟨(some 9), .iad (.s 6) (.s 8) 1, none, 48⟩,
       ⟨(some 10), .load (.s 9) 1 false, none, 64⟩,
       ⟨(some 2), .mov (.s 10), none, 80⟩])
     .ret)))

/- loop.example/g01407/impl.InsWord · results in [(2, 0)] -/
def c14 : ACode :=
  (.seq
   (.reg [
     ⟨(some 2), .mov (.k (.c (.v (.string ⟨#[]⟩)))), none, 0⟩])
   (.seq
    (.seq
     (.reg [
       ⟨(some 3), .mov (.s 0), none, 0⟩])
     (.block 0
      (.seq
       (.reg [
         ⟨(some 5), .bin .eql (.s 3) (.k (.c (.v (.int .i64 1)))), none, 0⟩,
         ⟨(some 4), .mov (.s 5), none, 16⟩])
       (.cond (.s 4)
        (.seq
         (.reg [
           ⟨(some 2), .mov (.k (.c (.v (.string ⟨#[114, 101, 99, 118]⟩)))), none, 0⟩])
         .ret)
        (.seq
         (.reg [
           ⟨(some 7), .bin .eql (.s 3) (.k (.c (.v (.int .i64 2)))), none, 0⟩,
           ⟨(some 6), .mov (.s 7), none, 16⟩])
         (.cond (.s 6)
          (.seq
           (.reg [
             ⟨(some 2), .mov (.k (.c (.v (.string ⟨#[102, 119, 100]⟩)))), none, 0⟩])
           .ret)
          (.seq
           (.reg [
             ⟨(some 9), .bin .eql (.s 3) (.k (.c (.v (.int .i64 3)))), none, 0⟩,
             ⟨(some 8), .mov (.s 9), none, 16⟩])
           (.cond (.s 8)
            (.seq
             (.reg [
               ⟨(some 2), .mov (.k (.c (.v (.string ⟨#[115, 101, 110, 100]⟩)))), none, 0⟩])
             .ret)
            (.seq
             (.reg [
               ⟨(some 11), .bin .eql (.s 3) (.k (.c (.v (.int .i64 4)))), none, 0⟩,
               ⟨(some 10), .mov (.s 11), none, 16⟩])
             (.cond (.s 10)
              (.seq
               (.reg [
                 ⟨(some 2), .mov (.k (.c (.v (.string ⟨#[114, 101, 99, 118, 103]⟩)))), none, 0⟩])
               .ret)
              (.seq
               (.reg [
                 ⟨(some 13), .bin .eql (.s 3) (.k (.c (.v (.int .i64 5)))), none, 0⟩,
                 ⟨(some 12), .mov (.s 13), none, 16⟩])
               (.cond (.s 12)
                (.seq
                 (.reg [
                   ⟨(some 2), .mov (.k (.c (.v (.string ⟨#[114, 101, 100, 111]⟩)))), none, 0⟩])
                 .ret)
                (.seq
                 (.reg [
                   ⟨(some 15), .bin .eql (.s 3) (.k (.c (.v (.int .i64 6)))), none, 0⟩,
                   ⟨(some 14), .mov (.s 15), none, 16⟩])
                 (.cond (.s 14)
                  (.seq
                   (.reg [
                     ⟨(some 2), .mov (.k (.c (.v (.string ⟨#[98, 119, 100]⟩)))), none, 0⟩])
                   .ret)
                  (.seq
                   (.reg [
                     ⟨(some 17), .bin .eql (.s 3) (.k (.c (.v (.int .i64 7)))), none, 0⟩,
                     ⟨(some 16), .mov (.s 17), none, 16⟩])
                   (.cond (.s 16)
                    (.seq
                     (.reg [
                       ⟨(some 2), .mov (.k (.c (.v (.string ⟨#[115, 101, 110, 100, 103]⟩)))), none, 0⟩])
                     .ret)
                    (.seq
                     (.reg [
                       ⟨(some 19), .bin .eql (.s 3) (.k (.c (.v (.int .i64 8)))), none, 0⟩,
                       ⟨(some 18), .mov (.s 19), none, 16⟩])
                     (.cond (.s 18)
                      (.seq
                       (.reg [
                         ⟨(some 2), .mov (.k (.c (.v (.string ⟨#[102, 108, 117, 115, 104]⟩)))), none, 0⟩])
                       .ret)
                      .skip))))))))))))))))))
    (.seq
     (.reg [
       ⟨(some 2), .mov (.k (.c (.v (.string ⟨#[]⟩)))), none, 0⟩])
     .ret)))

/- loop.example/g01407/laws.FnExactWarmUp · results in [(8, 0)] -/
def c4 : ACode :=
  (.seq
   (.reg [
     ⟨(some 8), .mov (.k (.c (.v (.bool false)))), none, 0⟩])
   (.seq
    (.reg [
      ⟨(some 11), .mov (.s 0), none, 0⟩,
      ⟨(some 12), .mov (.s 1), none, 16⟩,
      ⟨(some 13), .mov (.s 2), none, 32⟩,
      ⟨(some 14), .mov (.s 3), none, 48⟩,
      ⟨(some 15), .call 11 [(.s 11), (.s 12), (.s 13), (.s 14)], none, 64⟩,
      ⟨(some 9), .mov (.s 15), none, 80⟩])
    (.seq
     (.reg [
       ⟨(some 16), .mov (.s 0), none, 0⟩,
       ⟨(some 17), .mov (.s 1), none, 16⟩,
       ⟨(some 18), .mov (.s 2), none, 32⟩,
       ⟨(some 19), .mov (.s 3), none, 48⟩,
       ⟨(some 20), .call 12 [(.s 16), (.s 17), (.s 18), (.s 19)], none, 64⟩,
       ⟨(some 10), .mov (.s 20), none, 80⟩])
     (.seq
      (.seq
       (.reg [
         ⟨(some 21), .mov (.s 10), none, 0⟩,
         ⟨(some 22), .mov (.s 9), none, 16⟩,
         ⟨(some 23), .bin .neq (.s 21) (.s 22), none, 32⟩])
       (.cond (.s 23)
        (.seq
         (.reg [
           ⟨(some 8), .mov (.k (.c (.v (.bool false)))), none, 0⟩])
         .ret)
        .skip))
      (.seq
       (.reg [
         ⟨(some 8), .mov (.k (.c (.v (.bool true)))), none, 0⟩])
       .ret)))))

/- loop.example/g01407/laws.FnExactInsWord · results in [(2, 0)] -/
def c5 : ACode :=
  (.seq
   (.reg [
     ⟨(some 2), .mov (.k (.c (.v (.bool false)))), none, 0⟩])
   (.seq
    (.reg [
      ⟨(some 5), .mov (.s 0), none, 0⟩,
      ⟨(some 6), .call 13 [(.s 5)], none, 16⟩,
      ⟨(some 3), .mov (.s 6), none, 32⟩])
    (.seq
     (.reg [
       ⟨(some 7), .mov (.s 0), none, 0⟩,
       ⟨(some 8), .call 14 [(.s 7)], none, 16⟩,
       ⟨(some 4), .mov (.s 8), none, 32⟩])
     (.seq
      (.seq
       (.reg [
         ⟨(some 9), .mov (.s 4), none, 0⟩,
         ⟨(some 10), .mov (.s 3), none, 16⟩,
         ⟨(some 11), .bin .neq (.s 9) (.s 10), none, 32⟩])
       (.cond (.s 11)
        (.seq
         (.reg [
           ⟨(some 2), .mov (.k (.c (.v (.bool false)))), none, 0⟩])
         .ret)
        .skip))
      (.seq
       (.reg [
         ⟨(some 2), .mov (.k (.c (.v (.bool true)))), none, 0⟩])
       .ret)))))

/- loop.example/g01407/impl.planned · results in [(6, 0)] -/
def c31 : ACode :=
  (.seq
   (.reg [
     ⟨(some 6), .mov (.k (.c (.v (.bool false)))), none, 0⟩])
   (.seq
    (.reg [
      ⟨(some 7), .mov (.s 0), none, 0⟩,
      ⟨(some 8), .bin .geq (.s 7) (.k (.c (.v (.int .i64 1)))), none, 16⟩,
      ⟨(some 9), .mov (.s 8), none, 32⟩,
      ⟨(some 10), .mov (.s 0), (some (9, true)), 48⟩,
      ⟨(some 11), .bin .leq (.s 10) (.k (.c (.v (.int .i64 4)))), (some (9, true)), 64⟩,
      ⟨(some 12), .pick (.s 9) (.s 11) (.k (.c (.v (.bool false)))), none, 80⟩,
      ⟨(some 13), .mov (.s 12), none, 96⟩,
      ⟨(some 14), .mov (.s 1), (some (13, true)), 112⟩,
      ⟨(some 15), .bin .geq (.s 14) (.k (.c (.v (.int .i64 0)))), (some (13, true)), 128⟩,
      ⟨(some 16), .pick (.s 13) (.s 15) (.k (.c (.v (.bool false)))), none, 144⟩,
      ⟨(some 17), .mov (.s 16), none, 160⟩,
      ⟨(some 18), .mov (.s 1), (some (17, true)), 176⟩,
      ⟨(some 19), .mov (.s 0), (some (17, true)), 192⟩,
      ⟨(some 20), .bin .lss (.s 18) (.s 19), (some (17, true)), 208⟩,
      ⟨(some 21), .pick (.s 17) (.s 20) (.k (.c (.v (.bool false)))), none, 224⟩,
      ⟨(some 22), .mov (.s 21), none, 240⟩,
      ⟨(some 23), .mov (.s 2), (some (22, true)), 256⟩,
      ⟨(some 24), .bin .geq (.s 23) (.k (.c (.v (.int .i64 1)))), (some (22, true)), 272⟩,
      ⟨(some 25), .pick (.s 22) (.s 24) (.k (.c (.v (.bool false)))), none, 288⟩,
      ⟨(some 26), .mov (.s 25), none, 304⟩,
      ⟨(some 27), .mov (.s 2), (some (26, true)), 320⟩,
      ⟨(some 28), .bin .leq (.s 27) (.k (.c (.v (.int .i64 5)))), (some (26, true)), 336⟩,
      ⟨(some 29), .pick (.s 26) (.s 28) (.k (.c (.v (.bool false)))), none, 352⟩,
      ⟨(some 6), .mov (.s 29), none, 368⟩])
    .ret))

theorem st13 : compF Try.prog 13 = some (c13, [.t 2], 11) := by kernel_rfl
theorem st14 : compF Try.prog 14 = some (c14, [.t 2], 20) := by kernel_rfl
theorem st5 : compF Try.prog 5 = some (c5, [.t 2], 12) := by kernel_rfl
theorem st11 : compF Try.prog 11 = some (c11, [.t 8], 33) := by kernel_rfl
theorem st31 : compF Try.prog 31 = some (c31, [.t 6], 30) := by kernel_rfl
theorem st4 : compF Try.prog 4 = some (c4, [.t 8], 24) := by kernel_rfl

def insWord (n : Int) : ByteArray :=
  if n = 1 then ⟨#[114, 101, 99, 118]⟩ else
  if n = 2 then ⟨#[102, 119, 100]⟩ else
  if n = 3 then ⟨#[115, 101, 110, 100]⟩ else
  if n = 4 then ⟨#[114, 101, 99, 118, 103]⟩ else
  if n = 5 then ⟨#[114, 101, 100, 111]⟩ else
  if n = 6 then ⟨#[98, 119, 100]⟩ else
  if n = 7 then ⟨#[115, 101, 110, 100, 103]⟩ else
  if n = 8 then ⟨#[102, 108, 117, 115, 104]⟩ else
  ⟨#[]⟩

theorem con13 (x : Int) : Con Try.prog 13 [int x] ⟨str (insWord x), [], [], true⟩ := by
  refine con_fn mixed ok30 st13 (by simp) ?_
  by_cases hx : 1 ≤ x ∧ x ≤ 8
  · have h8 : x = 1 ∨ x = 2 ∨ x = 3 ∨ x = 4 ∨ x = 5 ∨ x = 6 ∨ x = 7 ∨ x = 8 := by omega
    rcases h8 with rfl | rfl | rfl | rfl | rfl | rfl | rfl | rfl <;>
    · simp [c13, awp, regK, delta, start, layS, layB, Opd.ev, St.app, St.bump, putO, updL, upd, int, biv, AV.argL, AV.arg, one, d30, bool, AV.sh, AV.sh2, AV.sh1, AV.lent, numbered, boxes, elems, AV.ds, AV.d, AV.cells, intOfAV, frz, AV.refs, AV.ref1, AV.refsL, Blk.alive, inB, Blk.sh, cut, packed, IntKind.wrap, IntKind.bits, IntKind.signed]
      exact ends0 (by trivial) rfl rfl
  · have hw : insWord x = ⟨#[]⟩ := by unfold insWord; repeat (rw [if_neg (by omega)])
    have hb : inB x 1 8 = false := by simp [inB]; omega
    simp [c13, awp, regK, delta, start, layS, layB, Opd.ev, St.app, St.bump, putO, updL, upd, int, biv, AV.argL, AV.arg, one, d30, bool, AV.sh, AV.sh2, AV.sh1, AV.lent, numbered, boxes, hb, frz, AV.refs, AV.ref1, AV.refsL, Blk.sh]
    exact ends0 (by trivial) rfl (by rw [hw]; rfl)

theorem con14 (x : Int) : Con Try.prog 14 [int x] ⟨str (insWord x), [], [], true⟩ := by
  refine con_fn mixed ok_none st14 (by simp) ?_
  by_cases hx : 1 ≤ x ∧ x ≤ 8
  · have h8 : x = 1 ∨ x = 2 ∨ x = 3 ∨ x = 4 ∨ x = 5 ∨ x = 6 ∨ x = 7 ∨ x = 8 := by omega
    rcases h8 with rfl | rfl | rfl | rfl | rfl | rfl | rfl | rfl <;>
    · simp [c14, awp, regK, delta, start, layS, layB, Opd.ev, St.app, St.bump, putO, updL, upd, int, biv]
      exact ends0 (by trivial) rfl rfl
  · have hw : insWord x = ⟨#[]⟩ := by unfold insWord; repeat (rw [if_neg (by omega)])
    have g1 : x ≠ 1 := by omega
    have g2 : x ≠ 2 := by omega
    have g3 : x ≠ 3 := by omega
    have g4 : x ≠ 4 := by omega
    have g5 : x ≠ 5 := by omega
    have g6 : x ≠ 6 := by omega
    have g7 : x ≠ 7 := by omega
    have g8 : x ≠ 8 := by omega
    simp [c14, awp, regK, delta, start, layS, layB, Opd.ev, St.app, St.bump, putO, updL, upd, int, biv, g1, g2, g3, g4, g5, g6, g7, g8]
    exact ends0 (by trivial) rfl (by rw [hw]; rfl)

def d13 : List AV → Option Res
  | [.c (.v (.int .i64 x))] => some ⟨str (insWord x), [], [], false⟩
  | _ => none
theorem ok13 : TabOk Try.prog (one 13 d13) := ok_one fun args r h => by
  unfold d13 at h
  split at h
  · cases h; exact (con13 _).plain
  · cases h
theorem ok14 : TabOk Try.prog (one 14 d13) := ok_one fun args r h => by
  unfold d13 at h
  split at h
  · cases h; exact (con14 _).plain
  · cases h

theorem con5 (x : Int) : Con Try.prog 5 [int x] ⟨bool true, [], [], true⟩ := by
  refine con_fn mixed (ok_or ok13 ok14) st5 (by simp) ?_
  simp [c5, awp, regK, delta, start, layS, layB, Opd.ev, St.app, St.bump, putO, updL, upd, int, biv, AV.argL, AV.arg, one, Tab.or, d13, str, bool, AV.sh, AV.sh2, AV.sh1, AV.lent, numbered, boxes, AV.refs, AV.ref1, AV.refsL, frz, Blk.sh]
  exact ends0 (by trivial) rfl rfl
end Go.Proofs.Ytjigmfomaoanmaa.Am
