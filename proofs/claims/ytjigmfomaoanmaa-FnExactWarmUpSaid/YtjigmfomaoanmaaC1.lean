/-
  THE LAW OF THE ADMITTED WORD, BY THE ABSTRACT MACHINE.
-/
import Derived.Test.YtjigmfomaoanmaaRows
import Derived.Test.YtjigmfomaoanmaaAmT
namespace Go.Proofs.Ytjigmfomaoanmaa.Am
open Go Go.RowKit Go.Proofs.Ytjigmfomaoanmaa
/- loop.example/g01407/spec.l1In · results in [(6, 0)] -/
def c30 : ACode :=
  (.seq
   (.reg [
     ⟨(some 6), .mov (.k (.c (.v (.bool false)))), none, 0⟩])
   (.seq
    (.reg [
      ⟨(some 7), .mov (.s 0), none, 0⟩,
      ⟨(some 8), .mov (.s 1), none, 16⟩,
      ⟨(some 9), .bin .geq (.s 7) (.s 8), none, 32⟩,
      ⟨(some 10), .mov (.s 9), none, 48⟩,
      ⟨(some 11), .mov (.s 0), (some (10, true)), 64⟩,
      ⟨(some 12), .mov (.s 2), (some (10, true)), 80⟩,
      ⟨(some 13), .bin .leq (.s 11) (.s 12), (some (10, true)), 96⟩,
      ⟨(some 14), .pick (.s 10) (.s 13) (.k (.c (.v (.bool false)))), none, 112⟩,
      ⟨(some 6), .mov (.s 14), none, 128⟩])
    .ret))

/- loop.example/g01407/spec.AdmitWord · results in [(2, 0)] -/
def c9 : ACode :=
  (.seq
   (.reg [
     ⟨(some 2), .mov (.k (.c (.v (.string ⟨#[]⟩)))), none, 0⟩])
   (.seq
    (.seq
     (.reg [
       ⟨(some 3), .mov (.s 0), none, 0⟩,
       ⟨(some 4), .call 30 [(.s 3), (.k (.c (.v (.int .i64 0)))), (.k (.c (.v (.int .i64 7))))], none, 16⟩,
       ⟨(some 5), .not (.s 4), none, 32⟩])
     (.cond (.s 5)
      (.seq
       (.reg [
         ⟨(some 2), .mov (.k (.c (.v (.string ⟨#[]⟩)))), none, 0⟩])
       .ret)
      .skip))
    (.seq
     (.reg [
       ⟨(some 6), .bsl 9 1 [(.k (.c (.v (.string ⟨#[111, 107]⟩)))), (.k (.c (.v (.string ⟨#[109, 111, 100, 101, 108]⟩)))), (.k (.c (.v (.string ⟨#[98, 97, 116, 99, 104]⟩)))), (.k (.c (.v (.string ⟨#[99, 117, 116, 115]⟩)))), (.k (.c (.v (.string ⟨#[112, 108, 97, 110]⟩)))), (.k (.c (.v (.string ⟨#[114, 101, 100, 111]⟩)))), (.k (.c (.v (.string ⟨#[113, 117, 101, 117, 101]⟩)))), (.k (.c (.v (.string ⟨#[109, 101, 109, 111, 114, 121]⟩))))], none, 0⟩,
       ⟨(some 7), .mov (.s 0), none, 16⟩,
       ⟨(some 8), .iad (.s 6) (.s 7) 1, none, 32⟩,
       ⟨(some 9), .load (.s 8) 1 false, none, 48⟩,
       ⟨(some 2), .mov (.s 9), none, 64⟩])
     .ret)))

/- loop.example/g01407/impl.AdmitWord · results in [(2, 0)] -/
def c10 : ACode :=
  (.seq
   (.reg [
     ⟨(some 2), .mov (.k (.c (.v (.string ⟨#[]⟩)))), none, 0⟩])
   (.seq
    (.reg [
      ⟨(some 4), .bsl 9 1 [(.k (.c (.v (.string ⟨#[111, 107]⟩)))), (.k (.c (.v (.string ⟨#[109, 111, 100, 101, 108]⟩)))), (.k (.c (.v (.string ⟨#[98, 97, 116, 99, 104]⟩)))), (.k (.c (.v (.string ⟨#[99, 117, 116, 115]⟩)))), (.k (.c (.v (.string ⟨#[112, 108, 97, 110]⟩)))), (.k (.c (.v (.string ⟨#[114, 101, 100, 111]⟩)))), (.k (.c (.v (.string ⟨#[113, 117, 101, 117, 101]⟩)))), (.k (.c (.v (.string ⟨#[109, 101, 109, 111, 114, 121]⟩))))], none, 0⟩,
      ⟨(some 3), .mov (.s 4), none, 16⟩])
    (.seq
     (.seq
      (.reg [
        ⟨(some 5), .mov (.s 0), none, 0⟩,
        ⟨(some 6), .bin .lss (.s 5) (.k (.c (.v (.int .i64 0)))), none, 16⟩,
        ⟨(some 7), .mov (.s 6), none, 32⟩,
        ⟨(some 8), .mov (.s 0), (some (7, false)), 48⟩,
        ⟨(some 9), .mov (.s 3), (some (7, false)), 64⟩,
        ⟨(some 10), .len (.s 9), (some (7, false)), 80⟩,
        ⟨(some 11), .bin .geq (.s 8) (.s 10), (some (7, false)), 96⟩,
        ⟨(some 12), .pick (.s 7) (.k (.c (.v (.bool true)))) (.s 11), none, 112⟩])
      (.cond (.s 12)
       (.seq
        (.reg [
          ⟨(some 2), .mov (.k (.c (.v (.string ⟨#[]⟩)))), none, 0⟩])
        .ret)
       .skip))
     (.seq
      (.reg [
        ⟨(some 13), .mov (.s 3), none, 0⟩,
        ⟨(some 14), .mov (.s 0), none, 16⟩,
        ⟨(some 15), .iad (.s 13) (.s 14) 1, none, 32⟩,
        ⟨(some 16), .load (.s 15) 1 false, none, 48⟩,
        ⟨(some 2), .mov (.s 16), none, 64⟩])
      .ret))))

/- loop.example/g01407/laws.FnExactAdmitWord · results in [(2, 0)] -/
def c3 : ACode :=
  (.seq
   (.reg [
     ⟨(some 2), .mov (.k (.c (.v (.bool false)))), none, 0⟩])
   (.seq
    (.reg [
      ⟨(some 5), .mov (.s 0), none, 0⟩,
      ⟨(some 6), .call 9 [(.s 5)], none, 16⟩,
      ⟨(some 3), .mov (.s 6), none, 32⟩])
    (.seq
     (.reg [
       ⟨(some 7), .mov (.s 0), none, 0⟩,
       ⟨(some 8), .call 10 [(.s 7)], none, 16⟩,
       ⟨(some 4), .mov (.s 8), none, 32⟩])
     (.seq
      (.seq
       (.reg [
         ⟨(some 9), .mov (.s 4), none, 0⟩,
         ⟨(some 10), .mov (.s 3), none, 16⟩,
         ⟨(some 11), .bin .neq (.s 9) (.s 10), none, 32⟩])
       (.cond (.s 11)
        (.seq
         (.reg [
           ⟨(some 2), .mov (.k (.c (.v (.bool false)))), none, 0⟩])
         .ret)
        .skip))
      (.seq
       (.reg [
         ⟨(some 2), .mov (.k (.c (.v (.bool true)))), none, 0⟩])
       .ret)))))

theorem mixed : Try.prog.follows .mixedOrders = true := by kernel_rfl
def int (n : Int) : AV := .c (.v (.int .i64 n))
def bool (b : Bool) : AV := .c (.v (.bool b))
def str (b : ByteArray) : AV := .c (.v (.string b))
def inB (x a b : Int) : Bool := decide (a ≤ x) && decide (x ≤ b)

theorem st30 : compF Try.prog 30 = some (c30, [.t 6], 15) := by kernel_rfl
theorem st9 : compF Try.prog 9 = some (c9, [.t 2], 10) := by kernel_rfl
theorem st10 : compF Try.prog 10 = some (c10, [.t 2], 17) := by kernel_rfl
theorem st3 : compF Try.prog 3 = some (c3, [.t 2], 12) := by kernel_rfl

theorem con30 (x a b : Int) : Con Try.prog 30 [int x, int a, int b] ⟨bool (inB x a b), [], [], true⟩ := by
  refine con_fn mixed ok_none st30 (by simp) ?_
  by_cases h : a ≤ x <;>
  · simp [c30, awp, regK, delta, start, layS, layB, Opd.ev, St.app, St.bump, putO, updL, upd, int, biv, h]
    exact ends0 (by trivial) rfl (by simp [AV.rn, AV.rn2, AV.rn1, upd, bool, inB, h])

def d30 : List AV → Option Res
  | [.c (.v (.int .i64 x)), .c (.v (.int .i64 a)), .c (.v (.int .i64 b))] => some ⟨bool (inB x a b), [], [], false⟩
  | _ => none
theorem ok30 : TabOk Try.prog (one 30 d30) := ok_one fun args r h => by
  unfold d30 at h
  split at h
  · cases h; exact (con30 _ _ _).plain
  · cases h

def word (n : Int) : ByteArray :=
  if n = 0 then ⟨#[111, 107]⟩ else
  if n = 1 then ⟨#[109, 111, 100, 101, 108]⟩ else
  if n = 2 then ⟨#[98, 97, 116, 99, 104]⟩ else
  if n = 3 then ⟨#[99, 117, 116, 115]⟩ else
  if n = 4 then ⟨#[112, 108, 97, 110]⟩ else
  if n = 5 then ⟨#[114, 101, 100, 111]⟩ else
  if n = 6 then ⟨#[113, 117, 101, 117, 101]⟩ else
  if n = 7 then ⟨#[109, 101, 109, 111, 114, 121]⟩ else
  ⟨#[]⟩

theorem con9 (x : Int) : Con Try.prog 9 [int x] ⟨str (word x), [], [], true⟩ := by
  refine con_fn mixed ok30 st9 (by simp) ?_
  by_cases hx : 0 ≤ x ∧ x ≤ 7
  · have h8 : x = 0 ∨ x = 1 ∨ x = 2 ∨ x = 3 ∨ x = 4 ∨ x = 5 ∨ x = 6 ∨ x = 7 := by omega
    rcases h8 with rfl | rfl | rfl | rfl | rfl | rfl | rfl | rfl <;>
    · simp [c9, awp, regK, delta, start, layS, layB, Opd.ev, St.app, St.bump, putO, updL, upd, int, biv, AV.argL, AV.arg, one, d30, bool, AV.sh, AV.sh2, AV.sh1, AV.lent, numbered, boxes, elems, AV.ds, AV.d, AV.cells, intOfAV, frz, AV.refs, AV.ref1, AV.refsL, Blk.alive, inB, Blk.sh, cut, packed]
      exact ends0 (by trivial) rfl rfl
  · have hw : word x = ⟨#[]⟩ := by unfold word; repeat (rw [if_neg (by omega)])
    simp [c9, awp, regK, delta, start, layS, layB, Opd.ev, St.app, St.bump, putO, updL, upd, int, biv, AV.argL, AV.arg, one, d30, bool, AV.sh, AV.sh2, AV.sh1, AV.lent, numbered, boxes, elems, AV.ds, AV.d, AV.cells, intOfAV, frz, AV.refs, AV.ref1, AV.refsL, Blk.alive, inB, Blk.sh, cut, packed]
    refine ⟨fun _ => ends0 (by trivial) rfl (by rw [hw]; rfl), fun h1 h2 => absurd ⟨h1, h2⟩ hx⟩

theorem con10 (x : Int) : Con Try.prog 10 [int x] ⟨str (word x), [], [], true⟩ := by
  refine con_fn mixed ok_none st10 (by simp) ?_
  by_cases hx : 0 ≤ x ∧ x ≤ 7
  · have h8 : x = 0 ∨ x = 1 ∨ x = 2 ∨ x = 3 ∨ x = 4 ∨ x = 5 ∨ x = 6 ∨ x = 7 := by omega
    rcases h8 with rfl | rfl | rfl | rfl | rfl | rfl | rfl | rfl <;>
    · simp [c10, awp, regK, delta, start, layS, layB, Opd.ev, St.app, St.bump, putO, updL, upd, int, biv, elems, AV.ds, AV.d, AV.cells, intOfAV, frz, AV.refs, AV.ref1, AV.refsL, Blk.alive, cut, packed]
      exact ends0 (by trivial) rfl rfl
  · have hw : word x = ⟨#[]⟩ := by unfold word; repeat (rw [if_neg (by omega)])
    by_cases h1 : x < 0
    · simp [c10, awp, regK, delta, start, layS, layB, Opd.ev, St.app, St.bump, putO, updL, upd, int, biv, elems, AV.ds, AV.d, AV.cells, intOfAV, frz, AV.refs, AV.ref1, AV.refsL, Blk.alive, cut, packed, h1]
      exact ends0 (by trivial) rfl (by rw [hw]; rfl)
    · have h2 : 8 ≤ x := by omega
      simp [c10, awp, regK, delta, start, layS, layB, Opd.ev, St.app, St.bump, putO, updL, upd, int, biv, elems, AV.ds, AV.d, AV.cells, intOfAV, frz, AV.refs, AV.ref1, AV.refsL, Blk.alive, cut, packed, h1, h2]
      exact ends0 (by trivial) rfl (by rw [hw]; rfl)

def d9 : List AV → Option Res
  | [.c (.v (.int .i64 x))] => some ⟨str (word x), [], [], false⟩
  | _ => none
theorem ok9 : TabOk Try.prog (one 9 d9) := ok_one fun args r h => by
  unfold d9 at h
  split at h
  · cases h; exact (con9 _).plain
  · cases h
theorem ok10 : TabOk Try.prog (one 10 d9) := ok_one fun args r h => by
  unfold d9 at h
  split at h
  · cases h; exact (con10 _).plain
  · cases h

theorem con3 (x : Int) : Con Try.prog 3 [int x] ⟨bool true, [], [], true⟩ := by
  refine con_fn mixed (ok_or ok9 ok10) st3 (by simp) ?_
  simp [c3, awp, regK, delta, start, layS, layB, Opd.ev, St.app, St.bump, putO, updL, upd, int, biv, AV.argL, AV.arg, one, Tab.or, d9, str, bool, AV.sh, AV.sh2, AV.sh1, AV.lent, numbered, boxes, AV.refs, AV.ref1, AV.refsL, frz, Blk.sh]
  exact ends0 (by trivial) rfl rfl
end Go.Proofs.Ytjigmfomaoanmaa.Am
