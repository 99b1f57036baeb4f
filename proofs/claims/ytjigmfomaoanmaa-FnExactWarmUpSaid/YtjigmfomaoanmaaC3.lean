/-
  THE LAW OF THE WARMING UP, BY THE ABSTRACT MACHINE.
-/
import Derived.Test.YtjigmfomaoanmaaC2
namespace Go.Proofs.Ytjigmfomaoanmaa.Am
open Go Go.RowKit Go.Proofs.Ytjigmfomaoanmaa

theorem st12 : compF Try.prog 12 = some (c12, [.t 8], 23) := by kernel_rfl

def pl (st s m : Int) : Bool := inB st 1 4 && inB s 0 (st - 1) && inB m 1 5
def warm (ds st s m : Int) : Int := if pl st s m then (if ds = 2 then (if st - 1 - s < m then st - 1 - s else m) else m) else 0
theorem wrap_of (n : Int) (h1 : -9223372036854775808 ≤ n) (h2 : n < 9223372036854775808) : IntKind.i64.wrap n = n := IntWalk.i64_in n (by omega)

theorem con31 (st s m : Int) : Con Try.prog 31 [int st, int s, int m] ⟨bool (pl st s m), [], [], true⟩ := by
  refine con_fn mixed ok_none st31 (by simp) ?_
  by_cases h1 : 1 ≤ st
  rotate_left
  · simp [c31, awp, regK, delta, start, layS, layB, Opd.ev, St.app, St.bump, putO, updL, upd, int, biv, *]
    refine ends0 (by trivial) rfl ?_
    simp [AV.rn, AV.rn2, AV.rn1, upd, bool, pl, inB, *]
    try omega
  by_cases h2 : st ≤ 4
  rotate_left
  · simp [c31, awp, regK, delta, start, layS, layB, Opd.ev, St.app, St.bump, putO, updL, upd, int, biv, *]
    refine ends0 (by trivial) rfl ?_
    simp [AV.rn, AV.rn2, AV.rn1, upd, bool, pl, inB, *]
    try omega
  by_cases h3 : 0 ≤ s
  rotate_left
  · simp [c31, awp, regK, delta, start, layS, layB, Opd.ev, St.app, St.bump, putO, updL, upd, int, biv, *]
    refine ends0 (by trivial) rfl ?_
    simp [AV.rn, AV.rn2, AV.rn1, upd, bool, pl, inB, *]
    try omega
  by_cases h4 : s < st
  rotate_left
  · simp [c31, awp, regK, delta, start, layS, layB, Opd.ev, St.app, St.bump, putO, updL, upd, int, biv, *]
    refine ends0 (by trivial) rfl ?_
    simp [AV.rn, AV.rn2, AV.rn1, upd, bool, pl, inB, *]
    try omega
  by_cases h5 : 1 ≤ m
  rotate_left
  · simp [c31, awp, regK, delta, start, layS, layB, Opd.ev, St.app, St.bump, putO, updL, upd, int, biv, *]
    refine ends0 (by trivial) rfl ?_
    simp [AV.rn, AV.rn2, AV.rn1, upd, bool, pl, inB, *]
    try omega
  by_cases h6 : m ≤ 5
  rotate_left
  · simp [c31, awp, regK, delta, start, layS, layB, Opd.ev, St.app, St.bump, putO, updL, upd, int, biv, *]
    refine ends0 (by trivial) rfl ?_
    simp [AV.rn, AV.rn2, AV.rn1, upd, bool, pl, inB, *]
    try omega
  simp [c31, awp, regK, delta, start, layS, layB, Opd.ev, St.app, St.bump, putO, updL, upd, int, biv, *]
  refine ends0 (by trivial) rfl ?_
  simp [AV.rn, AV.rn2, AV.rn1, upd, bool, pl, inB, *]
  try omega

def d31 : List AV → Option Res
  | [.c (.v (.int .i64 st)), .c (.v (.int .i64 s)), .c (.v (.int .i64 m))] => some ⟨bool (pl st s m), [], [], false⟩
  | _ => none
theorem ok31 : TabOk Try.prog (one 31 d31) := ok_one fun args r h => by
  unfold d31 at h
  split at h
  · cases h; exact (con31 _ _ _).plain
  · cases h

theorem inB_spec {x a b : Int} (h : inB x a b = true) : a ≤ x ∧ x ≤ b := by simpa [inB] using h

theorem con11 (ds st s m : Int) : Con Try.prog 11 [int ds, int st, int s, int m] ⟨int (warm ds st s m), [], [], true⟩ := by
  refine con_fn mixed ok30 st11 (by simp) ?_
  cases h1 : inB st 1 4
  · simp [c11, awp, regK, delta, start, layS, layB, Opd.ev, St.app, St.bump, putO, updL, upd, int, biv, AV.argL, AV.arg, one, d30, bool, AV.sh, AV.sh2, AV.sh1, AV.lent, numbered, boxes, frz, AV.refs, AV.ref1, AV.refsL, Blk.sh, h1]
    exact ends0 (by trivial) rfl (by simp [AV.rn, AV.rn2, AV.rn1, upd, warm, pl, h1])
  · have b1 := inB_spec h1
    have hw : IntKind.i64.wrap (st - 1) = st - 1 := wrap_of _ (by omega) (by omega)
    cases h2 : inB s 0 (st - 1)
    · simp [c11, awp, regK, delta, start, layS, layB, Opd.ev, St.app, St.bump, putO, updL, upd, int, biv, AV.argL, AV.arg, one, d30, bool, AV.sh, AV.sh2, AV.sh1, AV.lent, numbered, boxes, frz, AV.refs, AV.ref1, AV.refsL, Blk.sh, h1, hw, h2]
      exact ends0 (by trivial) rfl (by simp [AV.rn, AV.rn2, AV.rn1, upd, warm, pl, h1, h2])
    · have b2 := inB_spec h2
      have hw2 : IntKind.i64.wrap (st - 1 - s) = st - 1 - s := wrap_of _ (by omega) (by omega)
      cases h3 : inB m 1 5
      · simp [c11, awp, regK, delta, start, layS, layB, Opd.ev, St.app, St.bump, putO, updL, upd, int, biv, AV.argL, AV.arg, one, d30, bool, AV.sh, AV.sh2, AV.sh1, AV.lent, numbered, boxes, frz, AV.refs, AV.ref1, AV.refsL, Blk.sh, h1, hw, h2, h3]
        exact ends0 (by trivial) rfl (by simp [AV.rn, AV.rn2, AV.rn1, upd, warm, pl, h1, h2, h3])
      · by_cases h4 : ds = 2 <;>
        · simp [c11, awp, regK, delta, start, layS, layB, Opd.ev, St.app, St.bump, putO, updL, upd, int, biv, AV.argL, AV.arg, one, d30, bool, AV.sh, AV.sh2, AV.sh1, AV.lent, numbered, boxes, frz, AV.refs, AV.ref1, AV.refsL, Blk.sh, h1, hw, h2, h3, h4, hw2]
          exact ends0 (by trivial) rfl (by simp [AV.rn, AV.rn2, AV.rn1, upd, warm, pl, h1, h2, h3, h4])

theorem con12 (ds st s m : Int) : Con Try.prog 12 [int ds, int st, int s, int m] ⟨int (warm ds st s m), [], [], true⟩ := by
  refine con_fn mixed ok31 st12 (by simp) ?_
  cases h1 : pl st s m
  · simp [c12, awp, regK, delta, start, layS, layB, Opd.ev, St.app, St.bump, putO, updL, upd, int, biv, AV.argL, AV.arg, one, d31, bool, AV.sh, AV.sh2, AV.sh1, AV.lent, numbered, boxes, frz, AV.refs, AV.ref1, AV.refsL, Blk.sh, h1]
    exact ends0 (by trivial) rfl (by simp [AV.rn, AV.rn2, AV.rn1, upd, warm, h1])
  · have h2 := h1
    simp only [pl, Bool.and_eq_true] at h2
    have b1 := inB_spec h2.1.1
    have b2 := inB_spec h2.1.2
    have hw : IntKind.i64.wrap (st - 1) = st - 1 := wrap_of _ (by omega) (by omega)
    have hw2 : IntKind.i64.wrap (st - 1 - s) = st - 1 - s := wrap_of _ (by omega) (by omega)
    by_cases h4 : ds = 2 <;>
    · simp [c12, awp, regK, delta, start, layS, layB, Opd.ev, St.app, St.bump, putO, updL, upd, int, biv, AV.argL, AV.arg, one, d31, bool, AV.sh, AV.sh2, AV.sh1, AV.lent, numbered, boxes, frz, AV.refs, AV.ref1, AV.refsL, Blk.sh, h1, hw, h4, hw2]
      exact ends0 (by trivial) rfl (by simp [AV.rn, AV.rn2, AV.rn1, upd, warm, h1, h4])

def d11 : List AV → Option Res
  | [.c (.v (.int .i64 ds)), .c (.v (.int .i64 st)), .c (.v (.int .i64 s)), .c (.v (.int .i64 m))] => some ⟨int (warm ds st s m), [], [], false⟩
  | _ => none
theorem ok11 : TabOk Try.prog (one 11 d11) := ok_one fun args r h => by
  unfold d11 at h
  split at h
  · cases h; exact (con11 _ _ _ _).plain
  · cases h
theorem ok12 : TabOk Try.prog (one 12 d11) := ok_one fun args r h => by
  unfold d11 at h
  split at h
  · cases h; exact (con12 _ _ _ _).plain
  · cases h

theorem con4 (ds st s m : Int) : Con Try.prog 4 [int ds, int st, int s, int m] ⟨bool true, [], [], true⟩ := by
  refine con_fn mixed (ok_or ok11 ok12) st4 (by simp) ?_
  simp [c4, awp, regK, delta, start, layS, layB, Opd.ev, St.app, St.bump, putO, updL, upd, int, biv, AV.argL, AV.arg, one, Tab.or, d11, bool, AV.sh, AV.sh2, AV.sh1, AV.lent, numbered, boxes, AV.refs, AV.ref1, AV.refsL, frz, Blk.sh]
  exact ends0 (by trivial) rfl rfl
end Go.Proofs.Ytjigmfomaoanmaa.Am
