/-
  SOUNDNESS OF THE ABSTRACT MACHINE, OPERATION BY OPERATION: operands, and the operations that write nothing.
-/
import Derived.Test.YtephkbajoofeoaaAmC
namespace Go.Proofs.Ytephkbajoofeoaa.Am
set_option linter.unusedSimpArgs false
set_option linter.unusedVariables false
open Go Go.RowKit

theorem info_of_szOf {P : Program} {t : TypeId} {n : Nat} (h : szOf P t = some n) : ∃ i, P.info? t = some i ∧ i.size = n := by
  unfold szOf at h
  obtain ⟨i, h1, h2⟩ := Option.map_eq_some_iff.1 h
  exact ⟨i, h1, h2⟩

theorem run_sizeOf {P : Program} {t : TypeId} {n : Nat} (h : szOf P t = some n) (w : World) : (sizeOf t).run P w = .ok n w := by
  obtain ⟨i, h1, h2⟩ := info_of_szOf h
  simp [sizeOf, typeInfo, h1, h2]

theorem elOf_und {P : Program} {t e : TypeId} (h : elOf P t = some e) : P.underlying t = some (.slice e) := by
  unfold elOf at h
  split at h
  · rename_i e' h1; cases h; exact h1
  · cases h

theorem run_isAgg {P : Program} {t : TypeId} {b : Bool} (h : aggOf P t = some b) (w : World) : (isAgg t).run P w = .ok b w := by
  unfold aggOf at h
  split at h
  · rename_i fs h1; cases h; simp [isAgg, run_underlying h1]
  · rename_i n e h1; cases h; simp [isAgg, run_underlying h1]
  · rename_i d hn1 hn2 h1
    cases h
    cases d <;> first
      | exact absurd rfl (hn1 _)
      | exact absurd rfl (hn2 _ _)
      | simp [isAgg, run_underlying h1]
  · cases h

theorem av1_vr {P : Program} {t : TypeId} {v : Value} (h1 : v.oneCell' = true) {w : World} {F : Nat → Prop} {ι : Nat → Option Nat} {h : Nat → Blk} : VR w F ι h v (av1 P t v) := by
  unfold av1
  split
  · exact .n _
  · exact .c _ _ (.v _ h1)

theorem avL_get {P : Program} : ∀ (vs : List Value) (ts : List TypeId) (k : Nat) (v : Value) (x : AV), vs[k]? = some v → (avL P ts vs)[k]? = some x → ∃ t, x = av1 P t v
  | [], _, k, v, x, h, _ => by simp at h
  | y :: ys, ts, 0, v, x, h, h' => by
    simp [avL] at h h'
    exact ⟨_, by rw [← h', ← h]⟩
  | y :: ys, ts, k + 1, v, x, h, h' => by
    simp [avL] at h h'
    exact avL_get ys ts.tail k v x h h'

theorem avL_length {P : Program} : ∀ (vs : List Value) (ts : List TypeId), (avL P ts vs).length = vs.length
  | [], _ => rfl
  | _ :: ys, ts => by simp [avL, avL_length ys ts.tail]

theorem avOf_vr {P : Program} {t : TypeId} {v : Value} {x : AV} (hx : avOf P t v = some x) {w : World} {F : Nat → Prop} {ι : Nat → Option Nat} {h : Nat → Blk} : VR w F ι h v x := by
  unfold avOf at hx
  split at hx
  · rename_i cs
    split at hx
    · rename_i hall
      cases hx
      have h1 : ∀ (k : Nat) (v : Value), cs[k]? = some v → v.oneCell' = true := by
        intro k v hk
        have : v ∈ cs.toList := by
          obtain ⟨hlt, he⟩ := Array.getElem?_eq_some_iff.1 hk
          rw [← he]; simp
        exact List.all_eq_true.1 hall v this
      refine .a _ _ (by rw [avL_length]; simp) h1 (fun k v x hk hx => ?_)
      obtain ⟨t', rfl⟩ := avL_get cs.toList _ k v x (by simpa using hk) hx
      exact av1_vr (h1 k v hk)
    · cases hx
  · split at hx
    · rename_i h1
      cases hx
      exact av1_vr h1
    · cases hx

theorem cO_vr {C : Ctx} {U : Nat → Prop} {σ : St} {a : Act} {w : World} {ι : Nat → Option Nat} (S : Sat C U σ a w ι) {t : TypeId} {x : Operand} {y : Opd} (h : cO C.P t x = some y) :
    VR w (Fz C w ι σ.h) ι σ.h (a.eval x) (y.ev σ.t) := by
  unfold cO at h
  split at h
  · cases h; exact S.vals _
  · obtain ⟨z, hz, rfl⟩ := Option.map_eq_some_iff.1 h
    exact avOf_vr hz
  · cases h

/-- What an operation that leaves the world as it is comes to. -/
theorem pure_op {C : Ctx} {U U' : Nat → Prop} {σ : St} {a : Act} {w : World} {ι : Nat → Option Nat} (S : Sat C U σ a w ι) {o : Oper} {v : Value} {x : AV} {Q : Exit → Act → World → Prop}
    (hd : ∀ d, o.dst = some d → d < C.N) (hU' : ∀ i, U' i → U i)
    (hrun : (execOp a.eval o).run C.P w = .ok (.value v) w) (hv : VR w (Fz C w ι σ.h) ι σ.h v x) :
    o.wp C.P a w (fun a' w' => SatU C U' (σ.app o.dst ⟨x, []⟩) a' w') Q := by
  unfold Oper.wp
  rw [hrun]
  simp only [Oper.upon]
  refine ⟨ι, ?_⟩
  have S' : Sat C U' σ a w ι := { S with fresh := fun i hi => S.fresh i (hU' i hi) }
  cases ho : o.dst with
  | none => simpa [St.app, putO, updL, Act.put] using S'
  | some d => simpa [St.app, putO, updL] using S'.put d (hd d ho) v x hv

theorem VR.int {w : World} {F : Nat → Prop} {ι : Nat → Option Nat} {h : Nat → Blk} {v x : Value} (hv : VR w F ι h v (.c (.v x))) : v = x := by
  cases hv with
  | c v d hr => cases hr; rfl

theorem vr_v {w : World} {F : Nat → Prop} {ι : Nat → Option Nat} {h : Nat → Blk} {x : Value} (h1 : x.oneCell' = true) : VR w F ι h x (.c (.v x)) := .c _ _ (.v _ h1)

theorem intOfAV_vr {w : World} {F : Nat → Prop} {ι : Nat → Option Nat} {h : Nat → Blk} {v : Value} {x : AV} {n : Int} (hv : VR w F ι h v x) (hx : intOfAV x = some n) : ∃ k, v = .int k n := by
  unfold intOfAV at hx
  split at hx
  · rename_i k m
    cases hx
    exact ⟨k, hv.int⟩
  · cases hx

theorem cOs_vr {C : Ctx} {U : Nat → Prop} {σ : St} {a : Act} {w : World} {ι : Nat → Option Nat} (S : Sat C U σ a w ι) : ∀ {ts : List TypeId} {xs : List Operand} {ys : List Opd}, cOs C.P ts xs = some ys →
    xs.length = ys.length ∧ ∀ (k : Nat) (x : Operand) (y : Opd), xs[k]? = some x → ys[k]? = some y → VR w (Fz C w ι σ.h) ι σ.h (a.eval x) (y.ev σ.t)
  | ts, [], ys, h => by simp [cOs] at h; subst h; simp
  | ts, x :: xs, ys, h => by
    unfold cOs at h
    split at h
    · rename_i y ys' h1 h2
      cases h
      obtain ⟨hl, hh⟩ := cOs_vr S h2
      refine ⟨by simp [hl], fun k x' y' hk hk' => ?_⟩
      cases k with
      | zero => simp at hk hk'; subst hk; subst hk'; exact cO_vr S h1
      | succ k => simp at hk hk'; exact hh k x' y' hk hk'
    · cases h

theorem biv_run {P : Program} {w : World} {op : BinOp} {x y z : Value} {t : TypeId} (h : biv op x y = some z) : (binOp op t x y).run P w = .ok z w ∧ z.oneCell' = true := by
  unfold biv at h
  split at h
  · rename_i k x k' y
    split at h
    · split at h
      · cases h
      · rename_i h1
        cases h
        simp [binOp, Op.shift, h1, Value.oneCell']
    · split at h
      · cases h
      · rename_i h1
        cases h
        simp [binOp, Op.shift, h1, Value.oneCell']
    · split at h
      · rename_i hne1 hne2 hk
        subst hk
        split at h
        any_goals (cases h; simp [binOp, Op.intArith, Op.intBits, Op.intCmp, Value.oneCell']; done)
        · split at h
          · cases h
          · rename_i h1; cases h; simp [binOp, Op.intDiv, h1, Value.oneCell']
        · split at h
          · cases h
          · rename_i h1; cases h; simp [binOp, Op.intDiv, h1, Value.oneCell']
        · cases h
      · cases h
  · rename_i x y
    split at h <;> first
      | (cases h; simp [binOp, Op.stringOp, Value.oneCell']; done)
      | cases h
  · cases h

/-- Neither operand is an interface or a struct: nothing is guarded. -/
theorem run_eqGuard_one {P : Program} {w : World} {op : BinOp} {t : TypeId} {x y : Operand} {v u : Value} (h1 : v.oneCell' = true) (h2 : v ≠ .nilIface) : (eqGuard op t x y v u).run P w = .ok () w := by
  cases v <;> cases op <;> first
    | exact absurd rfl h2
    | (simp [Value.oneCell'] at h1; done)
    | simp [eqGuard]

theorem add_addr (bk o k : Nat) : (⟨bk, o, Option.none⟩ : Addr).add k = ⟨bk, o + k, Option.none⟩ := by
  unfold Addr.add; split <;> simp_all

theorem cut_some {α : Type} {l m : List α} {j n : Nat} (h : cut l j n = some m) : j + n ≤ l.length ∧ m = (l.drop j).take n := by
  unfold cut at h
  split at h
  · cases h; exact ⟨by assumption, rfl⟩
  · cases h

theorem cut_get {α : Type} {l m : List α} {j n : Nat} (h : cut l j n = some m) : m.length = n ∧ ∀ k : Nat, k < n → m[k]? = l[j + k]? := by
  obtain ⟨h1, rfl⟩ := cut_some h
  refine ⟨by simp; omega, fun k hk => ?_⟩
  rw [List.getElem?_take, if_pos hk, List.getElem?_drop]

section
variable {C : Ctx} {U U' : Nat → Prop} {σ : St} {a : Act} {w : World} {ι : Nat → Option Nat} {o : Oper} {Q : Exit → Act → World → Prop} {Γ : Tab} {b : Nat} {e : Eff}
variable (S : Sat C U σ a w ι) (hd : ∀ d, o.dst = some d → d < C.N) (hU' : ∀ i, U' i → U i)
include S hd hU'

theorem s_mov {x : Operand} {y : Opd} {t : TypeId} (ho : o.op = .move x ∨ o.op = .assign x) (hx : cO C.P t x = some y) (he : delta Γ (Opd.ev σ.t) σ.h b (.mov y) = some e) :
    o.wp C.P a w (fun a' w' => SatU C U' (σ.app o.dst e) a' w') Q := by
  simp only [delta, Option.some.injEq] at he
  subst he
  refine pure_op S hd hU' (v := a.eval x) ?_ (cO_vr S hx)
  rcases ho with ho | ho <;> simp [execOp, ho]

theorem s_pick {c x y : Operand} {c' x' y' : Opd} {t : TypeId} (ho : o.op = .pick c x y) (hc : cO C.P t c = some c') (hx : cO C.P t x = some x') (hy : cO C.P t y = some y') (he : delta Γ (Opd.ev σ.t) σ.h b (.pick c' x' y') = some e) :
    o.wp C.P a w (fun a' w' => SatU C U' (σ.app o.dst e) a' w') Q := by
  have h1 := cO_vr S hc
  simp only [delta] at he
  split at he
  · rename_i h2
    cases he
    rw [h2] at h1
    exact pure_op S hd hU' (v := a.eval x) (by simp [execOp, ho, h1.int, asBool]) (cO_vr S hx)
  · rename_i h2
    cases he
    rw [h2] at h1
    exact pure_op S hd hU' (v := a.eval y) (by simp [execOp, ho, h1.int, asBool]) (cO_vr S hy)
  · cases he


theorem s_bin {op : BinOp} {x y : Operand} {x' y' : Opd} {t ty : TypeId} (ho : o.op = .binOp op t x y ty) (hx : cO C.P t x = some x') (hy : cO C.P ty y = some y') (he : delta Γ (Opd.ev σ.t) σ.h b (.bin op x' y') = some e) :
    o.wp C.P a w (fun a' w' => SatU C U' (σ.app o.dst e) a' w') Q := by
  have h1 := cO_vr S hx
  have h2 := cO_vr S hy
  simp only [delta] at he
  split at he
  · rename_i v u hv hu
    split at he
    · rename_i z hz
      cases he
      rw [hv] at h1; rw [hu] at h2
      obtain ⟨hr, hz1⟩ := biv_run (P := C.P) (w := w) (t := t) hz
      have hone : v.oneCell' = true ∧ v ≠ .nilIface := by
        unfold biv at hz
        split at hz <;> first | exact ⟨rfl, by simp⟩ | cases hz
      refine pure_op S hd hU' (v := z) ?_ (vr_v hz1)
      simp [execOp, ho, h1.int, h2.int, run_eqGuard_one hone.1 hone.2, hr]
    · cases he
  · cases he

theorem s_eqb {neg : Bool} {x y : Operand} {x' y' : Opd} {t ty : TypeId} (ho : o.op = .binOp (if neg then .neq else .eql) t x y ty) (ht : C.P.underlying t = some .bool) (hx : cO C.P t x = some x') (hy : cO C.P ty y = some y') (he : delta Γ (Opd.ev σ.t) σ.h b (.eqb neg x' y') = some e) :
    o.wp C.P a w (fun a' w' => SatU C U' (σ.app o.dst e) a' w') Q := by
  have h1 := cO_vr S hx
  have h2 := cO_vr S hy
  simp only [delta] at he
  split at he
  · rename_i v u hv hu
    cases he
    rw [hv] at h1; rw [hu] at h2
    refine pure_op S hd hU' (v := .bool (if neg then !(v == u) else v == u)) ?_ (vr_v rfl)
    have hg : ∀ op, (eqGuard op t x y (.bool v) (.bool u)).run C.P w = .ok () w := fun op => run_eqGuard_one (by rfl) (by simp)
    cases neg <;> simp [execOp, ho, h1.int, h2.int, hg, binOp, run_equal_bool w t v u ht]
  · cases he

theorem s_not {x : Operand} {x' : Opd} {t : TypeId} (ho : o.op = .unOp .not t x) (hx : cO C.P t x = some x') (he : delta Γ (Opd.ev σ.t) σ.h b (.not x') = some e) :
    o.wp C.P a w (fun a' w' => SatU C U' (σ.app o.dst e) a' w') Q := by
  have h1 := cO_vr S hx
  simp only [delta] at he
  split at he
  · rename_i v hv
    cases he
    rw [hv] at h1
    exact pure_op S hd hU' (v := .bool (!v)) (by simp [execOp, ho, h1.int, Op.unary]) (vr_v rfl)
  · cases he

theorem s_neg {x : Operand} {x' : Opd} {t : TypeId} (ho : o.op = .unOp .neg t x) (hx : cO C.P t x = some x') (he : delta Γ (Opd.ev σ.t) σ.h b (.neg x') = some e) :
    o.wp C.P a w (fun a' w' => SatU C U' (σ.app o.dst e) a' w') Q := by
  have h1 := cO_vr S hx
  simp only [delta] at he
  split at he
  · rename_i k n hv
    cases he
    rw [hv] at h1
    exact pure_op S hd hU' (v := .int k (k.wrap (0 - n))) (by simp [execOp, ho, h1.int, Op.unary, Op.intArith]) (vr_v rfl)
  · cases he

theorem s_ext {x : Operand} {x' : Opd} {i : Nat} {t : TypeId} (ho : o.op = .extract x i) (hx : cO C.P t x = some x') (he : delta Γ (Opd.ev σ.t) σ.h b (.ext x' i) = some e) :
    o.wp C.P a w (fun a' w' => SatU C U' (σ.app o.dst e) a' w') Q := by
  have h1 := cO_vr S hx
  simp only [delta] at he
  split at he
  · rename_i vs hv
    split at he
    · rename_i z hz
      cases he
      rw [hv] at h1
      generalize hae : a.eval x = av at h1
      cases h1 with
      | t us _ hl hvr =>
        have hlt : i < us.size := by rw [hl]; exact (List.getElem?_eq_some_iff.1 hz).1
        have hu : us[i]? = some us[i] := Array.getElem?_eq_getElem hlt
        exact pure_op S hd hU' (v := us[i]) (by simp [execOp, ho, hae, Instr.extract, hu]) (hvr i _ z hu hz)
    · cases he
  · cases he

theorem s_conv {x : Operand} {x' : Opd} {s d : TypeId} {k : IntKind} {k0 : IntKind} (ho : o.op = .convert s d x) (hs : C.P.underlying s = some (.int k0)) (hdd : C.P.underlying d = some (.int k)) (hx : cO C.P s x = some x') (he : delta Γ (Opd.ev σ.t) σ.h b (.conv k x') = some e) :
    o.wp C.P a w (fun a' w' => SatU C U' (σ.app o.dst e) a' w') Q := by
  have h1 := cO_vr S hx
  simp only [delta] at he
  split at he
  · rename_i k1 n hv
    cases he
    rw [hv] at h1
    exact pure_op S hd hU' (v := .int k (k.wrap n)) (by simp [execOp, ho, h1.int, convert, run_underlying hs, run_underlying hdd, Conv.intToInt]) (vr_v rfl)
  · cases he

theorem s_nilc {x : Operand} {x' : Opd} {t : TypeId} (ho : o.op = .nilCheck x) (hx : cO C.P t x = some x') (he : delta Γ (Opd.ev σ.t) σ.h b (.nilc x') = some e) :
    o.wp C.P a w (fun a' w' => SatU C U' (σ.app o.dst e) a' w') Q := by
  have h1 := cO_vr S hx
  simp only [delta] at he
  split at he
  · rename_i id i j hv
    split at he
    · rename_i hal
      cases he
      rw [hv] at h1
      have h1' := h1
      generalize hae : a.eval x = av at h1 h1'
      cases h1 with
      | pdead v _ _ _ _ hdd => rw [hdd] at hal; simp [Blk.alive] at hal
      | p _ _ _ bk hi hn hnd => exact pure_op S hd hU' (by simp [execOp, ho, hae]) h1'
    · cases he
  · rename_i cs j hv
    cases he
    rw [hv] at h1
    have h1' := h1
    generalize hae : a.eval x = av at h1 h1'
    cases h1 with
    | q bk o' j cs x hb hc hr => exact pure_op S hd hU' (by simp [execOp, ho, hae]) h1'
  · cases he

theorem s_mm {mx : Bool} {x y : Operand} {x' y' : Opd} {t t' : TypeId} (ho : o.op = .call { callee := .builtin (if mx then .max else .min), args := #[x, y], argTypes := #[t, t'] }) (hx : cO C.P t x = some x') (hy : cO C.P t' y = some y') (he : delta Γ (Opd.ev σ.t) σ.h b (.mm mx x' y') = some e) :
    o.wp C.P a w (fun a' w' => SatU C U' (σ.app o.dst e) a' w') Q := by
  have h1 := cO_vr S hx
  have h2 := cO_vr S hy
  simp only [delta] at he
  split at he
  · rename_i k v k' u hv hu
    cases he
    rw [hv] at h1; rw [hu] at h2
    refine pure_op S hd hU' (v := .int k (if mx then (if v < u then u else v) else (if u < v then u else v))) ?_ (vr_v rfl)
    cases mx <;> simp [execOp, ho, h1.int, h2.int, resolve, invoke, builtin, Builtin.min_, Builtin.max_, Builtin.min2, Builtin.max2]
  · cases he

theorem s_len {x : Operand} {x' : Opd} {t e' : TypeId} (ho : o.op = .call { callee := .builtin .len, args := #[x], argTypes := #[t] }) (ht : C.P.underlying t = some (.slice e')) (hx : cO C.P t x = some x') (he : delta Γ (Opd.ev σ.t) σ.h b (.len x') = some e) :
    o.wp C.P a w (fun a' w' => SatU C U' (σ.app o.dst e) a' w') Q := by
  have h1 := cO_vr S hx
  simp only [delta] at he
  split at he
  all_goals (try cases he)
  · rename_i sz es hv
    rw [hv] at h1
    generalize hae : a.eval x = av at h1
    cases h1 with
    | c v d hr =>
      cases hr with
      | nil => exact pure_op S hd hU' (v := .int .i64 0) (by simp [execOp, ho, hae, resolve, invoke, builtin, Builtin.len_, run_underlying ht, goInt]) (vr_v rfl)
      | emp => exact pure_op S hd hU' (v := .int .i64 0) (by simp [execOp, ho, hae, resolve, invoke, builtin, Builtin.len_, run_underlying ht, goInt]) (vr_v rfl)
      | sl b o len cap _ es x hlen => subst hlen; exact pure_op S hd hU' (v := .int .i64 es.length) (by simp [execOp, ho, hae, resolve, invoke, builtin, Builtin.len_, run_underlying ht, goInt]) (vr_v rfl)
  · rename_i sz hv
    rw [hv] at h1
    generalize hae : a.eval x = av at h1
    cases h1 with
    | n => exact pure_op S hd hU' (v := .int .i64 0) (by simp [execOp, ho, hae, resolve, invoke, builtin, Builtin.len_, run_underlying ht, goInt]) (vr_v rfl)
  · rename_i sz id off len hv
    split at he
    · rename_i hal
      cases he
      rw [hv] at h1
      generalize hae : a.eval x = av at h1
      cases h1 with
      | rdead v _ _ _ _ _ hdd => rw [hdd] at hal; simp [Blk.alive] at hal
      | rnil => exact pure_op S hd hU' (v := .int .i64 0) (by simp [execOp, ho, hae, resolve, invoke, builtin, Builtin.len_, run_underlying ht, goInt]) (vr_v rfl)
      | r => exact pure_op S hd hU' (v := .int .i64 len) (by simp [execOp, ho, hae, resolve, invoke, builtin, Builtin.len_, run_underlying ht, goInt]) (vr_v rfl)
    · cases he

theorem s_fad {x : Operand} {x' : Opd} {s i n : Nat} {fs : Array Field} {f : Field} (ho : o.op = .fieldAddr s x i) (hs : C.P.underlying s = some (.struct fs)) (hf : fs[i]? = some f) (hn : szOf C.P f.type = some n) (hn0 : n ≠ 0)
    {t : TypeId} (hx : cO C.P t x = some x') (he : delta Γ (Opd.ev σ.t) σ.h b (.fad x' f.offset) = some e) :
    o.wp C.P a w (fun a' w' => SatU C U' (σ.app o.dst e) a' w') Q := by
  have h1 := cO_vr S hx
  have hrun : ∀ (bk of : Nat), a.eval x = .pointer (some ⟨bk, of, Option.none⟩) → (execOp a.eval o).run C.P w = .ok (.value (.pointer (some ⟨bk, of + f.offset, Option.none⟩))) w := by
    intro bk of hae
    simp [execOp, ho, hae, Instr.fieldAt, run_underlying hs, hf, Instr.sureAddr, fieldPlace, run_sizeOf hn, hn0, add_addr]
  simp only [delta] at he
  split at he
  · rename_i id k j hv
    split at he
    · rename_i hal
      cases he
      rw [hv] at h1
      generalize hae : a.eval x = av at h1
      cases h1 with
      | pdead v _ _ _ _ hdd => rw [hdd] at hal; simp [Blk.alive] at hal
      | p _ _ _ bk hi hn hnd =>
        refine pure_op S hd hU' (hrun _ _ hae) ?_
        rw [Nat.add_assoc]
        exact .p id k (j + f.offset) bk hi hn hnd
    · cases he
  · rename_i cs j hv
    cases he
    rw [hv] at h1
    generalize hae : a.eval x = av at h1
    cases h1 with
    | q bk o' _ _ xv hb hc hr =>
      refine pure_op S hd hU' (hrun _ _ hae) ?_
      rw [Nat.add_assoc]
      exact .q bk o' (j + f.offset) cs xv hb hc hr
  · cases he

theorem s_iad {x i : Operand} {x' i' : Opd} {t e' sz : Nat} (ho : o.op = .indexAddr t x i) (ht : elOf C.P t = some e') (hsz : szOf C.P e' = some sz) {t1 t2 : TypeId}
    (hx : cO C.P t1 x = some x') (hi : cO C.P t2 i = some i') (he : delta Γ (Opd.ev σ.t) σ.h b (.iad x' i' sz) = some e) :
    o.wp C.P a w (fun a' w' => SatU C U' (σ.app o.dst e) a' w') Q := by
  have h1 := cO_vr S hx
  have h2 := cO_vr S hi
  simp only [delta] at he
  split at he
  rotate_left
  · cases he
  rename_i n hn
  obtain ⟨k, hk⟩ := intOfAV_vr h2 hn
  split at he
  rotate_left
  · cases he
  rename_i h0
  have hrun : ∀ (bk of len cap : Nat), a.eval x = .slice (some ⟨bk, of, Option.none⟩) len cap → n.toNat < len → (execOp a.eval o).run C.P w = .ok (.value (.pointer (some ⟨bk, of + n.toNat * sz, Option.none⟩))) w := by
    intro bk of len cap hae hlt
    have hlt' : n < (len : Int) := by omega
    simp [execOp, ho, hae, hk, Instr.indexAt, asIntOf, run_underlying (elOf_und ht), h0, hlt', run_sizeOf hsz, add_addr]
  split at he
  · rename_i sz' es hv
    split at he
    rotate_left
    · cases he
    rename_i hs
    subst hs
    split at he
    rotate_left
    · cases he
    rename_i el hel
    cases he
    rw [hv] at h1
    generalize hae : a.eval x = av at h1
    cases h1 with
    | c v d hr =>
      cases hr with
      | nil => simp at hel
      | emp => simp at hel
      | sl bk of len cap _ _ xv hlen hcap hml hszs hb hc hr =>
        have hlt : n.toNat < len := by rw [← hlen]; exact (List.getElem?_eq_some_iff.1 hel).1
        refine pure_op S hd hU' (hrun _ _ _ _ hae hlt) ?_
        have := VR.q (w := w) (F := Fz C w ι σ.h) (ι := ι) (h := σ.h) bk (of + n.toNat * sz') 0 el (fun k => xv n.toNat k) (hb (fun h0 => by rw [h0] at hel; simp at hel)) (fun k d hk => hc n.toNat k el d hel hk) (fun k d hk => hr n.toNat k el d hel hk)
        simpa using this
  · rename_i sz' id off len hv
    split at he
    rotate_left
    · cases he
    rename_i hs
    obtain ⟨rfl, hlt, hal⟩ := hs
    cases he
    rw [hv] at h1
    generalize hae : a.eval x = av at h1
    cases h1 with
    | rdead v _ _ _ _ _ hdd => rw [hdd] at hal; simp [Blk.alive] at hal
    | rnil => omega
    | r _ _ _ bk ao cap et _ m es hi hh hlen hcap hao htip =>
      refine pure_op S hd hU' (hrun _ _ _ _ hae hlt) ?_
      have := VR.p (w := w) (F := Fz C w ι σ.h) (ι := ι) (h := σ.h) id (off + n.toNat) 0 bk hi (by rw [hh]; simp) (by rw [hh]; simp)
      rw [hh] at this
      simp only [Blk.sz, Nat.add_zero, Nat.add_mul] at this
      rw [hao (by omega)]
      exact this
  · cases he

end
end Go.Proofs.Ytephkbajoofeoaa.Am
