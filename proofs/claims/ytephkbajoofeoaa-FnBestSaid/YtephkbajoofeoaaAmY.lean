/-
  THE TYPED MACHINE's STATES MADE SMALL: what is still wanted is kept, its blocks numbered anew; the rest is forgotten.
-/
import Derived.Test.YtephkbajoofeoaaAmX
namespace Go.Proofs.Ytephkbajoofeoaa.Am
set_option linter.unusedSimpArgs false
set_option linter.unusedVariables false
open Go Go.RowKit

/-- What becomes of a cell: an own slice stays one; all becomes data; a nil slice becomes an own one. -/
inductive Md1 where
  | f
  | d
  | o (e : TypeId)

/-- .. of a slot: of its one cell; of the cells of the box that it names; of its cells. -/
inductive Md where
  | one (m : Md1)
  | b (ms : List Md1)
  | a (ms : List Md1)

abbrev Acc := List (Option Nat × TBlk)

def accIdx : Acc → Nat → Option Nat
  | [], _ => none
  | (some j, _) :: r, i => bif Nat.beq j i then some 0 else (match accIdx r i with | some k => some (k + 1) | none => none)
  | (none, _) :: r, i => match accIdx r i with | some k => some (k + 1) | none => none

def conv1 (nl : Nat) (h : Nat → TBlk) (m : Md1) (v : TV) (acc : Acc) : TV × Acc :=
  match v with
  | .c t x => (.c t x, acc)
  | .q ts x j => (.q ts x j, acc)
  | .n ts => match m with
    | .o e => match ts with
      | [] => (.u, acc)
      | t :: ts => (.r (t :: ts) acc.length 0 0, acc ++ [(none, .sl e (t :: ts) true [])])
    | .d => (.c (.sl ts) [], acc)
    | .f => (.n ts, acc)
  | .r _ id off len => match h id with
    | .sl e ts mm es => match m with
      | .d => bif mm then (.u, acc) else (.c (.sl ts) ((es.drop off).take len), acc)
      | _ => bif Nat.blt id nl then (.r ts id off len, acc) else match off with
        | 0 => match accIdx acc id with
          | none => (.r ts acc.length 0 (es.take len).length, acc ++ [(some id, .sl e ts mm (es.take len))])
          | some _ => (.u, acc)
        | _ => (.u, acc)
    | _ => (.u, acc)
  | _ => (.u, acc)

def convL (nl : Nat) (h : Nat → TBlk) : List Md1 → List TV → Acc → List TV × Acc
  | _, [], acc => ([], acc)
  | [], _ :: xs, acc => let r := convL nl h [] xs acc; (.u :: r.1, r.2)
  | m :: ms, x :: xs, acc => let a := conv1 nl h m x acc; let r := convL nl h ms xs a.2; (a.1 :: r.1, r.2)

def conv (nl : Nat) (h : Nat → TBlk) (m : Md) (v : TV) (acc : Acc) : TV × Acc :=
  match m with
  | .one m => conv1 nl h m v acc
  | .b ms => match v with
    | .p id 0 0 => match accIdx acc id with
      | some k => (.p k 0 0, acc)
      | none => match h id with
        | .box cs => let r := convL nl h ms cs acc; match accIdx r.2 id with
          | none => (.p r.2.length 0 0, r.2 ++ [(some id, .box r.1)])
          | some _ => (.u, acc)
        | _ => (.u, acc)
    | _ => (.u, acc)
  | .a ms => match v with
    | .a cs => let r := convL nl h ms cs acc; (.a r.1, r.2)
    | _ => (.u, acc)

def convS (nl : Nat) (h : Nat → TBlk) (T : Nat → TV) : List (Nat × Md) → Acc → List (Nat × TV) × Acc
  | [], acc => ([], acc)
  | (s, m) :: r, acc => let a := conv nl h m (T s) acc; let q := convS nl h T r a.2; ((s, a.1) :: q.1, q.2)

def dRefs : List Md1 → List TV → List Nat
  | .d :: ms, x :: xs => x.ref1 ++ dRefs ms xs
  | _ :: ms, _ :: xs => dRefs ms xs
  | _, _ => []

def fzIds (h : Nat → TBlk) (T : Nat → TV) : List (Nat × Md) → List Nat
  | [] => []
  | (s, .one .d) :: r => (T s).ref1 ++ fzIds h T r
  | (s, .a ms) :: r => (match T s with | .a cs => dRefs ms cs | _ => []) ++ fzIds h T r
  | (s, .b ms) :: r => (match T s with | .p id _ _ => (match h id with | .box cs => dRefs ms cs | _ => []) | _ => []) ++ fzIds h T r
  | _ :: r => fzIds h T r

/-- The lent boxes keep their numbers, what is in them is data. -/
def lentFz (h : Nat → TBlk) : Nat → List Nat
  | 0 => []
  | n + 1 => lentFz h n ++ (match h n with | .box cs => TV.refsL cs | _ => [])

def alld : List TV → List Md1
  | [] => []
  | _ :: xs => .d :: alld xs

def lentAcc (h : Nat → TBlk) : Nat → Acc
  | 0 => []
  | n + 1 => let a := lentAcc h n; a ++ [match h n with | .box cs => (some n, .box (convL 0 h (alld cs) cs a).1) | .sl e ts m es => (some n, .sl e ts m es) | .dead => (none, .dead) | .none => (none, .none)]

def numbB : Nat → Acc → List (Nat × TBlk)
  | _, [] => []
  | k, (_, b) :: r => (k, b) :: numbB (k + 1) r

def frzF (h : Nat → TBlk) (ids : List Nat) : Nat → TBlk := fun i => bif ids.elem i then fzT (h i) else h i

/-- A state made small. -/
def gc (nl : Nat) (L : List (Nat × Md)) (σ : TSt) : TSt :=
  let h := frzF σ.H (lentFz σ.H nl ++ fzIds σ.H σ.T L)
  let r := convS nl h σ.T L (lentAcc h nl)
  ⟨r.1, numbB 0 r.2, r.2.length⟩

/-! That it stands for the same worlds. -/

section
variable {w : World} {F F' : Nat → Prop} {ι : Nat → Option Nat} {h : Nat → TBlk}

def aι (ι : Nat → Option Nat) (acc : Acc) : Nat → Option Nat := fun k => ((acc[k]?).bind (·.1)).bind ι
def ah (acc : Acc) : Nat → Blk := fun k => match acc[k]? with | some (_, b) => b.emb | none => .none

/-- A value stays what it is, whatever is taken in besides. -/
def Keeps (w : World) (F : Nat → Prop) (ι : Nat → Option Nat) (h : Nat → TBlk) (acc : Acc) (x y : TV) : Prop :=
  ∀ (accF : Acc) (F' : Nat → Prop), acc <+: accF → (∀ b, F b → F' b) → ∀ v, VR w F ι (fun i => (h i).emb) v x.emb1 → VR w F' (aι ι accF) (ah accF) v y.emb1

def GoodE (w : World) (F : Nat → Prop) (ι : Nat → Option Nat) (h : Nat → TBlk) (acc : Acc) : Option Nat × TBlk → Prop
  | (some id, .sl e ts m es) => ∃ es0 len, h id = .sl e ts m es0 ∧ es = es0.take len
  | (some id, .box cs) => ∃ cs0, h id = .box cs0 ∧ cs.length = cs0.length ∧ ∀ (k : Nat) (x y : TV), cs0[k]? = some x → cs[k]? = some y → Keeps w F ι h acc x y
  | (none, .sl _ ts m es) => es = [] ∧ 0 < ts.length ∧ m = true
  | (none, .none) => True
  | (none, .dead) => True
  | _ => False

/-- The handed slices are taken in whole, under their numbers. -/
def Full (nl : Nat) (h : Nat → TBlk) (acc : Acc) : Prop := ∀ id e ts m es, id < nl → h id = .sl e ts m es → acc[id]? = some (some id, .sl e ts m es)
theorem Full.mono {nl : Nat} {h : Nat → TBlk} {acc acc' : Acc} (hp : acc <+: acc') (hf : Full nl h acc) : Full nl h acc' := fun id e ts m es h1 h2 => by
  have h3 := hf id e ts m es h1 h2
  obtain ⟨r, rfl⟩ := hp
  rw [List.getElem?_append_left (List.getElem?_eq_some_iff.1 h3).1]
  exact h3

structure AccOk (w : World) (F : Nat → Prop) (ι : Nat → Option Nat) (h : Nat → TBlk) (acc : Acc) : Prop where
  good : ∀ (k : Nat) (e : Option Nat × TBlk), acc[k]? = some e → GoodE w F ι h acc e
  nodup : ∀ (k j id : Nat) (b c : TBlk), acc[k]? = some (some id, b) → acc[j]? = some (some id, c) → k = j

theorem Keeps.mono {acc acc' : Acc} {x y : TV} (hp : acc <+: acc') (hk : Keeps w F ι h acc x y) : Keeps w F ι h acc' x y :=
  fun accF F' hpF hF v hv => hk accF F' (hp.trans hpF) hF v hv

theorem GoodE.mono {acc acc' : Acc} {e : Option Nat × TBlk} (hp : acc <+: acc') (hg : GoodE w F ι h acc e) : GoodE w F ι h acc' e := by
  obtain ⟨o, b⟩ := e
  cases o with
  | none => cases b <;> exact hg
  | some id =>
    cases b with
    | box cs => obtain ⟨cs0, h1, h2, h3⟩ := hg; exact ⟨cs0, h1, h2, fun k x y hx hy => (h3 k x y hx hy).mono hp⟩
    | _ => exact hg

theorem accIdx_none : ∀ {acc : Acc} {id : Nat}, accIdx acc id = none → ∀ (k : Nat) (b : TBlk), acc[k]? ≠ some (some id, b)
  | [], id, _, k, b, hk => by simp at hk
  | (some j, c) :: r, id, hn, k, b, hk => by
    simp only [accIdx] at hn
    cases hb : Nat.beq j id with
    | true => rw [hb] at hn; cases hn
    | false =>
      rw [hb] at hn
      simp only [cond_false] at hn
      split at hn
      · cases hn
      rename_i hr
      cases k with
      | zero =>
        simp only [List.getElem?_cons_zero, Option.some.injEq, Prod.mk.injEq] at hk
        rw [hk.1] at hb
        simp at hb
      | succ k => exact accIdx_none hr k b (by simpa using hk)
  | (none, c) :: r, id, hn, k, b, hk => by
    simp only [accIdx] at hn
    split at hn
    · cases hn
    rename_i hr
    cases k with
    | zero => simp at hk
    | succ k => exact accIdx_none hr k b (by simpa using hk)

theorem accIdx_some : ∀ {acc : Acc} {id k : Nat}, accIdx acc id = some k → ∃ b, acc[k]? = some (some id, b)
  | [], id, k, hn => by simp [accIdx] at hn
  | (some j, c) :: r, id, k, hn => by
    simp only [accIdx] at hn
    cases hb : Nat.beq j id with
    | true =>
      rw [hb] at hn
      simp only [cond_true, Option.some.injEq] at hn
      subst hn
      exact ⟨c, by rw [Nat.eq_of_beq_eq_true hb]; rfl⟩
    | false =>
      rw [hb] at hn
      simp only [cond_false] at hn
      split at hn
      rotate_left
      · cases hn
      rename_i k' hr
      cases hn
      obtain ⟨b, h⟩ := accIdx_some hr
      exact ⟨b, by simpa using h⟩
  | (none, c) :: r, id, k, hn => by
    simp only [accIdx] at hn
    split at hn
    rotate_left
    · cases hn
    rename_i k' hr
    cases hn
    obtain ⟨b, h⟩ := accIdx_some hr
    exact ⟨b, by simpa using h⟩

theorem AccOk.push {acc : Acc} (A : AccOk w F ι h acc) {o : Option Nat} {b : TBlk} (hg : GoodE w F ι h (acc ++ [(o, b)]) (o, b)) (hn : ∀ id, o = some id → accIdx acc id = none) : AccOk w F ι h (acc ++ [(o, b)]) := by
  have hp : acc <+: acc ++ [(o, b)] := List.prefix_append _ _
  refine ⟨fun k e he => ?_, fun k j id c d hk hj => ?_⟩
  · rw [List.getElem?_append] at he
    split at he
    · exact (A.good k e he).mono hp
    · have := List.mem_of_getElem? he
      simp only [List.mem_singleton] at this
      rw [this]; exact hg
  · rw [List.getElem?_append] at hk hj
    split at hk <;> split at hj
    · exact A.nodup k j id c d hk hj
    · have h1 := List.mem_of_getElem? hj
      simp only [List.mem_singleton, Prod.mk.injEq] at h1
      exact absurd hk (accIdx_none (hn id h1.1.symm) k c)
    · have h1 := List.mem_of_getElem? hk
      simp only [List.mem_singleton, Prod.mk.injEq] at h1
      exact absurd hj (accIdx_none (hn id h1.1.symm) j d)
    · rename_i h1 h2
      have h3 := (List.getElem?_eq_some_iff.1 hk).1
      have h4 := (List.getElem?_eq_some_iff.1 hj).1
      simp at h3 h4
      omega

theorem ah_last {acc accF : Acc} {o : Option Nat} {b : TBlk} (hp : acc ++ [(o, b)] <+: accF) : ah accF acc.length = b.emb ∧ aι ι accF acc.length = o.bind ι := by
  obtain ⟨r, rfl⟩ := hp
  have : (acc ++ [(o, b)] ++ r)[acc.length]? = some (o, b) := by simp
  constructor
  · simp only [ah, this]
  · simp only [aι, this, Option.bind_some]

theorem ah_at {acc accF : Acc} {k : Nat} {o : Option Nat} {b : TBlk} (hp : acc <+: accF) (hk : acc[k]? = some (o, b)) : ah accF k = b.emb ∧ aι ι accF k = o.bind ι := by
  obtain ⟨r, rfl⟩ := hp
  have : (acc ++ r)[k]? = some (o, b) := by
    rw [List.getElem?_append_left (List.getElem?_eq_some_iff.1 hk).1]; exact hk
  constructor
  · simp only [ah, this]
  · simp only [aι, this, Option.bind_some]

/-- Frozen slices are read as data. -/
def FzOk (w : World) (F : Nat → Prop) (ι : Nat → Option Nat) (h : Nat → TBlk) : Prop :=
  ∀ id e ts es v off len, h id = .sl e ts false es → VR w F ι (fun i => (h i).emb) v (.r ts.length id off len) → Rd w F v (.sl ts.length (((es.map (encs ts)).drop off).take len))

theorem conv1_sound {nl : Nat} (hz : FzOk w F ι h) (hs : ∀ id e ts m es v off len n, h id = .sl e ts m es → VR w F ι (fun i => (h i).emb) v (.r n id off len) → n = ts.length) {m : Md1} {x : TV} {acc : Acc} (A : AccOk w F ι h acc) (hf : Full nl h acc) :
    acc <+: (conv1 nl h m x acc).2 ∧ AccOk w F ι h (conv1 nl h m x acc).2 ∧ Keeps w F ι h (conv1 nl h m x acc).2 x (conv1 nl h m x acc).1 := by
  have hu : ∀ (a : Acc) (x : TV), Keeps w F ι h a x .u := fun a x accF F' _ _ v _ => .u v
  unfold conv1
  split
  · exact ⟨List.prefix_refl _, A, fun accF F' hp hF v hv => hv.data hF⟩
  · refine ⟨List.prefix_refl _, A, fun accF F' hp hF v hv => ?_⟩
    cases hv with
    | q b o _ _ x hb hc hr => exact .q b o _ _ x (hF b hb) hc (fun k d hk => (hr k d hk).mono fun b hb => ⟨hF b hb, rfl⟩)
  · rename_i ts
    split
    · split
      · exact ⟨List.prefix_refl _, A, hu _ _⟩
      · refine ⟨List.prefix_append _ _, A.push ⟨rfl, by simp, rfl⟩ (by simp), fun accF F' hp hF v hv => ?_⟩
        obtain ⟨h1, h2⟩ := ah_last (ι := ι) hp
        cases hv
        exact .rnil acc.length _ _ true h2 (by rw [h1]; rfl)
    · refine ⟨List.prefix_refl _, A, fun accF F' hp hF v hv => ?_⟩
      cases hv
      exact .c _ _ (by simp only [enc, List.map_nil]; exact .nil _)
    · refine ⟨List.prefix_refl _, A, fun accF F' hp hF v hv => ?_⟩
      cases hv
      exact .n _
  · rename_i ts0 id off len
    split
    rotate_left
    · exact ⟨List.prefix_refl _, A, hu _ _⟩
    rename_i e ts mm es hh
    split
    · cases mm with
      | true => exact ⟨List.prefix_refl _, A, hu _ _⟩
      | false =>
        refine ⟨List.prefix_refl _, A, fun accF F' hp hF v hv => ?_⟩
        have hn := hs id e ts false es v off len _ hh hv
        simp only [TV.emb1, hn] at hv
        have := hz id e ts es v off len hh hv
        refine .c _ _ ?_
        simp only [enc, List.map_take, List.map_drop]
        exact this.mono fun b hb => ⟨hF b hb, rfl⟩
    · cases hlt : Nat.blt id nl with
      | true =>
        have hb := hf id e ts mm es (Nat.le_of_ble_eq_true hlt) hh
        refine ⟨List.prefix_refl _, A, fun accF F' hp hF v hv => ?_⟩
        obtain ⟨h1, h2⟩ := ah_at (ι := ι) hp hb
        have hn := hs id e ts mm es v off len _ hh hv
        simp only [cond_true, TV.emb1, hn] at hv ⊢
        simp only [Option.bind_some] at h2
        have hhA : (fun i => (h i).emb) id = .sl e ts.length mm (es.map (encs ts)) := by simp only [hh, TBlk.emb_sl]
        generalize hgA : (fun i => (h i).emb) = hA at hv hhA
        cases hv with
        | rdead v sz id off len h1 hd => rw [hhA] at hd; cases hd
        | rnil id e' sz m hi hh' =>
          rw [hhA] at hh'
          injection hh' with _ _ _ h4
          exact .rnil _ e ts.length mm (h2.trans hi) (by rw [h1, TBlk.emb_sl, h4])
        | r id off len b ao cap e' sz m es' hi hh' hlen hcap ho htip =>
          rw [hhA] at hh'
          injection hh' with q1 q2 q3 q4
          subst q1
          rw [← q4] at hlen
          exact .r id off len b ao cap e ts.length mm (es.map (encs ts)) (h2.trans hi) (by rw [h1, TBlk.emb_sl]) hlen hcap ho htip
      | false =>
      simp only [cond_false]
      split
      rotate_left
      · exact ⟨List.prefix_refl _, A, hu _ _⟩
      split
      rotate_left
      · exact ⟨List.prefix_refl _, A, hu _ _⟩
      rename_i hidx
      refine ⟨List.prefix_append _ _, A.push ⟨es, len, hh, rfl⟩ (fun id' h' => by cases h'; exact hidx), fun accF F' hp hF v hv => ?_⟩
      obtain ⟨h1, h2⟩ := ah_last (ι := ι) hp
      have hn := hs id e ts mm es v 0 len _ hh hv
      simp only [TV.emb1, hn] at hv
      simp only [Option.bind_some] at h2
      have hhA : (fun i => (h i).emb) id = .sl e ts.length mm (es.map (encs ts)) := by simp only [hh, TBlk.emb_sl]
      generalize hgA : (fun i => (h i).emb) = hA at hv hhA
      cases hv with
      | rdead v sz id off len h1 hd => rw [hhA] at hd; cases hd
      | rnil id e' sz m hi hh' =>
        rw [hhA] at hh'
        have : es = [] := by injection hh' with _ _ _ h4; simpa using h4
        subst this
        simp only [List.take_nil, List.length_nil]
        exact .rnil _ e ts.length mm (h2.trans hi) (by rw [h1]; rfl)
      | r id off len b ao cap e' sz m es' hi hh' hlen hcap ho htip =>
        rw [hhA] at hh'
        injection hh' with q1 q2 q3 q4
        subst q1
        have hle : len ≤ es.length := by rw [← q4] at hlen; simpa using hlen
        have hl : (es.take len).length = len := by simp [hle]
        simp only [TV.emb1]
        rw [hl]
        exact .r acc.length 0 len b ao cap e ts.length mm ((es.take len).map (encs ts)) (h2.trans hi) (by rw [h1]; rfl) (by simp [hle]) hcap ho htip
  · exact ⟨List.prefix_refl _, A, hu _ _⟩

theorem convL_sound {nl : Nat} (hz : FzOk w F ι h) (hs : ∀ id e ts m es v off len n, h id = .sl e ts m es → VR w F ι (fun i => (h i).emb) v (.r n id off len) → n = ts.length) :
    ∀ {ms : List Md1} {xs : List TV} {acc : Acc}, AccOk w F ι h acc → Full nl h acc → acc <+: (convL nl h ms xs acc).2 ∧ AccOk w F ι h (convL nl h ms xs acc).2 ∧ (convL nl h ms xs acc).1.length = xs.length ∧
      ∀ (k : Nat) (x y : TV), xs[k]? = some x → (convL nl h ms xs acc).1[k]? = some y → Keeps w F ι h (convL nl h ms xs acc).2 x y
  | ms, [], acc, A, hf => by
    cases ms <;> exact ⟨List.prefix_refl _, A, rfl, fun k x y hx => by simp at hx⟩
  | [], x :: xs, acc, A, hf => by
    obtain ⟨h1, h2, h3, h4⟩ := convL_sound hz hs (ms := []) (xs := xs) A hf
    refine ⟨h1, h2, by simp only [convL, List.length_cons, h3], fun k a b ha hb => ?_⟩
    simp only [convL] at hb
    cases k with
    | zero => simp at hb; subst hb; exact fun accF F' _ _ v _ => .u v
    | succ k => exact h4 k a b (by simpa using ha) (by simpa using hb)
  | m :: ms, x :: xs, acc, A, hf => by
    obtain ⟨g1, g2, g3⟩ := conv1_sound hz hs (m := m) (x := x) A hf
    obtain ⟨h1, h2, h3, h4⟩ := convL_sound hz hs (ms := ms) (xs := xs) g2 (hf.mono g1)
    refine ⟨g1.trans h1, h2, by simp only [convL, List.length_cons, h3], fun k a b ha hb => ?_⟩
    simp only [convL] at hb
    cases k with
    | zero => simp at ha hb; subst ha; subst hb; exact g3.mono h1
    | succ k => exact h4 k a b (by simpa using ha) (by simpa using hb)

/-- .. for a slot's value, which may be a struct. -/
def Keeps2 (w : World) (F : Nat → Prop) (ι : Nat → Option Nat) (h : Nat → TBlk) (acc : Acc) (x y : TV) : Prop :=
  ∀ (accF : Acc) (F' : Nat → Prop), acc <+: accF → (∀ b, F b → F' b) → ∀ v, VR w F ι (fun i => (h i).emb) v x.emb → VR w F' (aι ι accF) (ah accF) v y.emb

theorem Keeps2.mono {acc acc' : Acc} {x y : TV} (hp : acc <+: acc') (hk : Keeps2 w F ι h acc x y) : Keeps2 w F ι h acc' x y :=
  fun accF F' hpF hF v hv => hk accF F' (hp.trans hpF) hF v hv

theorem conv1_one {nl : Nat} {m : Md1} {x : TV} {acc : Acc} : (conv1 nl h m x acc).1.emb = (conv1 nl h m x acc).1.emb1 := by
  unfold conv1
  repeat' split
  all_goals first | rfl | (simp only [cond]; split <;> rfl)

theorem conv1_u {nl : Nat} {m : Md1} {x : TV} {acc : Acc} (hx : x.one = false) : conv1 nl h m x acc = (.u, acc) := by
  cases x <;> first | rfl | simp [TV.one] at hx

theorem conv_sound {nl : Nat} (hz : FzOk w F ι h) (hs : ∀ id e ts m es v off len n, h id = .sl e ts m es → VR w F ι (fun i => (h i).emb) v (.r n id off len) → n = ts.length) {m : Md} {x : TV} {acc : Acc} (A : AccOk w F ι h acc) (hf : Full nl h acc) :
    acc <+: (conv nl h m x acc).2 ∧ AccOk w F ι h (conv nl h m x acc).2 ∧ Keeps2 w F ι h (conv nl h m x acc).2 x (conv nl h m x acc).1 := by
  have hu : ∀ (a : Acc) (x : TV), Keeps2 w F ι h a x .u := fun a x accF F' _ _ v _ => .u v
  unfold conv
  split
  · rename_i m
    cases hx : x.one with
    | false => rw [conv1_u hx]; exact ⟨List.prefix_refl _, A, hu _ _⟩
    | true =>
      obtain ⟨g1, g2, g3⟩ := conv1_sound hz hs (m := m) (x := x) A hf
      refine ⟨g1, g2, fun accF F' hp hF v hv => ?_⟩
      rw [emb_one hx] at hv
      rw [conv1_one]
      exact g3 accF F' hp hF v hv
  · rename_i ms
    split
    rotate_left
    · exact ⟨List.prefix_refl _, A, hu _ _⟩
    rename_i id
    split
    · rename_i k hk
      obtain ⟨b, hb⟩ := accIdx_some hk
      refine ⟨List.prefix_refl _, A, fun accF F' hp hF v hv => ?_⟩
      obtain ⟨h1, h2⟩ := ah_at (ι := ι) hp hb
      have hg := A.good k _ hb
      have hb' : b ≠ .none ∧ b ≠ .dead := by
        cases b with
        | none => exact hg.elim
        | dead => exact hg.elim
        | _ => simp
      have hsz : b.emb.sz = (h id).emb.sz := by
        cases b with
        | none => exact hg.elim
        | dead => exact hg.elim
        | box cs => obtain ⟨cs0, q, _⟩ := hg; rw [q]; rfl
        | sl e ts m es => obtain ⟨es0, len, q, _⟩ := hg; rw [q]; rfl
      simp only [Option.bind_some] at h2
      cases hv with
      | pdead v id i j h3 hd =>
        exfalso
        have hd : (h id).emb = .dead := hd
        cases b with
        | none => exact hg
        | dead => exact hg
        | box cs => obtain ⟨cs0, q, _⟩ := hg; rw [q] at hd; cases hd
        | sl e ts m es => obtain ⟨es0, len, q, _⟩ := hg; rw [q] at hd; cases hd
      | p id i j bk hi hn hd =>
        have : VR w F' (aι ι accF) (ah accF) (.pointer (some ⟨bk, 0 * (ah accF k).sz + 0, none⟩)) (.p k 0 0) :=
          .p k 0 0 bk (h2.trans hi) (by rw [h1]; cases b <;> simp_all [TBlk.emb]) (by rw [h1]; cases b <;> simp_all [TBlk.emb])
        show VR _ _ _ _ _ (AV.p k 0 0)
        simpa using this
    · rename_i hnone
      split
      rotate_left
      · exact ⟨List.prefix_refl _, A, hu _ _⟩
      rename_i cs hh
      obtain ⟨g1, g2, g3, g4⟩ := convL_sound hz hs (ms := ms) (xs := cs) A hf
      simp only
      split
      rotate_left
      · exact ⟨List.prefix_refl _, A, hu _ _⟩
      rename_i hnone2
      have hp1 : (convL nl h ms cs acc).2 <+: (convL nl h ms cs acc).2 ++ [(some id, .box (convL nl h ms cs acc).1)] := List.prefix_append _ _
      refine ⟨g1.trans hp1, g2.push ⟨cs, hh, g3, fun k x y hx hy => (g4 k x y hx hy).mono hp1⟩ (fun id' h' => by cases h'; exact hnone2), fun accF F' hp hF v hv => ?_⟩
      obtain ⟨h1, h2⟩ := ah_last (ι := ι) hp
      simp only [Option.bind_some] at h2
      cases hv with
      | pdead v id i j h3 hd => have hd : (h id).emb = .dead := hd; rw [hh] at hd; cases hd
      | p id i j bk hi hn hd =>
        have : VR w F' (aι ι accF) (ah accF) (.pointer (some ⟨bk, 0 * (ah accF (convL nl h ms cs acc).2.length).sz + 0, none⟩)) (.p (convL nl h ms cs acc).2.length 0 0) :=
          .p _ 0 0 bk (h2.trans hi) (by rw [h1]; simp [TBlk.emb]) (by rw [h1]; simp [TBlk.emb])
        show VR _ _ _ _ _ (AV.p (convL nl h ms cs acc).2.length 0 0)
        simpa using this
  · rename_i ms
    split
    rotate_left
    · exact ⟨List.prefix_refl _, A, hu _ _⟩
    rename_i cs
    obtain ⟨g1, g2, g3, g4⟩ := convL_sound hz hs (ms := ms) (xs := cs) A hf
    refine ⟨g1, g2, fun accF F' hp hF v hv => ?_⟩
    cases hv with
    | a vs cs' hl h1 hv =>
      refine .a vs _ (by simpa [g3] using hl) h1 (fun k v y hk hy => ?_)
      simp only [List.getElem?_map, Option.map_eq_some_iff] at hy
      obtain ⟨y0, hy0, rfl⟩ := hy
      have hlt : k < cs.length := by rw [← g3]; exact (List.getElem?_eq_some_iff.1 hy0).1
      exact g4 k cs[k] y0 (List.getElem?_eq_getElem hlt) hy0 accF F' hp hF v (hv k v _ hk (by simp [hlt]))

theorem convS_sound {nl : Nat} (hz : FzOk w F ι h) (hs : ∀ id e ts m es v off len n, h id = .sl e ts m es → VR w F ι (fun i => (h i).emb) v (.r n id off len) → n = ts.length) {T : Nat → TV} :
    ∀ {L : List (Nat × Md)} {acc : Acc}, AccOk w F ι h acc → Full nl h acc → acc <+: (convS nl h T L acc).2 ∧ AccOk w F ι h (convS nl h T L acc).2 ∧ ∀ s, Keeps2 w F ι h (convS nl h T L acc).2 (T s) (lkT (convS nl h T L acc).1 s)
  | [], acc, A, hf => ⟨List.prefix_refl _, A, fun s accF F' _ _ v _ => .u v⟩
  | (s, m) :: L, acc, A, hf => by
    obtain ⟨g1, g2, g3⟩ := conv_sound hz hs (m := m) (x := T s) A hf
    obtain ⟨h1, h2, h3⟩ := convS_sound hz hs (T := T) (L := L) g2 (hf.mono g1)
    refine ⟨g1.trans h1, h2, fun s' => ?_⟩
    simp only [convS, lkT_cons, upd]
    split
    · rename_i e; subst e; exact g3.mono h1
    · exact h3 s'
end

theorem numbB_get : ∀ (acc : Acc) (n k : Nat), lkB (numbB n acc) k = if n ≤ k then (match acc[k - n]? with | some (_, b) => b | none => .none) else .none
  | [], n, k => by simp [numbB, lkB]
  | (o, b) :: r, n, k => by
    simp only [numbB, lkB_cons, upd]
    by_cases h : k = n
    · subst h; simp
    · rw [if_neg h, numbB_get r (n + 1) k]
      by_cases h2 : n ≤ k
      · rw [if_pos h2, if_pos (by omega), show k - n = (k - (n + 1)) + 1 by omega]
        simp
      · rw [if_neg h2, if_neg (by omega)]

theorem lentAcc_len (h : Nat → TBlk) : ∀ n, (lentAcc h n).length = n
  | 0 => rfl
  | n + 1 => by simp only [lentAcc, List.length_append, lentAcc_len h n, List.length_singleton]

theorem alld_eq : ∀ (cs : List TV), alld cs = cs.map fun _ => .d
  | [] => rfl
  | x :: xs => by simp [alld, alld_eq xs]

/-- To make all cells data takes nothing in. -/
theorem convL_d {nl : Nat} {h : Nat → TBlk} : ∀ {cs : List TV} {acc : Acc}, (convL nl h (alld cs) cs acc).2 = acc
  | [], acc => rfl
  | x :: xs, acc => by
    have : (conv1 nl h .d x acc).2 = acc := by
      unfold conv1
      split <;> try rfl
      split <;> try rfl
      simp only
      rename_i mm _ _
      cases mm <;> rfl
    simp only [alld, convL, this]
    exact convL_d

section
variable {C : Ctx} {U : Nat → Prop} {a : Act} {w : World} {ι : Nat → Option Nat}

theorem frzF_emb (h : Nat → TBlk) (ids : List Nat) : (fun i => (frzF h ids i).emb) = updL (fun i => (h i).emb) (frz (fun i => (h i).emb) ids) := by
  funext i
  rw [frz_get]
  simp only [frzF]
  by_cases hi : i ∈ ids
  · rw [if_pos hi, show ids.elem i = true by simpa using hi]; simp only [cond_true]; exact fzT_emb _
  · rw [if_neg hi, show ids.elem i = false by simpa using hi]; rfl

/-- THE SMALL STATE STANDS FOR THE SAME WORLDS. -/
theorem gc_sound {σ : TSt} {nl : Nat} {L : List (Nat × Md)} (S : Sat C U σ.emb a w ι) (hL : ∀ i b, C.L i = some b → i < nl) (hO : ∀ i o, C.O i = some o → i < nl) (hOb : ∀ i o cs, C.O i ≠ some (o, .box cs)) : ∃ ι', Sat C (fun i => (gc nl L σ).nx ≤ i) (gc nl L σ).emb a w ι' := by
  obtain ⟨t, h0, nx⟩ := σ
  let H := lkB h0
  let T := lkT t
  let ids := lentFz H nl ++ fzIds H T L
  obtain ⟨S1, _⟩ := S.freeze ids
  have hf : updL (TSt.emb ⟨t, h0, nx⟩).h (frz (TSt.emb ⟨t, h0, nx⟩).h ids) = fun i => (frzF H ids i).emb := (frzF_emb H ids).symm
  rw [hf] at S1
  generalize hh : frzF H ids = h at S1
  let F := Fz C w ι fun i => (h i).emb
  have hs : ∀ id e ts m es v off len n, h id = .sl e ts m es → VR w F ι (fun i => (h i).emb) v (.r n id off len) → n = ts.length := by
    intro id e ts m es v off len n hid hv
    have hA : (fun i => (h i).emb) id = .sl e ts.length m (es.map (encs ts)) := by simp only [hid, TBlk.emb_sl]
    generalize (fun i => (h i).emb) = hB at hv hA
    cases hv with
    | rdead v sz id off len h1 hd => rw [hA] at hd; cases hd
    | rnil id e' sz m' hi hh' => rw [hA] at hh'; injection hh' with _ q _ _; exact q.symm
    | r id off len b ao cap e' sz m' es' hi hh' hlen hcap ho htip => rw [hA] at hh'; injection hh' with _ q _ _; exact q.symm
  have hz : FzOk w F ι h := by
    intro id e ts es v off len hid hv
    have hA : (fun i => (h i).emb) id = .sl e ts.length false (es.map (encs ts)) := by simp only [hid, TBlk.emb_sl]
    refine AV.d_rd S1 (F := F) (fun b hb => hb) hv (d := .sl ts.length (((es.map (encs ts)).drop off).take len)) ?_ (fun id' b hid' hb => ?_)
    · show (match (h id).emb with | .sl _ sz _ es => some (D.sl sz ((es.drop off).take len)) | _ => none) = _
      rw [hid]
      rfl
    · simp only [AV.ref1, List.mem_singleton] at hid'
      subst hid'
      obtain ⟨r1, r2⟩ := S1.rng id' b hb
      refine ⟨r2, ?_, fun j hj => ?_⟩
      · rcases r1 with r1 | ⟨_, cs, q⟩
        · exact .inr r1
        · have q : (h id').emb = .box cs := q
          rw [hid] at q; cases q
      · have := S1.inj j id' b hj hb
        subst this
        show ((h j).emb).own = false
        rw [hid]; rfl
  have hlent : ∀ n, AccOk w F ι h (lentAcc h n) := by
    intro n
    induction n with
    | zero => exact ⟨fun k e he => by simp [lentAcc] at he, fun k j id b c hk => by simp [lentAcc] at hk⟩
    | succ n ih =>
      simp only [lentAcc]
      have hnone : accIdx (lentAcc h n) n = none := by
        cases hx : accIdx (lentAcc h n) n with
        | none => rfl
        | some k =>
          obtain ⟨b, hb⟩ := accIdx_some hx
          have : ∀ (n k j : Nat) (b : TBlk), (lentAcc h n)[k]? = some (some j, b) → j = k := by
            intro n
            induction n with
            | zero => intro k j b hk; simp [lentAcc] at hk
            | succ n ih =>
              intro k j b hk
              simp only [lentAcc] at hk
              rw [List.getElem?_append] at hk
              split at hk
              · exact ih k j b hk
              · rename_i hge
                have h1 := List.mem_of_getElem? hk
                have h2 := (List.getElem?_eq_some_iff.1 hk).1
                simp only [List.mem_singleton] at h1
                simp only [lentAcc_len, List.length_singleton] at hge h2
                split at h1 <;> first | (cases h1; omega) | cases h1
          have h1 := this n k n b hb
          have h2 := (List.getElem?_eq_some_iff.1 hb).1
          rw [lentAcc_len] at h2
          omega
      split
      · rename_i cs hcs
        obtain ⟨g1, g2, g3, g4⟩ := convL_sound (nl := 0) hz hs (ms := alld cs) (xs := cs) ih (fun id _ _ _ _ h => by omega)
        rw [convL_d] at g1 g2 g4
        exact ih.push ⟨cs, hcs, g3, fun k x y hx hy => (g4 k x y hx hy).mono (List.prefix_append _ _)⟩ (fun id hid => by cases hid; exact hnone)
      · rename_i e ts m es hq
        exact ih.push ⟨es, es.length, hq, List.take_length.symm⟩ (fun id hid => by cases hid; exact hnone)
      · exact ih.push trivial (fun id hid => by cases hid)
      · exact ih.push trivial (fun id hid => by cases hid)
  have hfull : ∀ n, Full n h (lentAcc h n) := by
    intro n
    induction n with
    | zero => intro id e ts m es hlt; omega
    | succ n ih =>
      intro id e ts m es hlt hid
      simp only [lentAcc]
      by_cases hin : id < n
      · rw [List.getElem?_append_left (by rw [lentAcc_len]; exact hin)]
        exact ih id e ts m es hin hid
      · have : id = n := by omega
        subst this
        rw [List.getElem?_append_right (by rw [lentAcc_len]; omega), lentAcc_len, hid]
        simp
  have hnb : ∀ i o B, C.O i = some (o, B) → ∀ cs, h i ≠ .box cs := by
    intro i o B hi cs hq
    rcases S1.hand i o B hi with r1 | ⟨_, r2, _⟩
    · have r1 : (h i).emb = .dead := r1
      rw [hq] at r1
      cases r1
    · have r2 : Same B (h i).emb := r2
      rw [hq] at r2
      cases B with
      | box cs' => exact hOb i o cs' hi
      | _ => exact r2.elim
  have hdead : ∀ n i, i < n → h i = .dead → (lentAcc h n)[i]? = some (none, .dead) := by
    intro n
    induction n with
    | zero => intro i hlt; omega
    | succ n ih =>
      intro i hlt hid
      simp only [lentAcc]
      by_cases hin : i < n
      · rw [List.getElem?_append_left (by rw [lentAcc_len]; exact hin)]
        exact ih i hin hid
      · have : i = n := by omega
        subst this
        rw [List.getElem?_append_right (by rw [lentAcc_len]; omega), lentAcc_len, hid]
        simp
  obtain ⟨g1, g2, g3⟩ := convS_sound (nl := nl) hz hs (T := T) (L := L) (hlent nl) (hfull nl)
  have hgc : gc nl L ⟨t, h0, nx⟩ = ⟨(convS nl h T L (lentAcc h nl)).1, numbB 0 (convS nl h T L (lentAcc h nl)).2, (convS nl h T L (lentAcc h nl)).2.length⟩ := by
    unfold gc
    show TSt.mk _ _ _ = _
    simp only [show frzF (TSt.H ⟨t, h0, nx⟩) (lentFz (TSt.H ⟨t, h0, nx⟩) nl ++ fzIds (TSt.H ⟨t, h0, nx⟩) (TSt.T ⟨t, h0, nx⟩) L) = h from hh]
    rfl
  rw [hgc]
  generalize hacc : (convS nl h T L (lentAcc h nl)).2 = acc at g1 g2 g3
  have hah : (fun i => (lkB (numbB 0 acc) i).emb) = ah acc := by
    funext k
    rw [numbB_get]
    simp only [Nat.zero_le, if_true, Nat.sub_zero, ah]
    cases acc[k]? with
    | none => rfl
    | some x => obtain ⟨o, b⟩ := x; rfl
  have hex : ∀ (k b : Nat), aι ι acc k = some b → ∃ id B, acc[k]? = some (some id, B) ∧ ι id = some b := by
    intro k b hk
    simp only [aι] at hk
    cases hx : acc[k]? with
    | none => rw [hx] at hk; cases hk
    | some x =>
      obtain ⟨o, B⟩ := x
      rw [hx] at hk
      cases o with
      | none => cases hk
      | some id => exact ⟨id, B, rfl, hk⟩
  have hF : ∀ b, F b → Fz C w (aι ι acc) (ah acc) b := by
    intro b ⟨q1, q2, q3⟩
    refine ⟨q1, q2, fun k hk => ?_⟩
    obtain ⟨id, B, h1, h2⟩ := hex k b hk
    have h3 := q3 id h2
    have hg := g2.good k _ h1
    simp only [ah, h1]
    cases B with
    | none => rfl
    | dead => rfl
    | box cs => obtain ⟨cs0, e, _⟩ := hg; have h3 : ((h id).emb).own = false := h3; rw [e] at h3; cases h3
    | sl e ts m es => obtain ⟨es0, len, e, _⟩ := hg; have h3 : ((h id).emb).own = false := h3; rw [e] at h3; exact h3
  have key : Sat C (fun i => acc.length ≤ i) ⟨fun s => (lkT (convS nl h T L (lentAcc h nl)).1 s).emb, ah acc, acc.length⟩ a w (aι ι acc) := by
    refine ⟨S1.fra, fun s => ?_, S1.size, S1.defers, fun k => ?_, fun i j b hi hj => ?_, fun i b hi => ?_, fun i hi => ?_, fun i b hi => ?_, fun i b hi => ?_, fun i o B hi => ?_⟩
    · exact g3 s acc _ (List.prefix_refl _) hF _ (S1.vals s)
    · show BR w (Fz C w (aι ι acc) (ah acc)) (aι ι acc) (ah acc) k (ah acc k)
      cases hx : acc[k]? with
      | none => simp only [ah, hx]; exact .none
      | some x =>
        obtain ⟨o, B⟩ := x
        have hg := g2.good k _ hx
        have ha : ah acc k = B.emb := by simp only [ah, hx]
        have hi : aι ι acc k = o.bind ι := by simp only [aι, hx, Option.bind_some]
        rw [ha]
        cases o with
        | none =>
          cases B with
          | none => exact .none
          | dead => exact .dead
          | box cs => exact hg.elim
          | sl e ts m es =>
            obtain ⟨e1, e2, e3⟩ := hg
            subst e1
            exact .slnil e ts.length m e2 hi
        | some id =>
          simp only [Option.bind_some] at hi
          have hb := S1.blk id
          cases B with
          | none => exact hg.elim
          | dead => exact hg.elim
          | box cs =>
            obtain ⟨cs0, e1, e2, e3⟩ := hg
            have hb : BR w F ι (fun i => (h i).emb) id ((h id).emb) := hb
            rw [e1] at hb
            cases hb with
            | box b e vals _ q1 q2 q3 q4 q5 =>
              refine .box b e vals _ (hi.trans q1) q2 (by simpa [e2] using q3) q4 (fun j v y hj hy => ?_)
              simp only [List.getElem?_map, Option.map_eq_some_iff] at hy
              obtain ⟨y0, hy0, rfl⟩ := hy
              have hlt : j < cs0.length := by rw [← e2]; exact (List.getElem?_eq_some_iff.1 hy0).1
              exact e3 j cs0[j] y0 (List.getElem?_eq_getElem hlt) hy0 acc _ (List.prefix_refl _) hF v (q5 j v _ hj (by simp [hlt]))
          | sl e ts m es =>
            obtain ⟨es0, len, e1, e2⟩ := hg
            have hb : BR w F ι (fun i => (h i).emb) id ((h id).emb) := hb
            rw [e1] at hb
            subst e2
            simp only [TBlk.emb_sl] at hb ⊢
            generalize hes : es0.map (encs ts) = es1 at hb
            have het : (es0.take len).map (encs ts) = es1.take len := by rw [← hes, List.map_take]
            rw [het]
            cases hb with
            | slnil _ _ _ q1 q2 => simp only [List.take_nil]; exact .slnil e ts.length m q1 (hi.trans q2)
            | sl b _ _ _ _ cur Cc q1 q2 q3 q4 q5 q6 q7 q8 =>
              refine .sl b e ts.length m _ cur Cc q1 (hi.trans q2) q3 q4 (by simp; omega) q6 (fun x hx => q7 x (List.mem_of_mem_take hx)) (fun i j x d hx hd => ?_)
              rw [List.getElem?_take] at hx
              split at hx
              · obtain ⟨v, r1, r2⟩ := q8 i j x d hx hd
                exact ⟨v, r1, r2.mono fun b hb => ⟨hF b hb, rfl⟩⟩
              · cases hx
    · obtain ⟨id, B, h1, h2⟩ := hex i b hi
      obtain ⟨id', B', h3, h4⟩ := hex j b hj
      have := S1.inj id id' b h2 h4
      subst this
      exact g2.nodup i j id B B' h1 h3
    · obtain ⟨id, B, h1, h2⟩ := hex i b hi
      obtain ⟨r1, r2⟩ := S1.rng id b h2
      refine ⟨r1.imp (fun x => x) fun ⟨r3, cs, r4⟩ => ⟨r3, ?_⟩, r2⟩
      have r4 : (h id).emb = .box cs := r4
      have hg := g2.good i _ h1
      cases B with
      | none => exact hg.elim
      | dead => exact hg.elim
      | box cs' => exact ⟨cs'.map TV.emb1, by simp only [ah, h1]; rfl⟩
      | sl e ts m es => obtain ⟨es0, len, e1, _⟩ := hg; rw [e1] at r4; cases r4
    · have : acc[i]? = none := List.getElem?_eq_none hi
      simp only [ah, aι, this, Option.bind_none, and_self]
    · obtain ⟨id, B, h1, h2⟩ := hex i b hi
      have hg := g2.good i _ h1
      simp only [ah, h1]
      cases B with
      | none => exact hg.elim
      | dead => exact hg.elim
      | box cs' => simp [TBlk.emb]
      | sl e ts m es => simp [TBlk.emb]
    · obtain ⟨r1, ⟨cs, r2⟩, r3⟩ := S1.lent i b hi
      have r2 : (h i).emb = .box cs := r2
      have hlt := hL i b hi
      have hent : ∀ n, i < n → ∃ cs', (lentAcc h n)[i]? = some (some i, .box cs') := by
        intro n
        induction n with
        | zero => intro hn; omega
        | succ n ih =>
          intro hn
          simp only [lentAcc]
          rw [List.getElem?_append]
          by_cases hin : i < n
          · rw [if_pos (by rw [lentAcc_len]; exact hin)]; exact ih hin
          · have : i = n := by omega
            subst this
            rw [if_neg (by rw [lentAcc_len]; omega), lentAcc_len]
            cases hq : h i with
            | box cs0 => simp
            | none => rw [hq] at r2; cases r2
            | dead => rw [hq] at r2; cases r2
            | sl e ts m es => rw [hq] at r2; cases r2
      obtain ⟨cs', h1⟩ := hent nl hlt
      obtain ⟨rr, hrr⟩ := g1
      have h2 : acc[i]? = some (some i, .box cs') := by
        rw [← hrr, List.getElem?_append_left (List.getElem?_eq_some_iff.1 h1).1]; exact h1
      exact ⟨by simp only [aι, h2, Option.bind_some]; exact r1, ⟨cs'.map TV.emb1, by simp only [ah, h2]; rfl⟩, r3⟩
    · have hlt := hO i _ hi
      obtain ⟨rr, hrr⟩ := g1
      have hin : ∀ x, (lentAcc h nl)[i]? = some x → acc[i]? = some x := fun x hx => by
        rw [← hrr, List.getElem?_append_left (List.getElem?_eq_some_iff.1 hx).1]; exact hx
      rcases S1.hand i o B hi with r1 | ⟨r1, r2, r3⟩
      · left
        have r1 : (h i).emb = .dead := r1
        have : h i = .dead := by cases hq : h i <;> rw [hq] at r1 <;> first | rfl | cases r1
        show ah acc i = .dead
        simp only [ah, hin _ (hdead nl i hlt this)]
        rfl
      · have r2 : Same B (h i).emb := r2
        right
        cases hq : h i with
        | none => rw [hq] at r2; exact absurd rfl r2.ne.1
        | dead => rw [hq] at r2; exact absurd rfl r2.ne.2
        | sl e ts m es =>
          have hx := hin _ (hfull nl i e ts m es hlt hq)
          refine ⟨by simp only [aι, hx, Option.bind_some]; exact r1, ?_, r3⟩
          show Same B (ah acc i)
          simp only [ah, hx]
          rw [hq] at r2
          exact r2
        | box cs => exact absurd hq (hnb i o B hi cs)
  refine ⟨aι ι acc, ?_⟩
  have hemb : TSt.emb ⟨(convS nl h T L (lentAcc h nl)).1, numbB 0 acc, acc.length⟩ = ⟨fun s => (lkT (convS nl h T L (lentAcc h nl)).1 s).emb, ah acc, acc.length⟩ := by
    unfold TSt.emb TSt.T TSt.H
    rw [← hah]
  rw [hemb]
  exact key
end
end Go.Proofs.Ytephkbajoofeoaa.Am
