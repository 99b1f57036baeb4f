/-
  FROM THE ABSTRACT MACHINE TO A CONTRACT: where a function begins, what it hands back.
-/
import Derived.Test.YtephkbajoofeoaaAmP
namespace Go.Proofs.Ytephkbajoofeoaa.Am
set_option linter.unusedSimpArgs false
set_option linter.unusedVariables false
open Go Go.RowKit

/-- A result variable: a slot, or the address of so many cells. -/
inductive ARv where
  | t (s : Nat)
  | l (s n : Nat) (agg : Bool)

def cRv (P : Program) : ResultVar → Option ARv
  | .tmp t => some (.t t)
  | .cell a ty => match szOf P ty, aggOf P ty with
    | some n, some agg => some (.l a (if agg then n else 1) agg)
    | _, _ => none

def cRvs (P : Program) : List ResultVar → Option (List ARv)
  | [] => some []
  | x :: xs => match cRv P x, cRvs P xs with
    | some y, some ys => some (y :: ys)
    | _, _ => none

def noTab : Tab := ⟨fun _ => [], fun _ _ => none⟩

def ARv.get (σ : St) : ARv → Option AV
  | .t s => some (σ.t s)
  | .l s n agg => match delta noTab (Opd.ev σ.t) σ.h 0 (.load (.s s) n agg) with
    | some e => some e.val
    | none => none

def rvGet (σ : St) : List ARv → Option (List AV)
  | [] => some []
  | x :: xs => match x.get σ, rvGet σ xs with
    | some y, some ys => some (y :: ys)
    | _, _ => none

def packR : List AV → AV
  | [x] => x
  | xs => .t xs

/-- Own numbers anew: by their place in a list. -/
def AV.rn1 (ids : List Nat) : AV → AV
  | .r sz id off len => if id ∈ ids then .r sz (ids.idxOf id) off len else .u
  | .p id i j => if id ∈ ids then .p (ids.idxOf id) i j else .u
  | .c d => .c d
  | .n sz => .n sz
  | .q cs j => .q cs j
  | _ => .u

def AV.rn2 (ids : List Nat) : AV → AV
  | .a cs => .a (cs.map (AV.rn1 ids))
  | x => x.rn1 ids

def AV.rn (ids : List Nat) : AV → AV
  | .t vs => .t (vs.map (AV.rn2 ids))
  | x => x.rn2 ids

def Blk.rn (ids : List Nat) : Blk → Blk
  | .box cs => .box (cs.map (AV.rn1 ids))
  | x => x

/-- What is in the lent boxes, from the k-th on. -/
def bxGet (h : Nat → Blk) : Nat → Nat → Option (List (List AV))
  | 0, _ => some []
  | n + 1, k => match h k, bxGet h n (k + 1) with
    | .box cs, some css => if cs.all isC then some (cs :: css) else none
    | _, _ => none

/-- What the slices are that were handed over, from the k-th number on. -/
def gvGet (h : Nat → Blk) : Nat → Nat → Option (List Blk)
  | 0, _ => some []
  | n + 1, k => match h k, gvGet h n (k + 1) with
    | .sl e sz m es, some css => some (.sl e sz m es :: css)
    | .dead, some css => some (.dead :: css)
    | _, _ => none

def expRes (n m : Nat) (ids : List Nat) (σ : St) (v : AV) : Option Res :=
  match bxGet σ.h n 0, gvGet σ.h m n with
  | some css, some gs => some ⟨v.rn ids, ids.map fun id => (σ.h id).rn ids, css, true, gs⟩
  | _, _ => none

def layS : List AV → Nat → Nat → List AV
  | [], _, _ => []
  | .bx _ :: r, k, m => .p k 0 0 :: layS r (k + 1) m
  | .ow _ sz es :: r, k, m => .r sz m 0 es.length :: layS r k (m + 1)
  | x :: r, k, m => x :: layS r k m

def layG : List AV → List Blk
  | [] => []
  | .ow e sz es :: r => .sl e sz true es :: layG r
  | _ :: r => layG r

def layB : List AV → List (List AV)
  | [] => []
  | .bx cs :: r => cs :: layB r
  | _ :: r => layB r

/-- Where a function begins. -/
def start (xs : List AV) : St :=
  ⟨fun s => ((layS xs 0 (layB xs).length)[s]?).getD .u, fun i => match (layB xs)[i]? with | some cs => .box cs | none => ((layG xs)[i - (layB xs).length]?).getD .none, (layB xs).length + (layG xs).length⟩

def AEx.over : AEx → Prop
  | .normal => True
  | .ret => True
  | .exit _ => False

/-- How a function ends: with this result. -/
def Ends (n m : Nat) (rs : List ARv) (r : Res) (e : AEx) (σ : St) : Prop :=
  e.over ∧ ∃ ids vs, rvGet σ rs = some vs ∧ ids.Nodup ∧ (∀ id, id ∈ ids → n + m ≤ id) ∧ expRes n m ids σ (packR vs) = some r

theorem mapM_run {P : Program} {w : World} {α : Type} (f : α → Sem Value) : ∀ (l : List α) (rest : List Value), rest.length = l.length →
    (∀ (k : Nat) (v : Value) (x : α), rest[k]? = some v → l[k]? = some x → (f x).run P w = .ok v w) → (l.mapM f).run P w = .ok rest w
  | [], [], _, _ => by simp
  | [], v :: rest, hl, _ => by simp at hl
  | x :: l, [], hl, _ => by simp at hl
  | x :: l, v :: rest, hl, h => by
    rw [List.mapM_cons, Sem.run_bind, h 0 v x rfl rfl, Result.andThen_ok, Sem.run_bind, mapM_run f l rest (by simpa using hl) (fun k v x hk hx => h (k + 1) v x hk hx), Result.andThen_ok, Sem.run_pure]

theorem bxGet_get {h : Nat → Blk} : ∀ {n k : Nat} {css : List (List AV)}, bxGet h n k = some css → css.length = n ∧ ∀ (i : Nat) (cs : List AV), css[i]? = some cs → h (k + i) = .box cs ∧ cs.all isC = true
  | 0, k, css, hx => by simp [bxGet] at hx; subst hx; simp
  | n + 1, k, css, hx => by
    simp only [bxGet] at hx
    split at hx
    · rename_i cs css' h1 h2
      split at hx
      · rename_i h3
        have hx := (Option.some.inj hx).symm
        subst hx
        obtain ⟨h4, h5⟩ := bxGet_get h2
        refine ⟨by simp [h4], fun i c hi => ?_⟩
        cases i with
        | zero => simp at hi; subst hi; exact ⟨h1, h3⟩
        | succ i =>
          simp at hi
          rw [show k + (i + 1) = k + 1 + i by omega]
          exact h5 i c hi
      · cases hx
    · cases hx

theorem gvGet_get {h : Nat → Blk} : ∀ {n k : Nat} {css : List Blk}, gvGet h n k = some css → css.length = n ∧ ∀ (i : Nat) (B : Blk), css[i]? = some B → h (k + i) = B ∧ (B = .dead ∨ ∃ e sz m es, B = .sl e sz m es)
  | 0, k, css, hx => by simp [gvGet] at hx; subst hx; simp
  | n + 1, k, css, hx => by
    simp only [gvGet] at hx
    split at hx
    · rename_i e sz m es css' h1 h2
      cases hx
      obtain ⟨h4, h5⟩ := gvGet_get h2
      refine ⟨by simp [h4], fun i c hi => ?_⟩
      cases i with
      | zero => simp at hi; subst hi; exact ⟨h1, .inr ⟨_, _, _, _, rfl⟩⟩
      | succ i =>
        simp at hi
        rw [show k + (i + 1) = k + 1 + i by omega]
        exact h5 i c hi
    · rename_i css' h1 h2
      cases hx
      obtain ⟨h4, h5⟩ := gvGet_get h2
      refine ⟨by simp [h4], fun i c hi => ?_⟩
      cases i with
      | zero => simp at hi; subst hi; exact ⟨h1, .inl rfl⟩
      | succ i =>
        simp at hi
        rw [show k + (i + 1) = k + 1 + i by omega]
        exact h5 i c hi
    · cases hx

section
variable {w : World} {F F' : Nat → Prop} {ι : Nat → Option Nat} {h h' : Nat → Blk} {ids : List Nat}

theorem idx_get {id : Nat} (hid : id ∈ ids) : ids[ids.idxOf id]? = some id := by
  have h1 : ids.idxOf id < ids.length := List.idxOf_lt_length_of_mem hid
  rw [List.getElem?_eq_getElem h1, List.getElem_idxOf h1]

variable (hF : ∀ b, F b → F' b) (hh : ∀ i id, ids[i]? = some id → h' i = (h id).rn ids)
include hF hh

theorem VR.rn1 {v : Value} {x : AV} (hv : VR w F ι h v x) : VR w F' (fun i => (ids[i]?).bind ι) h' v (x.rn1 ids) := by
  cases hv with
  | u => exact .u _
  | c v d hr => exact .c _ _ (hr.mono fun b hb => ⟨hF b hb, rfl⟩)
  | n sz => exact .n _
  | rdead v sz id off len h1 hd =>
    simp only [AV.rn1]
    split
    · rename_i hm
      exact .rdead _ _ _ _ _ h1 (by rw [hh _ _ (idx_get hm), hd]; rfl)
    · exact .u _
  | rnil id e sz m hi hx =>
    simp only [AV.rn1]
    split
    · rename_i hm
      exact .rnil _ e sz m (by simp [idx_get hm, hi]) (by rw [hh _ _ (idx_get hm), hx]; rfl)
    · exact .u _
  | r id off len bk ao cap e sz m es hi hx hlen hcap hao htip =>
    simp only [AV.rn1]
    split
    · rename_i hm
      exact .r _ off len bk ao cap e sz m es (by simp [idx_get hm, hi]) (by rw [hh _ _ (idx_get hm), hx]; rfl) hlen hcap hao htip
    · exact .u _
  | pdead v id i j h1 hd =>
    simp only [AV.rn1]
    split
    · rename_i hm
      exact .pdead _ _ _ _ h1 (by rw [hh _ _ (idx_get hm), hd]; rfl)
    · exact .u _
  | p id i j bk hi hn hd =>
    simp only [AV.rn1]
    split
    · rename_i hm
      have hs : (h' (ids.idxOf id)).sz = (h id).sz := by rw [hh _ _ (idx_get hm)]; cases h id <;> rfl
      rw [← hs]
      refine .p _ i j bk (by simp [idx_get hm, hi]) ?_ ?_
      · rw [hh _ _ (idx_get hm)]; cases hx : h id <;> simp_all [Blk.rn]
      · rw [hh _ _ (idx_get hm)]; cases hx : h id <;> simp_all [Blk.rn]
    · exact .u _
  | q bk o j cs x hb hc hr => exact .q bk o j cs x (hF _ hb) hc (fun k d hk => (hr k d hk).mono fun b hb => ⟨hF b hb, rfl⟩)
  | a => exact .u _
  | t => exact .u _

theorem VR.rn2 {v : Value} {x : AV} (hv : VR w F ι h v x) : VR w F' (fun i => (ids[i]?).bind ι) h' v (x.rn2 ids) := by
  cases x with
  | a cs =>
    cases hv with
    | a vs _ hl h1 hv =>
      refine .a vs _ (by simpa using hl) h1 (fun k v x hk hx => ?_)
      simp only [List.getElem?_map, Option.map_eq_some_iff] at hx
      obtain ⟨y, hy, rfl⟩ := hx
      exact (hv k v y hk hy).rn1 hF hh
  | _ => exact hv.rn1 hF hh

theorem VR.rn {v : Value} {x : AV} (hv : VR w F ι h v x) : VR w F' (fun i => (ids[i]?).bind ι) h' v (x.rn ids) := by
  cases x with
  | t cs =>
    cases hv with
    | t vs _ hl hv =>
      refine .t vs _ (by simpa using hl) (fun k v x hk hx => ?_)
      simp only [List.getElem?_map, Option.map_eq_some_iff] at hx
      obtain ⟨y, hy, rfl⟩ := hx
      exact (hv k v y hk hy).rn2 hF hh
  | _ => exact hv.rn2 hF hh

theorem BR.rn {i id : Nat} (hi : ids[i]? = some id) {B : Blk} (hv : BR w F ι h id B) : BR w F' (fun i => (ids[i]?).bind ι) h' i (B.rn ids) := by
  have hιi : (fun i => (ids[i]?).bind ι) i = ι id := by simp [hi]
  cases hv with
  | none => exact .none
  | dead => exact .dead
  | box bk e vals cs hi' hb hl h1 hv =>
    refine .box bk e vals _ (hιi.trans hi') hb (by simpa using hl) h1 (fun k v x hk hx => ?_)
    simp only [List.getElem?_map, Option.map_eq_some_iff] at hx
    obtain ⟨y, hy, rfl⟩ := hx
    exact (hv k v y hk hy).rn1 hF hh
  | slnil e sz m hz hi' => exact .slnil e sz m hz (hιi.trans hi')
  | sl bk e sz m es cur Cc hz hi' hb hC hle hC2 hsz hv =>
    exact .sl bk e sz m es cur Cc hz (hιi.trans hi') hb hC hle hC2 hsz (fun p q x d hp hq => let ⟨v, h1, h2⟩ := hv p q x d hp hq; ⟨v, h1, h2.mono fun b hb => ⟨hF b hb, rfl⟩⟩)

end

section
variable {C : Ctx} {U : Nat → Prop} {σ : St} {a : Act} {w : World} {ι : Nat → Option Nat}

def rvRun (a : Act) : ResultVar → Sem Value
  | .tmp t => pure (a.tmps.getD t undef)
  | .cell ad t => do loadVar t (← asAddr (a.tmps.getD ad undef))

theorem rv_sound (S : Sat C U σ a w ι) {x : ResultVar} {y : ARv} (hx : cRv C.P x = some y) {v : AV} (hv : y.get σ = some v) :
    ∃ u, (rvRun a x).run C.P w = .ok u w ∧ VR w (Fz C w ι σ.h) ι σ.h u v := by
  cases x with
  | tmp t =>
    simp only [cRv, Option.some.injEq] at hx
    subst hx
    simp only [ARv.get, Option.some.injEq] at hv
    subst hv
    exact ⟨_, rfl, S.vals t⟩
  | cell ad t =>
    simp only [cRv] at hx
    split at hx
    rotate_left
    · cases hx
    rename_i n agg hn hagg
    cases hx
    simp only [ARv.get] at hv
    split at hv
    rotate_left
    · cases hv
    rename_i e he
    cases hv
    obtain ⟨u, x1, rfl, h1, _, ad', h2, h3⟩ := load_vr (t1 := 0) S (x := .tmp ad) rfl (rfl : cO C.P 0 (.tmp ad) = some (.s ad)) hagg (fun h => by simp [h, hn]) (fun h => by simp [h]) he
    refine ⟨u, ?_, h1⟩
    have h4 : a.tmps.getD ad undef = .pointer (some ad') := h2
    simp only [rvRun, h4, asAddr, Sem.run_bind, Sem.run_pure, Result.andThen_ok]
    exact h3

theorem rvs_sound (S : Sat C U σ a w ι) : ∀ (xs : List ResultVar) (ys : List ARv) (vs : List AV), cRvs C.P xs = some ys → rvGet σ ys = some vs →
    ∃ us : List Value, us.length = xs.length ∧ us.length = vs.length ∧ (∀ (k : Nat) (u : Value) (x : ResultVar), us[k]? = some u → xs[k]? = some x → (rvRun a x).run C.P w = .ok u w) ∧
      ∀ (k : Nat) (u : Value) (v : AV), us[k]? = some u → vs[k]? = some v → VR w (Fz C w ι σ.h) ι σ.h u v
  | [], ys, vs, hx, hv => by
    simp [cRvs] at hx
    subst hx
    simp [rvGet] at hv
    subst hv
    exact ⟨[], rfl, rfl, by simp, by simp⟩
  | x :: xs, ys, vs, hx, hv => by
    simp only [cRvs] at hx
    split at hx
    rotate_left
    · cases hx
    rename_i y ys' h1 h2
    cases hx
    simp only [rvGet] at hv
    split at hv
    rotate_left
    · cases hv
    rename_i v vs' h3 h4
    cases hv
    obtain ⟨u, h5, h6⟩ := rv_sound S h1 h3
    obtain ⟨us, h7, h8, h9, h10⟩ := rvs_sound S xs ys' vs' h2 h4
    refine ⟨u :: us, by simp [h7], by simp [h8], fun k u' x' hu hx' => ?_, fun k u' v' hu hv' => ?_⟩
    · cases k with
      | zero => simp at hu hx'; subst hu; subst hx'; exact h5
      | succ k => exact h9 k u' x' (by simpa using hu) (by simpa using hx')
    · cases k with
      | zero => simp at hu hv'; subst hu; subst hv'; exact h6
      | succ k => exact h10 k u' v' (by simpa using hu) (by simpa using hv')

theorem results_sound (S : Sat C U σ a w ι) {fn : Func} {ys : List ARv} {vs : List AV} (hx : cRvs C.P fn.results.toList = some ys) (hv : rvGet σ ys = some vs) :
    ∃ u, (results fn a.tmps).run C.P w = .ok u w ∧ VR w (Fz C w ι σ.h) ι σ.h u (packR vs) := by
  obtain ⟨us, h1, h2, h3, h4⟩ := rvs_sound S _ _ _ hx hv
  have hu : results fn a.tmps = (do let vs ← fn.results.mapM (rvRun a); pure (if h : vs.size = 1 then vs[0] else .tuple vs)) := rfl
  have hm : (fn.results.mapM (rvRun a)).run C.P w = .ok us.toArray w := by
    obtain ⟨l, hl⟩ : ∃ l, fn.results = List.toArray l := ⟨fn.results.toList, by simp⟩
    rw [hl] at h1 h3 ⊢
    have := mapM_run (P := C.P) (w := w) (rvRun a) l us (by simpa using h1) (fun k v x hk hx => h3 k v x hk (by simpa using hx))
    simp [this]
  have hr : (results fn a.tmps).run C.P w = .ok (if h : us.toArray.size = 1 then us.toArray[0] else .tuple us.toArray) w := by
    rw [hu, Sem.run_bind, hm]
    rfl
  refine ⟨_, hr, ?_⟩
  match us, vs, h2, h4 with
  | [u], [v], _, h4 => exact h4 0 u v rfl rfl
  | [], [], _, h4 => exact .t _ _ rfl (by simp)
  | u :: u' :: us, v :: v' :: vs, h2, h4 =>
    rw [dif_neg (by simp)]
    exact .t _ _ (by simpa using h2) (fun k u v hk hx => h4 k u v (by simpa using hk) hx)

end
end Go.Proofs.Ytephkbajoofeoaa.Am
