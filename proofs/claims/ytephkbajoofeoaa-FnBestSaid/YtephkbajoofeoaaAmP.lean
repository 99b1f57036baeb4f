/-
  A CODE COMES TO WHAT THE ABSTRACT MACHINE SAYS OF IT.
-/
import Derived.Test.YtephkbajoofeoaaAmO
import Derived.Control
namespace Go.Proofs.Ytephkbajoofeoaa.Am
set_option linter.unusedSimpArgs false
set_option linter.unusedVariables false
open Go Go.RowKit

def AEx.up : AEx → Exit
  | .normal => .normal
  | .exit id => .exit id
  | .ret => .ret

/-- What is said of the abstract end holds of the machine's. -/
def Lift (C : Ctx) (Qa : AEx → St → Prop) (Q : Exit → Act → World → Prop) : Prop := ∀ e σ a w, Qa e σ → SatE C σ a w → Q e.up a w

theorem least_of {p : Nat → Prop} (h : ∃ n, p n) : ∃ n, p n ∧ ∀ m, p m → n ≤ m := by
  obtain ⟨n, hn⟩ := h
  induction n using Nat.strongRecOn with
  | _ n ih =>
    by_cases hx : ∃ m, m < n ∧ p m
    · obtain ⟨m, hm, hp⟩ := hx
      exact ih m hm hp
    · refine ⟨n, hn, fun m hm => ?_⟩
      rcases Nat.lt_or_ge m n with h1 | h1
      · exact absurd ⟨m, h1, hm⟩ hx
      · exact h1

theorem measure_of {α : Type} (p : α → Nat → Prop) : ∃ f : α → Nat, ∀ x, (∃ n, p x n) → p x (f x) ∧ ∀ m, p x m → f x ≤ m := by
  have : ∀ x, ∃ n, (∃ n, p x n) → p x n ∧ ∀ m, p x m → n ≤ m := by
    intro x
    by_cases h : ∃ n, p x n
    · obtain ⟨n, hn⟩ := least_of h
      exact ⟨n, fun _ => hn⟩
    · exact ⟨0, fun h' => absurd h' h⟩
  exact ⟨fun x => (this x).choose, fun x hx => (this x).choose_spec hx⟩

theorem SatE.bump {C : Ctx} {σ : St} {a : Act} {w : World} {n : Nat} (S : SatU C (fun k => σ.nx + n ≤ k) σ a w) : SatE C (σ.bump n) a w := by
  obtain ⟨ι, S⟩ := S
  exact ⟨ι, S.nx⟩

theorem Sat.drawn {C : Ctx} {U : Nat → Prop} {σ : St} {a : Act} {w : World} {ι : Nat → Option Nat} (S : Sat C U σ a w ι) (n : Nat) : Sat C U σ a { w with drawn := n } ι := by
  have hg : ∀ id, Goes w { w with drawn := n } ι ι σ.h σ.h id := by
    intro id
    unfold Goes
    cases hx : σ.h id with
    | none => exact .inl rfl
    | dead => exact .inr (.inl rfl)
    | box cs => exact .inr (.inr ⟨rfl, rfl, fun _ _ => rfl⟩)
    | sl e sz m es => exact .inr (.inr ⟨rfl, ⟨rfl, rfl, rfl⟩, fun _ _ => rfl⟩)
  exact S.evolve (nx' := σ.nx) ⟨S.fra.os, S.fra.tape, S.fra.output, S.fra.size, S.fra.block⟩ (fun b hb => ⟨hb, rfl⟩) hg (fun i cs hx => by rw [hx]; simp) (fun id => .inl ⟨rfl, rfl, fun _ _ => rfl⟩) S.inj S.rng S.fresh S.live

theorem opd_bool {C : Ctx} {U : Nat → Prop} {σ : St} {a : Act} {w : World} {ι : Nat → Option Nat} (S : Sat C U σ a w ι) {x : Operand} {x' : Opd} {ty : TypeId} (hx : cO C.P ty x = some x') {b : Bool} (hv : x'.ev σ.t = .c (.v (.bool b))) : a.eval x = .bool b := by
  have h1 := cO_vr S hx
  rw [hv] at h1
  exact h1.int

section
variable {C : Ctx} {Γ : Tab}

theorem code_sound (hm : C.P.follows .mixedOrders = true) (hΓ : TabOk C.P Γ) : ∀ (c : Code) (ac : ACode) (Qa : AEx → St → Prop) (Q : Exit → Act → World → Prop) (σ : St) (a : Act) (w : World), comp C.P C.N c = some ac →
    awp Γ ac Qa σ → SatE C σ a w → Lift C Qa Q → c.wp C.P Q a w := by
  intro c
  induction c with
  | skip =>
    intro ac Qa Q σ a w hc h S hQ
    simp only [comp, Option.some.injEq] at hc
    subst hc
    exact wp_skip (hQ .normal σ a w h S)
  | region id ops draw =>
    intro ac Qa Q σ a w hc h S hQ
    simp only [comp] at hc
    split at hc
    rotate_left
    · cases hc
    rename_i l hl
    have hlen : l.length = ops.size := by have := (cList_get hl).1; simpa using this
    cases draw with
    | false =>
      simp only [Bool.false_eq_true, if_false, Option.some.injEq] at hc
      subst hc
      refine wp_region ?_
      rw [List.range_eq_range', show ops.size = ops.toList.length by simp]
      refine seq_sound hΓ ops.toList 0 l σ a w hl (fun j => by simp) (by simpa [SatE] using S) h (fun σ' a' w' S' hn hk => ?_)
      refine hQ .normal _ a' w' hk (SatE.bump ?_)
      rw [hn]
      simpa [hlen] using S'
    | true =>
      simp only [if_true] at hc
      split at hc
      rotate_left
      · cases hc
      rename_i hck
      rw [Bool.and_eq_true] at hck
      have hc := (Option.some.inj hc).symm
      subst hc
      simp only [awp] at h
      split at h
      rotate_left
      · exact h.elim
      rename_i σ' log hd
      obtain ⟨hno, hk⟩ := h
      obtain ⟨hr, hll⟩ := run_of_draw (l := l) (L := fun j => (log[j]?).getD ([], [])) l 0 σ σ' log hd (fun j => by simp) (fun j x hx => by simp [hx])
      refine wp_region_any hm ?_
      obtain ⟨ι, S⟩ := S
      have hn : σ'.nx = σ.nx := by
        have : ∀ (p : List Nat) (s s' : St), Run Γ l (fun j => (log[j]?).getD ([], [])) p s s' → s'.nx = s.nx := by
          intro p
          induction p with
          | nil => intro s s' h; rw [show s' = s from h]
          | cons i p ih =>
            intro s s' h
            obtain ⟨ao, s1, _, h2, h3⟩ := h
            exact (ih s1 s' h3).trans (step1_nx h2)
        exact this _ _ _ hr
      refine draw_sound hΓ (nx := σ.nx) (σf := σ') hl hck.2 (fun i j hij hj hw => indep_of hck.1 hno hll hr hij hj (by omega) hw) (fun a' w' S' => ?_) ops.size (List.range' 0 l.length) _ σ a _ (by simp [hlen]) ?_ (fun j hj => by simp at hj; omega) (fun j hj => by simp [hj, hlen]) (by simp) (fun j o ho hj => absurd (show j ∈ List.range' 0 l.length by have := (Array.getElem?_eq_some_iff.1 ho).1; simp [hlen]; omega) hj) rfl hr ⟨ι, (S.drawn _).weak fun k hk => ?_⟩
      · refine hQ .normal _ a' w' hk (SatE.bump ?_)
        rw [hn, hlen]
        exact S'
      · exact List.pairwise_lt_range'
      · show σ.nx ≤ k
        rcases hk with hk | ⟨j, _, hk, _⟩ <;> omega
  | seq x y ihx ihy =>
    intro ac Qa Q σ a w hc h S hQ
    simp only [comp] at hc
    split at hc
    rotate_left
    · cases hc
    rename_i x' y' hx hy
    cases hc
    simp only [awp] at h
    refine wp_seq (ihx _ _ _ σ a w hx h S ?_)
    intro e σ' a' w' he S'
    cases e with
    | normal => exact ihy _ _ _ σ' a' w' hy he S' hQ
    | exit id => exact hQ _ _ _ _ he S'
    | ret => exact hQ _ _ _ _ he S'
  | cond x y z ihy ihz =>
    intro ac Qa Q σ a w hc h S hQ
    simp only [comp] at hc
    split at hc
    rotate_left
    · cases hc
    rename_i x' y' z' hx hy hz
    cases hc
    simp only [awp] at h
    split at h
    rotate_left
    · exact h.elim
    rename_i t ht
    obtain ⟨ι, S0⟩ := S
    exact wp_cond_split (opd_bool S0 hx ht) (fun e => ihy _ _ _ σ a w hy (h.1 e) ⟨ι, S0⟩ hQ) (fun e => ihz _ _ _ σ a w hz (h.2 e) ⟨ι, S0⟩ hQ)
  | block id x ih =>
    intro ac Qa Q σ a w hc h S hQ
    simp only [comp, Option.map_eq_some_iff] at hc
    obtain ⟨x', hx, rfl⟩ := hc
    simp only [awp] at h
    refine wp_block (ih _ _ _ σ a w hx h S ?_)
    intro e σ' a' w' he S'
    cases e with
    | normal => exact hQ _ _ _ _ he S'
    | ret => exact hQ _ _ _ _ he S'
    | exit id' =>
      simp only at he
      show Exit.inBlock id Q (.exit id') a' w'
      simp only [Exit.inBlock]
      split
      · rename_i heq; rw [if_pos heq] at he; exact hQ .normal _ _ _ he S'
      · rename_i heq; rw [if_neg heq] at he; exact hQ (.exit id') _ _ _ he S'
  | loop x ih =>
    intro ac Qa Q σ a w hc h S hQ
    simp only [comp, Option.map_eq_some_iff] at hc
    obtain ⟨x', hx, rfl⟩ := hc
    simp only [awp] at h
    obtain ⟨I, μ, hI, hstep⟩ := h
    obtain ⟨f, hf⟩ := measure_of (fun (x : Act × World) n => ∃ σ, I σ ∧ SatE C σ x.1 x.2 ∧ μ σ = n)
    refine wp_loop (fun a w => ∃ σ, I σ ∧ SatE C σ a w) (fun a w => f (a, w)) ⟨σ, hI, S⟩ (fun a w ⟨σ0, h0, S0⟩ => ?_)
    obtain ⟨⟨σ1, h1, S1, h2⟩, _⟩ := hf (a, w) ⟨_, σ0, h0, S0, rfl⟩
    refine ih _ _ _ σ1 a w hx (hstep σ1 h1) S1 ?_
    intro e σ' a' w' he S'
    cases e with
    | normal =>
      obtain ⟨h3, h4⟩ := he
      refine ⟨⟨σ', h3, S'⟩, ?_⟩
      have := (hf (a', w') ⟨_, σ', h3, S', rfl⟩).2 _ ⟨σ', h3, S', rfl⟩
      show f (a', w') < f (a, w)
      omega
    | exit id => exact hQ _ _ _ _ he S'
    | ret => exact hQ _ _ _ _ he S'
  | exit id =>
    intro ac Qa Q σ a w hc h S hQ
    simp only [comp, Option.some.injEq] at hc
    subst hc
    exact wp_exit (hQ (.exit id) σ a w h S)
  | ret =>
    intro ac Qa Q σ a w hc h S hQ
    simp only [comp, Option.some.injEq] at hc
    subst hc
    exact wp_ret (hQ .ret σ a w h S)
  | _ => intro ac Qa Q σ a w hc; simp [comp] at hc

end
end Go.Proofs.Ytephkbajoofeoaa.Am
