/-
  THE TYPED MACHINE's CODE: what it asks, and that a function comes to what it says.
-/
import Derived.Test.YtephkbajoofeoaaAmY
namespace Go.Proofs.Ytephkbajoofeoaa.Am
set_option linter.unusedSimpArgs false
set_option linter.unusedVariables false
open Go Go.RowKit

inductive TCode where
  | skip
  | reg (ss : List TStm)
  | draw (ss : List TStm) (U : List (Nat × Nat))
  | seq (x y : TCode)
  | cond (c : TOpd) (x y : TCode)
  | block (id : Nat) (x : TCode)
  | loop (L : List (Nat × Md)) (x : TCode)
  | exit (id : Nat)
  | ret
  | wk (L : List (Nat × Md)) (x : TCode)

def TCode.er : TCode → ACode
  | .skip => .skip
  | .reg ss => .reg (erL none 0 ss)
  | .draw ss U => .draw (erL none 0 ss) U
  | .seq x y => .seq x.er y.er
  | .cond c x y => .cond c.er x.er y.er
  | .block id x => .block id x.er
  | .loop _ x => .loop x.er
  | .exit id => .exit id
  | .ret => .ret
  | .wk _ x => x.er

/-- The least that goes round. -/
def Lfp (F : (TSt → Prop) → TSt → Prop) (σ : TSt) : Prop := ∀ J : TSt → Prop, (∀ s, F J s → J s) → J σ

abbrev TPost := AEx → TSt → Prop

def Qseq (next : TSt → Prop) (Q : TPost) : TPost := fun e σ => match e with
  | .normal => next σ
  | e => Q e σ

def Qblk (id : Nat) (Q : TPost) : TPost := fun e σ => match e with
  | .exit id' => bif Nat.beq id' id then Q .normal σ else Q (.exit id') σ
  | e => Q e σ

def TSt.bump (σ : TSt) (n : Nat) : TSt := ⟨σ.t, σ.h, σ.nx + n⟩

def tawp (Γ : List TRow) (nl : Nat) : TCode → TPost → TSt → Prop
  | .skip, Q, σ => Q .normal σ
  | .reg ss, Q, σ => match runR Γ 0 ss σ with
    | some (p, σ', _) => andP p (Q .normal (σ'.bump (16 * lenL ss)))
    | none => False
  | .draw ss U, Q, σ => match runR Γ 0 ss σ with
    | some (p, σ', l) => match noconf l U with
      | true => andP p (Q .normal (σ'.bump (16 * lenL ss)))
      | false => False
    | none => False
  | .seq x y, Q, σ => tawp Γ nl x (Qseq (tawp Γ nl y Q) Q) σ
  | .cond c x y, Q, σ => match c.ev σ.T with
    | .c .bool t => (t = true → tawp Γ nl x Q σ) ∧ (t = false → tawp Γ nl y Q σ)
    | _ => False
  | .block id x, Q, σ => tawp Γ nl x (Qblk id Q) σ
  | .loop L x, Q, σ => Lfp (fun R s => tawp Γ nl x (Qseq (fun s' => R (gc nl L s')) Q) s) (gc nl L σ)
  | .exit id, Q, σ => Q (.exit id) σ
  | .ret, Q, σ => Q .ret σ
  | .wk L x, Q, σ => tawp Γ nl x Q (gc nl L σ)

theorem andP_iff {p : Option Prop} {k : Prop} : andP p k ↔ holds p ∧ k := by cases p <;> simp [andP, holds]

theorem tawp_mono {Γ : List TRow} {nl : Nat} : ∀ (c : TCode) {Q Q' : TPost} {σ : TSt}, (∀ e s, Q e s → Q' e s) → tawp Γ nl c Q σ → tawp Γ nl c Q' σ
  | .skip, Q, Q', σ, h, hc => h _ _ hc
  | .reg ss, Q, Q', σ, h, hc => by
    simp only [tawp] at hc ⊢
    split at hc
    · rw [andP_iff] at hc ⊢; exact ⟨hc.1, h _ _ hc.2⟩
    · exact hc
  | .draw ss U, Q, Q', σ, h, hc => by
    simp only [tawp] at hc ⊢
    split at hc
    · split at hc
      · rw [andP_iff] at hc ⊢; exact ⟨hc.1, h _ _ hc.2⟩
      · exact hc
    · exact hc
  | .seq x y, Q, Q', σ, h, hc => by
    simp only [tawp] at hc ⊢
    refine tawp_mono x (fun e s hq => ?_) hc
    cases e with
    | normal => exact tawp_mono y h hq
    | exit id => exact h _ _ hq
    | ret => exact h _ _ hq
  | .cond c x y, Q, Q', σ, h, hc => by
    simp only [tawp] at hc ⊢
    split at hc
    · exact ⟨fun e => tawp_mono x h (hc.1 e), fun e => tawp_mono y h (hc.2 e)⟩
    · exact hc
  | .block id x, Q, Q', σ, h, hc => by
    simp only [tawp] at hc ⊢
    refine tawp_mono x (fun e s hq => ?_) hc
    cases e with
    | normal => exact h _ _ hq
    | exit id' =>
      simp only [Qblk] at hq ⊢
      cases hb : Nat.beq id' id with
      | true => rw [hb] at hq; exact h _ _ hq
      | false => rw [hb] at hq; exact h _ _ hq
    | ret => exact h _ _ hq
  | .loop L x, Q, Q', σ, h, hc => by
    simp only [tawp] at hc ⊢
    intro J hJ
    refine hc J (fun s hs => hJ s (tawp_mono x (fun e s hq => ?_) hs))
    cases e with
    | normal => exact hq
    | exit id => exact h _ _ hq
    | ret => exact h _ _ hq
  | .exit id, Q, Q', σ, h, hc => h _ _ hc
  | .ret, Q, Q', σ, h, hc => h _ _ hc
  | .wk L x, Q, Q', σ, h, hc => by
    simp only [tawp] at hc ⊢
    exact tawp_mono x h hc

/-- Once round. -/
theorem loop_unroll {Γ : List TRow} {nl : Nat} {L : List (Nat × Md)} {x : TCode} {Q : TPost} {s : TSt}
    (h : tawp Γ nl x (Qseq (fun s' => Lfp (fun R s => tawp Γ nl x (Qseq (fun s' => R (gc nl L s')) Q) s) (gc nl L s')) Q) s) :
    Lfp (fun R s => tawp Γ nl x (Qseq (fun s' => R (gc nl L s')) Q) s) s := by
  intro J hJ
  refine hJ s (tawp_mono x (fun e s hq => ?_) h)
  cases e with
  | normal => exact hq J hJ
  | exit id => exact hq
  | ret => exact hq

mutual
theorem er_len (g : Option (Nat × Bool)) : ∀ (x : TStm) (i : Nat), (x.er g i).length = x.len
  | .op d o, i => rfl
  | .grp s w ss d x, i => by simp [TStm.er, TStm.len, erL_len (some (s, w)) ss i]
  | .gw s w ss d2 o d x, i => by simp [TStm.er, TStm.len, erL_len (some (s, w)) ss i]
theorem erL_len (g : Option (Nat × Bool)) : ∀ (ss : List TStm) (i : Nat), (erL g i ss).length = lenL ss
  | [], i => rfl
  | x :: xs, i => by simp [erL, lenL, er_len g x i, erL_len g xs (i + x.len)]
end

theorem comp_seq {P : Program} {N : Nat} {c : Code} {x y : ACode} (h : comp P N c = some (.seq x y)) : ∃ c1 c2, c = .seq c1 c2 ∧ comp P N c1 = some x ∧ comp P N c2 = some y := by
  cases c with
  | seq c1 c2 =>
    simp only [comp] at h
    split at h
    · rename_i h1 h2; cases h; exact ⟨c1, c2, rfl, h1, h2⟩
    · cases h
  | region id ops draw =>
    simp only [comp] at h
    split at h
    · split at h
      · split at h <;> cases h
      · cases h
    · cases h
  | cond a b c => simp only [comp] at h; split at h <;> cases h
  | block id c => simp only [comp, Option.map_eq_some_iff] at h; obtain ⟨_, _, h⟩ := h; cases h
  | loop c => simp only [comp, Option.map_eq_some_iff] at h; obtain ⟨_, _, h⟩ := h; cases h
  | _ => simp [comp] at h

theorem comp_cond {P : Program} {N : Nat} {c : Code} {b : Opd} {x y : ACode} (h : comp P N c = some (.cond b x y)) : ∃ b0 c1 c2, c = .cond b0 c1 c2 ∧ cO P 0 b0 = some b ∧ comp P N c1 = some x ∧ comp P N c2 = some y := by
  cases c with
  | cond b0 c1 c2 =>
    simp only [comp] at h
    split at h
    · rename_i h0 h1 h2; cases h; exact ⟨b0, c1, c2, rfl, h0, h1, h2⟩
    · cases h
  | region id ops draw =>
    simp only [comp] at h
    split at h
    · split at h
      · split at h <;> cases h
      · cases h
    · cases h
  | seq a b => simp only [comp] at h; split at h <;> cases h
  | block id c => simp only [comp, Option.map_eq_some_iff] at h; obtain ⟨_, _, h⟩ := h; cases h
  | loop c => simp only [comp, Option.map_eq_some_iff] at h; obtain ⟨_, _, h⟩ := h; cases h
  | _ => simp [comp] at h

theorem comp_block {P : Program} {N : Nat} {c : Code} {id : Nat} {x : ACode} (h : comp P N c = some (.block id x)) : ∃ c1, c = .block id c1 ∧ comp P N c1 = some x := by
  cases c with
  | block id' c1 =>
    simp only [comp, Option.map_eq_some_iff] at h
    obtain ⟨_, h1, h⟩ := h
    cases h
    exact ⟨c1, rfl, h1⟩
  | region id ops draw =>
    simp only [comp] at h
    split at h
    · split at h
      · split at h <;> cases h
      · cases h
    · cases h
  | seq a b => simp only [comp] at h; split at h <;> cases h
  | cond a b c => simp only [comp] at h; split at h <;> cases h
  | loop c => simp only [comp, Option.map_eq_some_iff] at h; obtain ⟨_, _, h⟩ := h; cases h
  | _ => simp [comp] at h

theorem comp_loop {P : Program} {N : Nat} {c : Code} {x : ACode} (h : comp P N c = some (.loop x)) : ∃ c1, c = .loop c1 ∧ comp P N c1 = some x := by
  cases c with
  | loop c1 =>
    simp only [comp, Option.map_eq_some_iff] at h
    obtain ⟨_, h1, h⟩ := h
    cases h
    exact ⟨c1, rfl, h1⟩
  | region id ops draw =>
    simp only [comp] at h
    split at h
    · split at h
      · split at h <;> cases h
      · cases h
    · cases h
  | seq a b => simp only [comp] at h; split at h <;> cases h
  | cond a b c => simp only [comp] at h; split at h <;> cases h
  | block id c => simp only [comp, Option.map_eq_some_iff] at h; obtain ⟨_, _, h⟩ := h; cases h
  | _ => simp [comp] at h

/-! Soundness. -/

def LiftT (C : Ctx) (Qa : TPost) (Q : Exit → Act → World → Prop) : Prop := ∀ e σ a w, Qa e σ → SatE C σ.emb a w → Q e.up a w

theorem opd_boolT {C : Ctx} {U : Nat → Prop} {σ : TSt} {a : Act} {w : World} {ι : Nat → Option Nat} (S : Sat C U σ.emb a w ι) {x : Operand} {x' : TOpd} {ty : TypeId} (hx : cO C.P ty x = some x'.er) {b : Bool} (hv : x'.ev σ.T = .c .bool b) : a.eval x = .bool b :=
  opd_bool S hx (by show x'.er.ev (fun s => (σ.T s).emb) = _; rw [ev_er, hv]; rfl)

section
variable {C : Ctx} {Γ : List TRow} {ΓA : Tab} {nl : Nat}

/-- The numbers that are kept: of lent boxes, of handed slices. -/
structure Kept (C : Ctx) (nl : Nat) : Prop where
  l : ∀ i b, C.L i = some b → i < nl
  o : ∀ i o, C.O i = some o → i < nl
  b : ∀ i o cs, C.O i ≠ some (o, .box cs)

theorem gcE {σ : TSt} {a : Act} {w : World} {L : List (Nat × Md)} (hL : Kept C nl) (S : SatE C σ.emb a w) : SatE C (gc nl L σ).emb a w := by
  obtain ⟨ι, S⟩ := S
  exact gc_sound S hL.l hL.o hL.b

theorem tcode_sound (hm : C.P.follows .mixedOrders = true) (hT : TabSim Γ ΓA) (hΓ : TabOk C.P ΓA) (hL : Kept C nl) : ∀ (tc : TCode) (c : Code) (Qa : TPost) (Q : Exit → Act → World → Prop) (σ : TSt) (a : Act) (w : World), comp C.P C.N c = some tc.er →
    tawp Γ nl tc Qa σ → SatE C σ.emb a w → LiftT C Qa Q → c.wp C.P Q a w := by
  intro tc
  induction tc with
  | skip =>
    intro c Qa Q σ a w hc h S hQ
    refine code_sound hm hΓ c .skip (fun e τ => e = .normal ∧ τ = σ.emb) Q σ.emb a w hc ⟨rfl, rfl⟩ S ?_
    rintro e τ a' w' ⟨rfl, rfl⟩ S'
    exact hQ .normal σ a' w' h S'
  | reg ss =>
    intro c Qa Q σ a w hc h S hQ
    simp only [tawp] at h
    split at h
    rotate_left
    · exact h.elim
    rename_i p σ' l hr
    rw [andP_iff] at h
    obtain ⟨l', h1, _⟩ := runR_sim hT ss hr h.1
    have hlen : (erL none 0 ss).length = lenL ss := erL_len none ss 0
    refine code_sound hm hΓ c _ (fun e τ => e = .normal ∧ τ = (σ'.bump (16 * lenL ss)).emb) Q σ.emb a w hc ?_ S ?_
    · show regK ΓA (erL none 0 ss) (fun s => AEx.normal = AEx.normal ∧ s.bump (16 * (erL none 0 ss).length) = _) σ.emb
      exact regK_of_drawF _ h1 ⟨rfl, by rw [hlen]; rfl⟩
    · rintro e τ a' w' ⟨rfl, rfl⟩ S'
      exact hQ .normal _ a' w' h.2 S'
  | draw ss U =>
    intro c Qa Q σ a w hc h S hQ
    simp only [tawp] at h
    split at h
    rotate_left
    · exact h.elim
    rename_i p σ' l hr
    split at h
    rotate_left
    · exact h.elim
    rename_i hno
    rw [andP_iff] at h
    obtain ⟨l', h1, h2⟩ := runR_sim hT ss hr h.1
    have hlen : (erL none 0 ss).length = lenL ss := erL_len none ss 0
    refine code_sound hm hΓ c _ (fun e τ => e = .normal ∧ τ = (σ'.bump (16 * lenL ss)).emb) Q σ.emb a w hc ?_ S ?_
    · simp only [TCode.er, awp, h1]
      exact ⟨noconf_sub h2 hno, trivial, by rw [hlen]; rfl⟩
    · rintro e τ a' w' ⟨rfl, rfl⟩ S'
      exact hQ .normal _ a' w' h.2 S'
  | seq x y ihx ihy =>
    intro c Qa Q σ a w hc h S hQ
    simp only [TCode.er] at hc
    obtain ⟨c1, c2, rfl, h1, h2⟩ := comp_seq hc
    simp only [tawp] at h
    refine wp_seq (ihx _ _ _ σ a w h1 h S ?_)
    intro e σ' a' w' he S'
    cases e with
    | normal => exact ihy _ _ _ σ' a' w' h2 he S' hQ
    | exit id => exact hQ _ _ _ _ he S'
    | ret => exact hQ _ _ _ _ he S'
  | cond b x y ihx ihy =>
    intro c Qa Q σ a w hc h S hQ
    simp only [TCode.er] at hc
    obtain ⟨b0, c1, c2, rfl, h0, h1, h2⟩ := comp_cond hc
    simp only [tawp] at h
    split at h
    rotate_left
    · exact h.elim
    rename_i t ht
    obtain ⟨ι, S0⟩ := S
    exact wp_cond_split (opd_boolT S0 h0 ht) (fun e => ihx _ _ _ σ a w h1 (h.1 e) ⟨ι, S0⟩ hQ) (fun e => ihy _ _ _ σ a w h2 (h.2 e) ⟨ι, S0⟩ hQ)
  | block id x ih =>
    intro c Qa Q σ a w hc h S hQ
    simp only [TCode.er] at hc
    obtain ⟨c1, rfl, h1⟩ := comp_block hc
    simp only [tawp] at h
    refine wp_block (ih _ _ _ σ a w h1 h S ?_)
    intro e σ' a' w' he S'
    cases e with
    | normal => exact hQ _ _ _ _ he S'
    | ret => exact hQ _ _ _ _ he S'
    | exit id' =>
      simp only [Qblk] at he
      show Exit.inBlock id Q (.exit id') a' w'
      simp only [Exit.inBlock]
      split
      · rename_i heq; subst heq; rw [show Nat.beq id' id' = true by simp] at he; exact hQ .normal _ _ _ he S'
      · rename_i heq; rw [beq_ne heq] at he; exact hQ (.exit id') _ _ _ he S'
  | loop L x ih =>
    intro c Qa Q σ a w hc h S hQ
    simp only [TCode.er] at hc
    obtain ⟨c1, rfl, h1⟩ := comp_loop hc
    simp only [tawp] at h
    have key := h (fun s => ∀ a w, SatE C s.emb a w → ∀ (b : Frame) (k : List Item) (cs : List Frame), ∃ e a' w', Q e a' w' ∧ Arrives C.P (lone (b.at a (.code c1 :: .inLoop c1 :: k)) cs w) b k cs e a' w') ?_
    · intro b k cs
      obtain ⟨e, a', w', hq, harr⟩ := key a w (gcE hL S) b k cs
      exact ⟨e, a', w', hq, .of_steps (.one step_loop) harr⟩
    · intro s hs a w S b k cs
      have hb := ih c1 _ (Exit.then (fun a w => ∀ (b : Frame) (k : List Item) (cs : List Frame), ∃ e a' w', Q e a' w' ∧ Arrives C.P (lone (b.at a (.code c1 :: .inLoop c1 :: k)) cs w) b k cs e a' w') Q) s a w h1 hs S ?_
      · obtain ⟨e, a₁, w₁, hq, harr⟩ := hb b (.inLoop c1 :: k) cs
        cases e with
        | normal =>
          obtain ⟨e₂, a₂, w₂, hq₂, harr₂⟩ := hq b k cs
          exact ⟨e₂, a₂, w₂, hq₂, .of_steps (Steps.trans harr (.one step_inLoop)) harr₂⟩
        | exit id => exact ⟨_, a₁, w₁, hq, .pass (x := .inLoop c1) rfl (fun _ _ => .inl (by simp)) harr⟩
        | goto l => exact ⟨_, a₁, w₁, hq, .pass (x := .inLoop c1) rfl (fun _ _ => .inl (by simp)) harr⟩
        | ret => exact ⟨_, a₁, w₁, hq, .pass (x := .inLoop c1) rfl (fun _ _ => .inl (by simp)) harr⟩
        | panic ch => exact ⟨_, a₁, w₁, hq, .pass (x := .inLoop c1) rfl (fun _ _ => .inl (by simp)) harr⟩
        | outgrown => exact ⟨_, a₁, w₁, hq, .pass (x := .inLoop c1) rfl (fun _ _ => .inl (by simp)) harr⟩
      · intro e σ' a' w' he S'
        cases e with
        | normal => exact he a' w' (gcE hL S')
        | exit id => exact hQ _ _ _ _ he S'
        | ret => exact hQ _ _ _ _ he S'
  | exit id =>
    intro c Qa Q σ a w hc h S hQ
    refine code_sound hm hΓ c (.exit id) (fun e τ => e = .exit id ∧ τ = σ.emb) Q σ.emb a w hc ⟨rfl, rfl⟩ S ?_
    rintro e τ a' w' ⟨rfl, rfl⟩ S'
    exact hQ (.exit id) σ a' w' h S'
  | ret =>
    intro c Qa Q σ a w hc h S hQ
    refine code_sound hm hΓ c .ret (fun e τ => e = .ret ∧ τ = σ.emb) Q σ.emb a w hc ⟨rfl, rfl⟩ S ?_
    rintro e τ a' w' ⟨rfl, rfl⟩ S'
    exact hQ .ret σ a' w' h S'
  | wk L x ih =>
    intro c Qa Q σ a w hc h S hQ
    exact ih c Qa Q _ a w hc h (gcE hL S) hQ
end
end Go.Proofs.Ytephkbajoofeoaa.Am
