/-
  SMALL WORDS FOR THE TEXTS THAT ARE PRINTED BY PROGRAM.
-/
import Derived.Test.YtephkbajoofeoaaTmA
import Derived.Test.YtephkbajoofeoaaProg
namespace Go.Proofs.Ytephkbajoofeoaa.Am
set_option linter.unusedSimpArgs false
set_option linter.unusedVariables false
open Go Go.RowKit Go.Proofs.Ytephkbajoofeoaa

abbrev TI : CT := .int .i64
abbrev w64 (x : Int) : Int := IntKind.i64.wrap x

def Loop (Γ : List TRow) (nl : Nat) (L : List (Nat × Md)) (x : TCode) (Q : TPost) (s : TSt) : Prop :=
  Lfp (fun R s => tawp Γ nl x (Qseq (fun s' => R (gc nl L s')) Q) s) s

theorem loop_unroll' {Γ : List TRow} {nl : Nat} {L : List (Nat × Md)} {x : TCode} {Q : TPost} {s : TSt}
    (h : tawp Γ nl x (Qseq (fun s' => Loop Γ nl L x Q (gc nl L s')) Q) s) : Loop Γ nl L x Q s := loop_unroll h

/-- What is shown (a lid: so that nobody looks in). -/
structure Hold (p : Prop) : Prop where
  h : p

theorem Hold.of {p F : Prop} (e : F = p) (h : F) : Hold p := ⟨e ▸ h⟩

theorem Loop.of {Γ : List TRow} {nl : Nat} {L : List (Nat × Md)} {x : TCode} {Q : TPost} {s : TSt} {F : Prop}
    (e : F = tawp Γ nl x (Qseq (fun s' => Loop Γ nl L x Q (gc nl L s')) Q) s) (h : F) : Loop Γ nl L x Q s := loop_unroll' (e ▸ h)

def gtd {α : Type} (d : α) (l : List α) (i : Nat) : α := l.getD i d

@[reducible] def Sh.den : Sh → Type
  | .c t => t.den
  | .a ts => Tup ts
  | .b ts => Tup ts
  | .o _ ts => List (Tup ts)
@[reducible] def DenL : List Sh → Type
  | [] => Unit
  | s :: ss => s.den × DenL ss
def Sh.val : (s : Sh) → s.den → TV
  | .c t, x => .c t x
  | .a ts, x => .a (Tup.cells ts x)
  | .b ts, x => .bx (Tup.cells ts x)
  | .o e ts, x => .ow e ts x
def valL : (ss : List Sh) → DenL ss → List TV
  | [], _ => []
  | s :: ss, x => s.val x.1 :: valL ss x.2


/-! Arguments, read by their shapes. -/
def decD (t : CT) : TV → Option t.den
  | .c t' x => if e : t'.beq t = true then some (castD e x) else none
  | _ => none
def decT : (ts : List CT) → List TV → Option (Tup ts)
  | [], xs => match xs with
    | [] => some ()
    | _ => none
  | t :: ts, xs => match xs with
    | x :: xs => match decD t x, decT ts xs with
      | some a, some b => some (mkT ts a b)
      | _, _ => none
    | [] => none
def Sh.dec : (s : Sh) → TV → Option s.den
  | .c t, x => decD t x
  | .a ts, x => match x with
    | .a cs => decT ts cs
    | _ => none
  | .b ts, x => match x with
    | .bx cs => decT ts cs
    | _ => none
  | .o e ts, x => match x with
    | .ow e' ts' es => if q : CT.beqL ts' ts = true then (bif Nat.beq e' e then some (castL q es) else none) else none
    | _ => none
def decL : (ss : List Sh) → List TV → Option (DenL ss)
  | [], xs => match xs with
    | [] => some ()
    | _ => none
  | s :: ss, xs => match xs with
    | x :: xs => match s.dec x, decL ss xs with
      | some a, some b => some (a, b)
      | _, _ => none
    | [] => none

theorem decD_val {t : CT} {v : TV} {x : t.den} (h : decD t v = some x) : v = .c t x := by
  cases v with
  | c t' y =>
    simp only [decD] at h
    split at h
    · rename_i e
      have e' := CT.beq_eq _ _ e
      subst e'
      cases h
      rfl
    · cases h
  | _ => simp [decD] at h
theorem decT_val : ∀ {ts : List CT} {vs : List TV} {x : Tup ts}, decT ts vs = some x → vs = Tup.cells ts x
  | [], vs, x, h => by
    cases vs with
    | nil => rfl
    | cons v vs => simp [decT] at h
  | t :: ts, vs, x, h => by
    cases vs with
    | nil => simp [decT] at h
    | cons v vs =>
      simp only [decT] at h
      split at h
      rotate_left
      · cases h
      rename_i a b h1 h2
      cases h
      rw [Tup.cells, decD_val h1, decT_val h2, hd_mkT, tl_mkT]
theorem dec_val {s : Sh} {v : TV} {x : s.den} (h : s.dec v = some x) : v = s.val x := by
  cases s with
  | c t => exact decD_val h
  | a ts =>
    cases v with
    | a cs => exact congrArg TV.a (decT_val h)
    | _ => simp [Sh.dec] at h
  | b ts =>
    cases v with
    | bx cs => exact congrArg TV.bx (decT_val h)
    | _ => simp [Sh.dec] at h
  | o e ts =>
    cases v with
    | ow e' ts' es =>
      simp only [Sh.dec] at h
      split at h
      · rename_i q
        have q' := CT.beqL_eq _ _ q
        subst q'
        cases hb : Nat.beq e' e with
        | false => rw [hb] at h; cases h
        | true =>
          rw [hb] at h
          cases h
          have := Nat.eq_of_beq_eq_true hb
          subst this
          rfl
      · cases h
    | _ => simp [Sh.dec] at h
theorem decL_val : ∀ {ss : List Sh} {vs : List TV} {x : DenL ss}, decL ss vs = some x → vs = valL ss x
  | [], vs, x, h => by
    cases vs with
    | nil => rfl
    | cons v vs => simp [decL] at h
  | s :: ss, vs, x, h => by
    cases vs with
    | nil => simp [decL] at h
    | cons v vs =>
      simp only [decL] at h
      split at h
      rotate_left
      · cases h
      rename_i a b h1 h2
      cases h
      rw [valL, dec_val h1, decL_val h2]

/-- A row of a table, by the shapes of its arguments. -/
def mkRow (f : FuncId) (sg : List Sh) (g : DenL sg → Option Prop × TRes) : TRow := ⟨f, sg, fun vs => match decL sg vs with
  | some x => some (g x)
  | none => none⟩
theorem rowOk {P : Program} {f : FuncId} {sg : List Sh} {g : DenL sg → Option Prop × TRes} (h : ∀ x : DenL sg, holds (g x).1 → TCon P f (valL sg x) (g x).2) : TRowOk P (mkRow f sg g) := by
  intro vs pre r hf hr hp
  simp only [mkRow] at hr
  split at hr
  · rename_i x hx
    rw [decL_val hx]
    cases hg : g x with
    | mk p r' =>
      rw [hg] at hr
      cases hr
      have := h x
      rw [hg] at this
      exact this hp
  · cases hr

theorem tcon_gen {P : Program} {Γ : List TRow} {f : FuncId} {tc : TCode} {rs : List (ARv × Md)} {n nb no : Nat} {xs : List TV} {r : TRes} {sg : List Sh} (hm : P.follows .mixedOrders = true) (hΓ : TOk P Γ) (hs : compF P f = some (tc.er, rs.map Prod.fst, n))
    (hfit : fitsL sg xs = true) (hN : Nat.ble xs.length n = true) (hnl : tbxs xs = nb) (hno : tows xs = no) (h : Hold (tawp Γ (nb + no) tc (TQ nb no rs (fun r' => r' = r)) (tstart xs))) : TCon P f xs r := by
  subst hnl
  subst hno
  exact tcon_fn hm hΓ hs hfit (Nat.le_of_ble_eq_true hN) h.h

/-- The machine is of one mind: where it comes to what is asked, it comes to one end. -/
theorem tawp_det {Γ : List TRow} {nl : Nat} : ∀ (c : TCode) {Q : TPost} {σ : TSt}, tawp Γ nl c Q σ → ∃ e σ', Q e σ' ∧ tawp Γ nl c (fun e' s' => e' = e ∧ s' = σ') σ
  | .skip, Q, σ, h => ⟨_, _, h, rfl, rfl⟩
  | .exit id, Q, σ, h => ⟨_, _, h, rfl, rfl⟩
  | .ret, Q, σ, h => ⟨_, _, h, rfl, rfl⟩
  | .reg ss, Q, σ, h => by
    simp only [tawp] at h ⊢
    split at h
    · rw [andP_iff] at h; exact ⟨_, _, h.2, by rw [andP_iff]; exact ⟨h.1, rfl, rfl⟩⟩
    · exact h.elim
  | .draw ss U, Q, σ, h => by
    simp only [tawp] at h ⊢
    split at h
    · split at h
      · rw [andP_iff] at h; exact ⟨_, _, h.2, by rw [andP_iff]; exact ⟨h.1, rfl, rfl⟩⟩
      · exact h.elim
    · exact h.elim
  | .cond c x y, Q, σ, h => by
    simp only [tawp] at h ⊢
    split at h
    · rename_i t _
      cases t with
      | true =>
        obtain ⟨e, s, h1, h2⟩ := tawp_det x (h.1 rfl)
        exact ⟨e, s, h1, fun _ => h2, fun h => by cases h⟩
      | false =>
        obtain ⟨e, s, h1, h2⟩ := tawp_det y (h.2 rfl)
        exact ⟨e, s, h1, (fun h => by cases h), fun _ => h2⟩
    · exact h.elim
  | .seq x y, Q, σ, h => by
    simp only [tawp] at h ⊢
    obtain ⟨e, s, h1, h2⟩ := tawp_det x h
    cases e with
    | normal =>
      obtain ⟨e', s', h3, h4⟩ := tawp_det y (show tawp Γ nl y Q s from h1)
      exact ⟨e', s', h3, tawp_mono x (fun e0 s0 hq => by obtain ⟨rfl, rfl⟩ := hq; exact h4) h2⟩
    | exit id => exact ⟨_, _, h1, tawp_mono x (fun e0 s0 hq => by obtain ⟨rfl, rfl⟩ := hq; exact ⟨rfl, rfl⟩) h2⟩
    | ret => exact ⟨_, _, h1, tawp_mono x (fun e0 s0 hq => by obtain ⟨rfl, rfl⟩ := hq; exact ⟨rfl, rfl⟩) h2⟩
  | .block id x, Q, σ, h => by
    simp only [tawp] at h ⊢
    obtain ⟨e, s, h1, h2⟩ := tawp_det x h
    cases e with
    | normal => exact ⟨_, _, h1, tawp_mono x (fun e0 s0 hq => by obtain ⟨rfl, rfl⟩ := hq; exact ⟨rfl, rfl⟩) h2⟩
    | exit id' =>
      cases hb : Nat.beq id' id with
      | true =>
        simp only [Qblk, hb, cond_true] at h1
        exact ⟨_, _, h1, tawp_mono x (fun e0 s0 hq => by obtain ⟨rfl, rfl⟩ := hq; simp [Qblk, hb]) h2⟩
      | false =>
        simp only [Qblk, hb, cond_false] at h1
        exact ⟨_, _, h1, tawp_mono x (fun e0 s0 hq => by obtain ⟨rfl, rfl⟩ := hq; simp [Qblk, hb]) h2⟩
    | ret => exact ⟨_, _, h1, tawp_mono x (fun e0 s0 hq => by obtain ⟨rfl, rfl⟩ := hq; exact ⟨rfl, rfl⟩) h2⟩
  | .wk L x, Q, σ, h => by
    simp only [tawp] at h ⊢
    exact tawp_det x h
  | .loop L x, Q, σ, h => by
    simp only [tawp] at h ⊢
    refine h (fun s => ∃ e σ', Q e σ' ∧ Lfp (fun R s => tawp Γ nl x (Qseq (fun s' => R (gc nl L s')) fun e' s' => e' = e ∧ s' = σ') s) s) (fun s hs => ?_)
    obtain ⟨e, s1, h1, h2⟩ := tawp_det x hs
    cases e with
    | normal =>
      obtain ⟨e', s', h3, h4⟩ := (show ∃ e σ', Q e σ' ∧ Lfp (fun R s => tawp Γ nl x (Qseq (fun s' => R (gc nl L s')) fun e' s' => e' = e ∧ s' = σ') s) (gc nl L s1) from h1)
      exact ⟨e', s', h3, loop_unroll (tawp_mono x (fun e0 s0 hq => by obtain ⟨rfl, rfl⟩ := hq; exact h4) h2)⟩
    | exit id => exact ⟨_, _, h1, loop_unroll (tawp_mono x (fun e0 s0 hq => by obtain ⟨rfl, rfl⟩ := hq; exact ⟨rfl, rfl⟩) h2)⟩
    | ret => exact ⟨_, _, h1, loop_unroll (tawp_mono x (fun e0 s0 hq => by obtain ⟨rfl, rfl⟩ := hq; exact ⟨rfl, rfl⟩) h2)⟩

/-- A contract of something that is not told in full: there is a result as is said. -/
theorem tcon_gen_ex {P : Program} {Γ : List TRow} {f : FuncId} {tc : TCode} {rs : List (ARv × Md)} {n nb no : Nat} {xs : List TV} {K : TRes → Prop} {sg : List Sh} (hm : P.follows .mixedOrders = true) (hΓ : TOk P Γ) (hs : compF P f = some (tc.er, rs.map Prod.fst, n))
    (hfit : fitsL sg xs = true) (hN : Nat.ble xs.length n = true) (hnl : tbxs xs = nb) (hno : tows xs = no) (h : Hold (tawp Γ (nb + no) tc (TQ nb no rs K) (tstart xs))) : ∃ r, K r ∧ TCon P f xs r := by
  obtain ⟨e, s, h1, h2⟩ := tawp_det tc h.h
  have key : ∃ r, K r ∧ TQ nb no rs (fun r' => r' = r) e s := by
    cases e with
    | exit id => exact h1.elim
    | normal =>
      simp only [TQ] at h1 ⊢
      split at h1
      · exact ⟨_, h1, rfl⟩
      · exact h1.elim
    | ret =>
      simp only [TQ] at h1 ⊢
      split at h1
      · exact ⟨_, h1, rfl⟩
      · exact h1.elim
  obtain ⟨r, h3, h4⟩ := key
  exact ⟨r, h3, tcon_gen hm hΓ hs hfit hN hnl hno ⟨tawp_mono tc (fun e0 s0 hq => by obtain ⟨rfl, rfl⟩ := hq; exact h4) h2⟩⟩
theorem tex_of {P : Program} {f : FuncId} {xs : List TV} {α : Type} {p : α → Prop} {R : α → TRes} (h : ∃ r, (∃ t, p t ∧ r = R t) ∧ TCon P f xs r) : ∃ t, p t ∧ TCon P f xs (R t) := by
  obtain ⟨_, ⟨t, h1, rfl⟩, h2⟩ := h
  exact ⟨t, h1, h2⟩

theorem mixed : Try.prog.follows .mixedOrders = true := by kernel_rfl
end Go.Proofs.Ytephkbajoofeoaa.Am
