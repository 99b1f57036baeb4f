/-
  WHAT AN OPERATION LOOKS AT: two states that agree there let it do the same. Two operations that leave each other alone may change places.
-/
import Derived.Test.YtephkbajoofeoaaAmL
namespace Go.Proofs.Ytephkbajoofeoaa.Am
set_option linter.unusedSimpArgs false
set_option linter.unusedVariables false
open Go Go.RowKit

theorem ev_congr {t t' : Nat → AV} {y : Opd} (h : ∀ s, s ∈ y.slots → t' s = t s) : y.ev t' = y.ev t := by
  cases y with
  | s i => exact h i (by simp [Opd.slots])
  | k x => rfl

theorem d_congr {h h' : Nat → Blk} {x : AV} (hh : ∀ id, id ∈ x.ref1 → h' id = h id) : x.d h' = x.d h := by
  cases x with
  | r sz id off len => simp only [AV.d, hh id (by simp [AV.ref1])]
  | _ => rfl

theorem ds_congr {h h' : Nat → Blk} : ∀ {xs : List AV}, (∀ id, id ∈ AV.refsL xs → h' id = h id) → AV.ds h' xs = AV.ds h xs
  | [], _ => rfl
  | x :: xs, hh => by
    simp only [AV.ds]
    rw [d_congr (x := x) fun id hid => hh id (by simp [AV.refsL, hid]), ds_congr fun id hid => hh id (by simp [AV.refsL, hid])]

theorem cells_congr {h h' : Nat → Blk} {x : AV} (hh : ∀ id, id ∈ x.refs → h' id = h id) : AV.ds h' x.cells = AV.ds h x.cells := by
  refine ds_congr fun id hid => hh id ?_
  cases x with
  | a cs => exact hid
  | _ => simpa [AV.cells, AV.refsL, AV.refs] using hid

theorem els_congr {h h' : Nat → Blk} {sz : Nat} {x : AV} (hh : ∀ id, id ∈ x.refs → h' id = h id) : x.els h' sz = x.els h sz := by
  cases x with
  | r sz' id off len => simp only [AV.els, hh id (by simp [AV.refs, AV.ref1])]
  | c d => cases d <;> rfl
  | _ => rfl

theorem arg_congr {h h' : Nat → Blk} {x : AV} (hh : ∀ id, id ∈ x.refs ++ x.lent → h' id = h id) : x.arg h' = x.arg h := by
  cases x with
  | r sz id off len => simp only [AV.arg]; rw [d_congr fun i hi => hh i (by simp [AV.refs]; exact .inl hi)]
  | a cs => simp only [AV.arg]; rw [ds_congr fun i hi => hh i (by simp [AV.refs]; exact .inl hi)]
  | p id i j =>
    have h1 := hh id (by simp [AV.lent])
    match i, j with
    | 0, 0 =>
      simp only [AV.arg, h1]
      cases h id with
      | box cs =>
        simp only
        by_cases hn : AV.refsL cs = []
        · rw [if_pos hn, if_pos hn, ds_congr (h := h) (h' := h') (xs := cs) fun i hi => by rw [hn] at hi; cases hi]
        · rw [if_neg hn, if_neg hn]
      | _ => rfl
    | 0, j + 1 => rfl
    | i + 1, _ => rfl
  | _ => rfl

theorem argL_congr {h h' : Nat → Blk} : ∀ {xs : List AV}, (∀ id, id ∈ xs.flatMap (fun x => x.refs ++ x.lent) → h' id = h id) → AV.argL h' xs = AV.argL h xs
  | [], _ => rfl
  | x :: xs, hh => by
    simp only [AV.argL]
    rw [arg_congr (x := x) fun id hid => hh id (by simp only [List.flatMap_cons, List.mem_append] at hid ⊢; exact .inl hid),
      argL_congr fun id hid => hh id (by simp only [List.flatMap_cons, List.mem_append] at hid ⊢; exact .inr hid)]

theorem argO_congr {h h' : Nat → Blk} {x : AV} (hh : ∀ id, id ∈ x.refs ++ x.lent → h' id = h id) : x.argO h' = x.argO h := by
  cases x with
  | r sz id off len => simp only [AV.argO]; rw [hh id (by simp [AV.refs, AV.ref1])]
  | _ => rfl

theorem argM_congr {h h' : Nat → Blk} : ∀ {ms : List Bool} {xs : List AV}, (∀ id, id ∈ xs.flatMap (fun x => x.refs ++ x.lent) → h' id = h id) → AV.argM h' ms xs = AV.argM h ms xs
  | [], xs, hh => argL_congr hh
  | _ :: _, [], _ => rfl
  | m :: ms, x :: xs, hh => by
    simp only [AV.argM]
    rw [arg_congr (x := x) fun id hid => hh id (by simp only [List.flatMap_cons, List.mem_append] at hid ⊢; exact .inl hid),
      argO_congr (x := x) fun id hid => hh id (by simp only [List.flatMap_cons, List.mem_append] at hid ⊢; exact .inl hid),
      argM_congr (ms := ms) fun id hid => hh id (by simp only [List.flatMap_cons, List.mem_append] at hid ⊢; exact .inr hid)]

theorem dats_mem {x : AV} : ∀ {ms : List Bool} {xs : List AV}, x ∈ dats ms xs → x ∈ xs
  | [], xs, h => h
  | _ :: _, [], h => by simp [dats] at h
  | m :: ms, y :: xs, h => by
    simp only [dats] at h
    split at h
    · exact List.mem_cons_of_mem _ (dats_mem h)
    · rcases List.mem_cons.1 h with h | h
      · exact List.mem_cons.2 (.inl h)
      · exact List.mem_cons_of_mem _ (dats_mem h)

theorem pieces_congr {t t' : Nat → AV} : ∀ {ps : List (Nat × Nat × Opd)} {cs : List AV}, (∀ s, s ∈ ps.flatMap (fun x => x.2.2.slots) → t' s = t s) → pieces (Opd.ev t') cs ps = pieces (Opd.ev t) cs ps
  | [], _, _ => rfl
  | (off, n, x) :: ps, cs, h => by
    simp only [List.flatMap_cons, List.mem_append] at h
    simp only [pieces]
    rw [ev_congr (y := x) fun s hs => h s (.inl hs)]
    split
    · exact pieces_congr fun s hs => h s (.inr hs)
    · rfl

theorem elems_congr {t t' : Nat → AV} {h h' : Nat → Blk} {sz : Nat} : ∀ {ps : List Opd}, (∀ s, s ∈ ps.flatMap Opd.slots → t' s = t s) → (∀ id, id ∈ ps.flatMap (fun x => (Opd.ev t x).refs) → h' id = h id) → elems h' (Opd.ev t') sz ps = elems h (Opd.ev t) sz ps
  | [], _, _ => rfl
  | x :: ps, hs, hh => by
    simp only [List.flatMap_cons, List.mem_append] at hs hh
    simp only [elems]
    rw [ev_congr (y := x) fun s h => hs s (.inl h), cells_congr (x := Opd.ev t x) fun id h => hh id (.inl h), elems_congr (fun s h => hs s (.inr h)) (fun id h => hh id (.inr h))]

theorem flat_congr {t t' : Nat → AV} {β : Type} (g : AV → List β) : ∀ {ps : List Opd}, (∀ s, s ∈ ps.flatMap Opd.slots → t' s = t s) → (ps.flatMap fun x => g (Opd.ev t' x)) = ps.flatMap fun x => g (Opd.ev t x)
  | [], _ => rfl
  | x :: ps, hs => by
    simp only [List.flatMap_cons, List.mem_append] at hs ⊢
    rw [ev_congr (y := x) fun s h => hs s (.inl h), flat_congr g fun s h => hs s (.inr h)]

theorem frz_congr {h h' : Nat → Blk} : ∀ {ids : List Nat}, (∀ id, id ∈ ids → h' id = h id) → frz h' ids = frz h ids
  | [], _ => rfl
  | id :: ids, hh => by
    simp only [frz]
    rw [hh id (by simp), frz_congr fun i hi => hh i (by simp [hi])]

theorem optInt_congr {t t' : Nat → AV} {m : Int} {lo : Option Opd} (h : ∀ s, s ∈ (match lo with | some l => l.slots | none => []) → t' s = t s) : optInt (Opd.ev t') m lo = optInt (Opd.ev t) m lo := by
  cases lo with
  | none => rfl
  | some l => simp only [optInt]; rw [ev_congr h]

theorem delta_congr {Γ : Tab} {t t' : Nat → AV} {h h' : Nat → Blk} {b : Nat} {op : AOp} (ht : ∀ s, s ∈ op.slots → t' s = t s) (hh : ∀ id, id ∈ acc (Opd.ev t) op → h' id = h id) :
    delta Γ (Opd.ev t') h' b op = delta Γ (Opd.ev t) h b op ∧ acc (Opd.ev t') op = acc (Opd.ev t) op := by
  cases op with
  | mov x | not x | neg x | ext x i | conv k x | fld x off n agg =>
    have e := ev_congr (y := x) (t := t) (t' := t') (fun s hs => ht s (by simpa [AOp.slots] using hs))
    simp only [delta, acc, e, and_self]
  | box e0 x n =>
    have e := ev_congr (y := x) (t := t) (t' := t') (fun s hs => ht s (by simpa [AOp.slots] using hs))
    simp only [delta, acc, e, and_self]
  | new e zs => exact ⟨rfl, rfl⟩
  | pick c x y =>
    have e1 := ev_congr (y := c) (t := t) (t' := t') (fun s hs => ht s (by simp [AOp.slots, hs]))
    have e2 := ev_congr (y := x) (t := t) (t' := t') (fun s hs => ht s (by simp [AOp.slots, hs]))
    have e3 := ev_congr (y := y) (t := t) (t' := t') (fun s hs => ht s (by simp [AOp.slots, hs]))
    simp only [delta, acc, e1, e2, e3, and_self]
  | bin op x y | cmpa n neg x y | eqb neg x y | mm mx x y =>
    have e2 := ev_congr (y := x) (t := t) (t' := t') (fun s hs => ht s (by simp [AOp.slots, hs]))
    have e3 := ev_congr (y := y) (t := t) (t' := t') (fun s hs => ht s (by simp [AOp.slots, hs]))
    simp only [delta, acc, e2, e3, and_self]
  | load x n agg | fad x off | nilc x =>
    have e := ev_congr (y := x) (t := t) (t' := t') (fun s hs => ht s (by simpa [AOp.slots] using hs))
    simp only [delta, acc, e] at hh ⊢
    cases hx : Opd.ev t x with
    | p id i j =>
      rw [hx] at hh
      simp only [hh id (by simp), and_self]
    | _ => first | exact ⟨rfl, rfl⟩ | exact ⟨rfl, trivial⟩
  | store x v n =>
    have e2 := ev_congr (y := x) (t := t) (t' := t') (fun s hs => ht s (by simp [AOp.slots, hs]))
    have e3 := ev_congr (y := v) (t := t) (t' := t') (fun s hs => ht s (by simp [AOp.slots, hs]))
    simp only [delta, acc, e2, e3] at hh ⊢
    have hr : ∀ id, id ∈ (Opd.ev t v).refs → h' id = h id := fun id hid => hh id (List.mem_append.2 (.inr hid))
    rw [cells_congr hr, frz_congr hr]
    cases hx : Opd.ev t x with
    | p id i j =>
      rw [hx] at hh
      simp only [hh id (by simp), and_self]
    | _ => first | exact ⟨rfl, rfl⟩ | exact ⟨rfl, trivial⟩
  | iad x i sz =>
    have e2 := ev_congr (y := x) (t := t) (t' := t') (fun s hs => ht s (by simp [AOp.slots, hs]))
    have e3 := ev_congr (y := i) (t := t) (t' := t') (fun s hs => ht s (by simp [AOp.slots, hs]))
    simp only [delta, acc, e2, e3] at hh ⊢
    cases hx : Opd.ev t x with
    | r sz' id off len =>
      rw [hx] at hh
      simp only [hh id (by simp [AV.refs, AV.ref1]), and_self]
    | c d => cases d <;> first | exact ⟨rfl, rfl⟩ | exact ⟨rfl, trivial⟩
    | _ => first | exact ⟨rfl, rfl⟩ | exact ⟨rfl, trivial⟩
  | len x =>
    have e := ev_congr (y := x) (t := t) (t' := t') (fun s hs => ht s (by simpa [AOp.slots] using hs))
    simp only [delta, acc, e] at hh ⊢
    cases hx : Opd.ev t x with
    | r sz' id off len =>
      rw [hx] at hh
      simp only [hh id (by simp [AV.refs, AV.ref1]), and_self]
    | c d => cases d <;> first | exact ⟨rfl, rfl⟩ | exact ⟨rfl, trivial⟩
    | _ => first | exact ⟨rfl, rfl⟩ | exact ⟨rfl, trivial⟩
  | slc x lo hi sz =>
    have e2 := ev_congr (y := x) (t := t) (t' := t') (fun s hs => ht s (by simp [AOp.slots, hs]))
    have e3 : ∀ m, optInt (Opd.ev t') m lo = optInt (Opd.ev t) m lo := fun m => optInt_congr (fun s hs => ht s (by simp only [AOp.slots, List.mem_append]; exact .inl (.inr hs)))
    have e4 : ∀ m, optInt (Opd.ev t') m hi = optInt (Opd.ev t) m hi := fun m => optInt_congr (fun s hs => ht s (by simp only [AOp.slots, List.mem_append]; exact .inr hs))
    simp only [delta, acc, e2, e3, e4] at hh ⊢
    cases hx : Opd.ev t x with
    | r sz' id off len =>
      rw [hx] at hh
      simp only [hh id (by simp [AV.refs, AV.ref1]), and_self]
    | c d => cases d <;> first | exact ⟨rfl, rfl⟩ | exact ⟨rfl, trivial⟩
    | _ => first | exact ⟨rfl, rfl⟩ | exact ⟨rfl, trivial⟩
  | mk e0 sz zs n =>
    have e := ev_congr (y := n) (t := t) (t' := t') (fun s hs => ht s (by simpa [AOp.slots] using hs))
    simp only [delta, acc, e] at hh ⊢
    rw [ds_congr (xs := zs) (h := h) (h' := h') fun id hid => hh id hid]
    first | exact ⟨rfl, rfl⟩ | exact ⟨rfl, trivial⟩
  | build zs ps =>
    simp only [delta, acc]
    rw [pieces_congr (ps := ps) fun s hs => ht s (by simpa [AOp.slots] using hs)]
    first | exact ⟨rfl, rfl⟩ | exact ⟨rfl, trivial⟩
  | bsl e0 sz ps =>
    have hs : ∀ s, s ∈ ps.flatMap Opd.slots → t' s = t s := fun s hs => ht s (by simpa [AOp.slots] using hs)
    simp only [acc] at hh
    simp only [delta, acc]
    rw [elems_congr hs hh, flat_congr AV.refs hs, frz_congr hh]
    first | exact ⟨rfl, rfl⟩ | exact ⟨rfl, trivial⟩
  | app s x e0 sz =>
    have e2 := ev_congr (y := s) (t := t) (t' := t') (fun s hs => ht s (by simp [AOp.slots, hs]))
    have e3 := ev_congr (y := x) (t := t) (t' := t') (fun s hs => ht s (by simp [AOp.slots, hs]))
    simp only [delta, acc, e2, e3] at hh ⊢
    rw [els_congr (x := Opd.ev t x) fun id hid => hh id (List.mem_append.2 (.inr hid))]
    cases hx : Opd.ev t s with
    | r sz' id off len =>
      rw [hx] at hh
      have h1 := hh id (by simp [AV.refs, AV.ref1])
      cases off with
      | zero => simp only [h1, and_self]
      | succ k => first | exact ⟨rfl, rfl⟩ | exact ⟨rfl, trivial⟩
    | c d => cases d <;> first | exact ⟨rfl, rfl⟩ | exact ⟨rfl, trivial⟩
    | _ => first | exact ⟨rfl, rfl⟩ | exact ⟨rfl, trivial⟩
  | call f args =>
    have hs : ∀ s, s ∈ args.flatMap Opd.slots → t' s = t s := fun s hs => ht s (by simpa [AOp.slots] using hs)
    have hm : args.map (Opd.ev t') = args.map (Opd.ev t) := List.map_congr_left fun x hx => ev_congr fun s h => hs s (List.mem_flatMap.2 ⟨x, hx, h⟩)
    simp only [acc] at hh
    have ha : AV.argM h' (Γ.md f) (args.map (Opd.ev t)) = AV.argM h (Γ.md f) (args.map (Opd.ev t)) := argM_congr fun id hid => by
      rw [List.flatMap_map] at hid
      obtain ⟨x, hx, hid⟩ := List.mem_flatMap.1 hid
      refine hh id ?_
      rcases List.mem_append.1 hid with hid | hid
      · exact List.mem_append.2 (.inl (List.mem_flatMap.2 ⟨x, hx, hid⟩))
      · exact List.mem_append.2 (.inr (List.mem_flatMap.2 ⟨x, hx, hid⟩))
    simp only [delta, acc]
    rw [hm, ha, flat_congr AV.lent hs, flat_congr AV.refs hs]
    rw [frz_congr (h := h) (h' := h') fun id hid => hh id (by
      obtain ⟨x, hx, hid⟩ := List.mem_flatMap.1 hid
      obtain ⟨y, hy, rfl⟩ := List.mem_map.1 (dats_mem hx)
      exact List.mem_append.2 (.inl (List.mem_flatMap.2 ⟨y, hy, hid⟩)))]
    exact ⟨rfl, rfl⟩

end Go.Proofs.Ytephkbajoofeoaa.Am
