/-
  Written by program: the code of functions, what it asks, and that it comes to what the models say.
-/
import Derived.Test.YtephkbajoofeoaaM8
namespace Go.Proofs.Ytephkbajoofeoaa.Am
open Go Go.RowKit Go.Proofs.Ytephkbajoofeoaa
set_option linter.unusedVariables false
set_option linter.unusedSimpArgs false
noncomputable section

def l_markInsS_R (t : Int × (List TIns)) : TRes := ⟨(.c TI t.1), [], [], true, [(.sl 151 ctIns true t.2)]⟩
def l_markInsS_row : TRow := mkRow 20 [(.o 151 ctIns), (.c TI)] fun x => (some (p_markIns x.1 x.2.1), l_markInsS_R (m_markIns x.1 x.2.1))
def l_markInsS_C : Prop := ∀ (x0 : List TIns) (x1 : Int), (p_markIns x0 x1) → TCon Try.prog 20 [(.ow 151 ctIns x0), (.c TI x1)] (l_markInsS_R (m_markIns x0 x1))

/-! laws.markInsS -/
def l_markInsS_G : List TRow := []
def l_markInsS_b2 : TCode :=
  (.seq (.seq (.reg [.op (some 6) (.mov (.s 5)),
     .op (some 7) (.mov (.s 0)),
     .op (some 8) (.len (.s 7)),
     .op (some 9) (.bin .lss (.s 6) (.s 8))])
  (.cond (.s 9) .skip (.exit 0)))
 (.seq (.block 1 (.seq (.reg [.op (some 12) (.mov (.s 0)),
       .op (some 13) (.mov (.s 5)),
       .op (some 14) (.mov (.s 1)),
       .op (some 15) (.iad (.s 12) (.s 13) ctIns),
       .op (some 16) (.fad (.s 15) 0),
       .op none (.store (.s 16) (.s 14) 1)])
    (.seq (.reg [.op (some 17) (.mov (.s 1)),
        .op (some 18) (.bin .add (.s 17) (.k (.c TI (1 : Int)))),
        .op (some 1) (.mov (.s 18))])
     (.seq (.reg [.op (some 19) (.mov (.s 0)),
         .op (some 20) (.mov (.s 5)),
         .op (some 21) (.mov (.s 1)),
         .op (some 22) (.iad (.s 19) (.s 20) ctIns),
         .op (some 23) (.fad (.s 22) 1),
         .op none (.store (.s 23) (.s 21) 1)])
      (.reg [.op (some 24) (.mov (.s 1)),
         .op (some 25) (.bin .add (.s 24) (.k (.c TI (1 : Int)))),
         .op (some 1) (.mov (.s 25))])))))
  (.reg [.op (some 10) (.mov (.s 5)),
     .op (some 11) (.bin .add (.s 10) (.k (.c TI (1 : Int)))),
     .op (some 5) (.mov (.s 11))])))
def l_markInsS_L2 : List (Nat × Md) := [(0, .one .f), (1, .one .d), (5, .one .d)]
def l_markInsS_y1 : TCode :=
  (.seq (.reg [.op (some 26) (.mov (.s 1)),
    .op (some 4) (.mov (.s 26))])
 .ret)
def l_markInsS_c : TCode :=
  (.seq (.reg [.op (some 4) (.mov (.k (.c TI (0 : Int))))])
 (.seq (.seq (.reg [.op (some 5) (.mov (.k (.c TI (0 : Int))))])
   (.block 0 (.loop l_markInsS_L2 l_markInsS_b2)))
  l_markInsS_y1))
def l_markInsS_rs : List (ARv × Md) := [(.t 4, .one .d)]
theorem l_markInsS_st : compF Try.prog 20 = some (l_markInsS_c.er, l_markInsS_rs.map Prod.fst, 27) := by kernel_rfl
def l_markInsS_Q (K : TRes → Prop) : TPost := TQ 0 1 l_markInsS_rs K
def l_markInsS_q1 (K : TRes → Prop) : TPost := Qseq (tawp l_markInsS_G 1 l_markInsS_y1 (l_markInsS_Q K)) (l_markInsS_Q K)
def l_markInsS_q2 (K : TRes → Prop) : TPost := Qblk 0 (l_markInsS_q1 K)
def l_markInsS_A2 (K : TRes → Prop) (a : List TIns) (k1 : Int) (i : Int) (a1 : List TIns) : Prop := Loop l_markInsS_G 1 l_markInsS_L2 l_markInsS_b2 (l_markInsS_q2 K) ⟨[(0, (.r ctIns 0 0 a.length)), (1, (.c TI k1)), (5, (.c TI i))], [(0, (.sl 151 ctIns true a1))], 1⟩
theorem l_markInsS_v2 (K : TRes → Prop) (a : List TIns) (k1 : Int) (i : Int) (a1 : List TIns) (h :
  (((decide (i < ((a.length : Nat) : Int))) = true → ((((0 : Int) ≤ i ∧ Int.toNat i < a.length) ∧ ((0 + (Int.toNat i)) < a1.length)) ∧ ((((0 : Int) ≤ i ∧ Int.toNat i < a.length) ∧ ((0 + (Int.toNat i)) < ((a1).set (0 + (Int.toNat i)) (k1, (gtd dIns a1 (0 + (Int.toNat i))).2)).length)) ∧ (l_markInsS_A2 K a (w64 ((w64 (k1 + (1 : Int))) + (1 : Int))) (w64 (i + (1 : Int))) (((a1).set (0 + (Int.toNat i)) (k1, (gtd dIns a1 (0 + (Int.toNat i))).2)).set (0 + (Int.toNat i)) ((gtd dIns ((a1).set (0 + (Int.toNat i)) (k1, (gtd dIns a1 (0 + (Int.toNat i))).2)) (0 + (Int.toNat i))).1, w64 (k1 + (1 : Int)))))))) ∧ ((decide (i < ((a.length : Nat) : Int))) = false → K (l_markInsS_R (k1, a1))))) : l_markInsS_A2 K a k1 i a1 :=
  Loop.of (by kernel_rfl) h
theorem l_markInsS_v0 (K : TRes → Prop) (a : List TIns) (k : Int) (h :
  (l_markInsS_A2 K a k (0 : Int) a)) : Hold (tawp l_markInsS_G (0 + 1) l_markInsS_c (TQ 0 1 l_markInsS_rs K) (tstart [(.ow 151 ctIns a), (.c TI k)])) :=
  Hold.of (by kernel_rfl) h
theorem l_markInsS_t (a : List TIns) (k : Int) (r : TRes) (h : Hold (tawp l_markInsS_G (0 + 1) l_markInsS_c (TQ 0 1 l_markInsS_rs fun r' => r' = r) (tstart [(.ow 151 ctIns a), (.c TI k)]))) : TCon Try.prog 20 [(.ow 151 ctIns a), (.c TI k)] r :=
  tcon_gen (sg := [(.o 151 ctIns), (.c TI)]) mixed TOk.nil l_markInsS_st (by kernel_rfl) (by kernel_rfl) (by kernel_rfl) (by kernel_rfl) h
theorem l_markInsS_h : l_markInsS_C := by
  intro a k hp
  refine tcon_bd rfl fun hb => l_markInsS_t a k _ (l_markInsS_v0 _ a k ?_)
  have key : ∀ (r done : List TIns) (j : Int), 0 ≤ j → j + 2 * r.length ≤ 4000000000 → (done ++ r).length = a.length → a.length ≤ 1000000000 → (j + 2 * r.length, done ++ markGo r j) = (m_markIns a k) → l_markInsS_A2 (fun r' => r' = l_markInsS_R (m_markIns a k)) a j (done.length : Int) (done ++ r) := by
    intro r
    induction r with
    | nil =>
      intro done j h1 h2 h3 h4 he
      refine l_markInsS_v2 (fun r' => r' = l_markInsS_R (m_markIns a k)) a _ _ _ ⟨fun h => ?_, fun _ => R_eq ?_⟩
      · simp at h h3; omega
      · rw [← he]; simp [markGo]
    | cons x r ih =>
      intro done j h1 h2 h3 h4 he
      have hl : done.length < (done ++ x :: r).length := by simp
      have hl2 : done.length < a.length := by omega
      simp only [List.length_cons] at h2 he
      refine l_markInsS_v2 (fun r' => r' = l_markInsS_R (m_markIns a k)) a _ _ _ ⟨fun _ => ?_, fun h => ?_⟩
      · rw [Int.toNat_natCast, Nat.zero_add]
        refine ⟨⟨⟨by omega, hl2⟩, hl⟩, ⟨⟨by omega, hl2⟩, by rw [List.length_set]; exact hl⟩, ?_⟩
        rw [w64_ok (x := j + 1) (by omega) (by omega), w64_ok (x := j + 1 + 1) (by omega) (by omega), sc1 (by omega), List.set_set, gtd_set hl, gtd_mid, set_mid]
        have h := ih (done ++ [(j, j + 1)]) (j + 1 + 1) (by omega) (by omega) (by simpa using h3) h4 ?_
        · simpa using h
        · rw [← he]; simp [markGo]; omega
      · simp at h; omega
  obtain ⟨h1, h2, h3⟩ := hp
  exact key a [] k h1 (by omega) rfl (by omega) rfl

theorem l_markInsS_ok : TRowOk Try.prog l_markInsS_row := rowOk fun x h => l_markInsS_h x.1 x.2.1 h

def l_heldInsS_R (t : Int) : TRes := ⟨(.c TI t), [], [], false, []⟩
def l_heldInsS_row : TRow := mkRow 21 [(.c (.sl ctIns)), (.c TI)] fun x => (some (p_markIns x.1 x.2.1), l_heldInsS_R (m_heldIns x.1 x.2.1))
def l_heldInsS_C : Prop := ∀ (x0 : List TIns) (x1 : Int), (p_markIns x0 x1) → TCon Try.prog 21 [(.c (.sl ctIns) x0), (.c TI x1)] (l_heldInsS_R (m_heldIns x0 x1))

/-! laws.heldInsS -/
def l_heldInsS_G : List TRow := []
def l_heldInsS_b2 : TCode :=
  (.seq (.seq (.reg [.op (some 6) (.mov (.s 5)),
     .op (some 7) (.mov (.s 0)),
     .op (some 8) (.len (.s 7)),
     .op (some 9) (.bin .lss (.s 6) (.s 8))])
  (.cond (.s 9) .skip (.exit 0)))
 (.seq (.block 1 (.seq (.seq (.reg [.op (some 12) (.mov (.s 0)),
        .op (some 13) (.mov (.s 5)),
        .op (some 14) (.iad (.s 12) (.s 13) ctIns),
        .op (some 15) (.fad (.s 14) 0),
        .op (some 16) (.load (.s 15) 1 false),
        .op (some 17) (.mov (.s 1)),
        .op (some 18) (.bin .neq (.s 16) (.s 17))])
     (.cond (.s 18) (.seq (.reg [.op (some 4) (.mov (.k (.c TI (-1 : Int))))])
       .ret) .skip))
    (.seq (.reg [.op (some 19) (.mov (.s 1)),
        .op (some 20) (.bin .add (.s 19) (.k (.c TI (1 : Int)))),
        .op (some 1) (.mov (.s 20))])
     (.seq (.seq (.reg [.op (some 21) (.mov (.s 0)),
          .op (some 22) (.mov (.s 5)),
          .op (some 23) (.iad (.s 21) (.s 22) ctIns),
          .op (some 24) (.fad (.s 23) 1),
          .op (some 25) (.load (.s 24) 1 false),
          .op (some 26) (.mov (.s 1)),
          .op (some 27) (.bin .neq (.s 25) (.s 26))])
       (.cond (.s 27) (.seq (.reg [.op (some 4) (.mov (.k (.c TI (-1 : Int))))])
         .ret) .skip))
      (.reg [.op (some 28) (.mov (.s 1)),
         .op (some 29) (.bin .add (.s 28) (.k (.c TI (1 : Int)))),
         .op (some 1) (.mov (.s 29))])))))
  (.reg [.op (some 10) (.mov (.s 5)),
     .op (some 11) (.bin .add (.s 10) (.k (.c TI (1 : Int)))),
     .op (some 5) (.mov (.s 11))])))
def l_heldInsS_L2 : List (Nat × Md) := [(0, .one .d), (1, .one .d), (5, .one .d)]
def l_heldInsS_y1 : TCode :=
  (.seq (.reg [.op (some 30) (.mov (.s 1)),
    .op (some 4) (.mov (.s 30))])
 .ret)
def l_heldInsS_c : TCode :=
  (.seq (.reg [.op (some 4) (.mov (.k (.c TI (0 : Int))))])
 (.seq (.seq (.reg [.op (some 5) (.mov (.k (.c TI (0 : Int))))])
   (.block 0 (.loop l_heldInsS_L2 l_heldInsS_b2)))
  l_heldInsS_y1))
def l_heldInsS_rs : List (ARv × Md) := [(.t 4, .one .d)]
theorem l_heldInsS_st : compF Try.prog 21 = some (l_heldInsS_c.er, l_heldInsS_rs.map Prod.fst, 31) := by kernel_rfl
def l_heldInsS_Q (K : TRes → Prop) : TPost := TQ 0 0 l_heldInsS_rs K
def l_heldInsS_q1 (K : TRes → Prop) : TPost := Qseq (tawp l_heldInsS_G 0 l_heldInsS_y1 (l_heldInsS_Q K)) (l_heldInsS_Q K)
def l_heldInsS_q2 (K : TRes → Prop) : TPost := Qblk 0 (l_heldInsS_q1 K)
def l_heldInsS_A2 (K : TRes → Prop) (a : List TIns) (k1 : Int) (i : Int) : Prop := Loop l_heldInsS_G 0 l_heldInsS_L2 l_heldInsS_b2 (l_heldInsS_q2 K) ⟨[(0, (.c (.sl ctIns) a)), (1, (.c TI k1)), (5, (.c TI i))], [], 0⟩
theorem l_heldInsS_v2 (K : TRes → Prop) (a : List TIns) (k1 : Int) (i : Int) (h :
  (((decide (i < (a.length : Int))) = true → (((0 : Int) ≤ i ∧ Int.toNat i < a.length) ∧ (((((gtd dIns a (Int.toNat i)).1) != k1) = true → K (l_heldInsS_R (-1 : Int))) ∧ ((((gtd dIns a (Int.toNat i)).1) != k1) = false → (((0 : Int) ≤ i ∧ Int.toNat i < a.length) ∧ (((((gtd dIns a (Int.toNat i)).2) != (w64 (k1 + (1 : Int)))) = true → K (l_heldInsS_R (-1 : Int))) ∧ ((((gtd dIns a (Int.toNat i)).2) != (w64 (k1 + (1 : Int)))) = false → (l_heldInsS_A2 K a (w64 ((w64 (k1 + (1 : Int))) + (1 : Int))) (w64 (i + (1 : Int))))))))))) ∧ ((decide (i < (a.length : Int))) = false → K (l_heldInsS_R k1)))) : l_heldInsS_A2 K a k1 i :=
  Loop.of (by kernel_rfl) h
theorem l_heldInsS_v0 (K : TRes → Prop) (a : List TIns) (k : Int) (h :
  (l_heldInsS_A2 K a k (0 : Int))) : Hold (tawp l_heldInsS_G (0 + 0) l_heldInsS_c (TQ 0 0 l_heldInsS_rs K) (tstart [(.c (.sl ctIns) a), (.c TI k)])) :=
  Hold.of (by kernel_rfl) h
theorem l_heldInsS_t (a : List TIns) (k : Int) (r : TRes) (h : Hold (tawp l_heldInsS_G (0 + 0) l_heldInsS_c (TQ 0 0 l_heldInsS_rs fun r' => r' = r) (tstart [(.c (.sl ctIns) a), (.c TI k)]))) : TCon Try.prog 21 [(.c (.sl ctIns) a), (.c TI k)] r :=
  tcon_gen (sg := [(.c (.sl ctIns)), (.c TI)]) mixed TOk.nil l_heldInsS_st (by kernel_rfl) (by kernel_rfl) (by kernel_rfl) (by kernel_rfl) h
theorem l_heldInsS_h : l_heldInsS_C := by
  intro a k hp
  refine tcon_bd rfl fun hb => l_heldInsS_t a k _ (l_heldInsS_v0 _ a k ?_)
  have hl_a : a.length ≤ 9223372036854775807 := hb.1.1
  obtain ⟨h1, h2, h3⟩ := hp
  refine listLoop a (fun r i => ∀ j : Int, j = k + 2 * i → heldGo r j = (m_heldIns a k) → l_heldInsS_A2 (fun r' => r' = l_heldInsS_R (m_heldIns a k)) a j i) ?_ ?_ k (by simp) rfl
  · intro j hj he
    refine l_heldInsS_v2 (fun r' => r' = l_heldInsS_R (m_heldIns a k)) a _ _ ⟨fun h => by simp at h, fun _ => R_eq ?_⟩
    rw [← he]; rfl
  · intro i x r hi hlt hg ih j hj he
    refine l_heldInsS_v2 (fun r' => r' = l_heldInsS_R (m_heldIns a k)) a _ _ ⟨fun _ => ?_, fun h => by simp at h; omega⟩
    rw [Int.toNat_natCast, hg, sc1 (by omega), w64_ok (x := j + 1) (by omega) (by omega), w64_ok (x := j + 1 + 1) (by omega) (by omega)]
    rw [heldGo] at he
    refine ⟨⟨by omega, hlt⟩, fun h => R_eq ?_, fun h => ⟨⟨by omega, hlt⟩, fun h' => R_eq ?_, fun h' => ih _ (by omega) ?_⟩⟩
    · rw [← he, if_pos (by simpa using h)]
    · rw [← he, if_neg (by simpa using h), if_pos (by simpa using h')]
    · rw [← he, if_neg (by simpa using h), if_neg (by simpa using h')]

theorem l_heldInsS_ok : TRowOk Try.prog l_heldInsS_row := rowOk fun x h => l_heldInsS_h x.1 x.2.1 h

end
end Go.Proofs.Ytephkbajoofeoaa.Am
