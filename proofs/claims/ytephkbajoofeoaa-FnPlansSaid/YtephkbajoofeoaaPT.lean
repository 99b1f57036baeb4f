/-
  Written by program: the code of functions, what it asks, and that it comes to what the models say.
-/
import Derived.Test.YtephkbajoofeoaaM5
namespace Go.Proofs.Ytephkbajoofeoaa.Am
open Go Go.RowKit Go.Proofs.Ytephkbajoofeoaa
set_option linter.unusedVariables false
set_option linter.unusedSimpArgs false
noncomputable section

def s_InFlight_R (t : Int) : TRes := ⟨(.c TI t), [], [], false, []⟩
def s_InFlight_row : TRow := mkRow 57 [(.c (.sl ctIns))] fun x => (none, s_InFlight_R (m_inFlight x.1))
def s_InFlight_C : Prop := ∀ (x0 : List TIns), TCon Try.prog 57 [(.c (.sl ctIns) x0)] (s_InFlight_R (m_inFlight x0))

/-! spec.InFlight -/
def s_InFlight_G : List TRow := []
def s_InFlight_b2 : TCode :=
  (.seq (.seq (.reg [.op (some 6) (.mov (.s 5)),
     .op (some 7) (.mov (.s 0)),
     .op (some 8) (.len (.s 7)),
     .op (some 9) (.bin .lss (.s 6) (.s 8))])
  (.cond (.s 9) .skip (.exit 0)))
 (.seq (.block 1 (.seq (.seq (.reg [.op (some 12) (.mov (.s 0)),
        .op (some 13) (.mov (.s 5)),
        .op (some 14) (.iad (.s 12) (.s 13) ctIns),
        .op (some 15) (.fad (.s 14) 0),
        .op (some 16) (.load (.s 15) 1 false)])
     (.block 2 (.seq (.reg [.op (some 18) (.bin .eql (.s 16) (.k (.c TI (2 : Int)))),
          .op (some 17) (.mov (.s 18))])
       (.cond (.s 17) (.reg [.op (some 19) (.mov (.s 3)),
           .op (some 20) (.bin .add (.s 19) (.k (.c TI (1 : Int)))),
           .op (some 3) (.mov (.s 20))]) (.seq (.reg [.op (some 22) (.bin .eql (.s 16) (.k (.c TI (6 : Int)))),
            .op (some 21) (.mov (.s 22))])
         (.cond (.s 21) (.reg [.op (some 23) (.mov (.s 3)),
             .op (some 24) (.bin .sub (.s 23) (.k (.c TI (1 : Int)))),
             .op (some 3) (.mov (.s 24))]) .skip))))))
    (.reg [.op (some 25) (.mov (.s 4)),
       .op (some 26) (.mov (.s 3)),
       .op (some 27) (.mm true (.s 25) (.s 26)),
       .op (some 4) (.mov (.s 27))])))
  (.reg [.op (some 10) (.mov (.s 5)),
     .op (some 11) (.bin .add (.s 10) (.k (.c TI (1 : Int)))),
     .op (some 5) (.mov (.s 11))])))
def s_InFlight_L2 : List (Nat × Md) := [(0, .one .d), (3, .one .d), (4, .one .d), (5, .one .d)]
def s_InFlight_y1 : TCode :=
  (.seq (.reg [.op (some 28) (.mov (.s 4)),
    .op (some 2) (.mov (.s 28))])
 .ret)
def s_InFlight_c : TCode :=
  (.seq (.reg [.op (some 2) (.mov (.k (.c TI (0 : Int))))])
 (.seq (.reg [.op (some 3) (.mov (.k (.c TI (0 : Int))))])
  (.seq (.reg [.op (some 4) (.mov (.k (.c TI (0 : Int))))])
   (.seq (.seq (.reg [.op (some 5) (.mov (.k (.c TI (0 : Int))))])
     (.block 0 (.loop s_InFlight_L2 s_InFlight_b2)))
    s_InFlight_y1))))
def s_InFlight_rs : List (ARv × Md) := [(.t 2, .one .d)]
theorem s_InFlight_st : compF Try.prog 57 = some (s_InFlight_c.er, s_InFlight_rs.map Prod.fst, 29) := by kernel_rfl
def s_InFlight_Q (K : TRes → Prop) : TPost := TQ 0 0 s_InFlight_rs K
def s_InFlight_q1 (K : TRes → Prop) : TPost := Qseq (tawp s_InFlight_G 0 s_InFlight_y1 (s_InFlight_Q K)) (s_InFlight_Q K)
def s_InFlight_q2 (K : TRes → Prop) : TPost := Qblk 0 (s_InFlight_q1 K)
def s_InFlight_A2 (K : TRes → Prop) (l : List TIns) (n : Int) (most : Int) (i : Int) : Prop := Loop s_InFlight_G 0 s_InFlight_L2 s_InFlight_b2 (s_InFlight_q2 K) ⟨[(0, (.c (.sl ctIns) l)), (3, (.c TI n)), (4, (.c TI most)), (5, (.c TI i))], [], 0⟩
theorem s_InFlight_v2 (K : TRes → Prop) (l : List TIns) (n : Int) (most : Int) (i : Int) (h :
  (((decide (i < (l.length : Int))) = true → (((0 : Int) ≤ i ∧ Int.toNat i < l.length) ∧ (((((gtd dIns l (Int.toNat i)).1) == (2 : Int)) = true → (s_InFlight_A2 K l (w64 (n + (1 : Int))) (if most < (w64 (n + (1 : Int))) then (w64 (n + (1 : Int))) else most) (w64 (i + (1 : Int))))) ∧ ((((gtd dIns l (Int.toNat i)).1) == (2 : Int)) = false → (((((gtd dIns l (Int.toNat i)).1) == (6 : Int)) = true → (s_InFlight_A2 K l (w64 (n - (1 : Int))) (if most < (w64 (n - (1 : Int))) then (w64 (n - (1 : Int))) else most) (w64 (i + (1 : Int))))) ∧ ((((gtd dIns l (Int.toNat i)).1) == (6 : Int)) = false → (s_InFlight_A2 K l n (if most < n then n else most) (w64 (i + (1 : Int)))))))))) ∧ ((decide (i < (l.length : Int))) = false → K (s_InFlight_R most)))) : s_InFlight_A2 K l n most i :=
  Loop.of (by kernel_rfl) h
theorem s_InFlight_v0 (K : TRes → Prop) (l : List TIns) (h :
  (s_InFlight_A2 K l (0 : Int) (0 : Int) (0 : Int))) : Hold (tawp s_InFlight_G (0 + 0) s_InFlight_c (TQ 0 0 s_InFlight_rs K) (tstart [(.c (.sl ctIns) l)])) :=
  Hold.of (by kernel_rfl) h
theorem s_InFlight_t (l : List TIns) (r : TRes) (h : Hold (tawp s_InFlight_G (0 + 0) s_InFlight_c (TQ 0 0 s_InFlight_rs fun r' => r' = r) (tstart [(.c (.sl ctIns) l)]))) : TCon Try.prog 57 [(.c (.sl ctIns) l)] r :=
  tcon_gen (sg := [(.c (.sl ctIns))]) mixed TOk.nil s_InFlight_st (by kernel_rfl) (by kernel_rfl) (by kernel_rfl) (by kernel_rfl) h
theorem s_InFlight_h : s_InFlight_C := by
  intro l
  refine tcon_bd rfl fun hb => s_InFlight_t l _ (s_InFlight_v0 _ l ?_)
  have hl_l : l.length ≤ 9223372036854775807 := hb.1.1
  refine listLoop l (fun r k => ∀ n most : Int, -(k : Int) ≤ n → n ≤ k → flGo r n most = m_inFlight l → s_InFlight_A2 (fun r' => r' = s_InFlight_R (m_inFlight l)) l n most k) ?_ ?_ 0 0 (by omega) (by omega) rfl
  · intro n most _ _ he
    refine s_InFlight_v2 (fun r' => r' = s_InFlight_R (m_inFlight l)) l n most _ ⟨fun h => by simp at h, fun _ => ?_⟩
    grind [flGo]
  · intro k x r hk hlt hg ih n most h1 h2 he
    refine s_InFlight_v2 (fun r' => r' = s_InFlight_R (m_inFlight l)) l n most _ ⟨fun _ => ?_, fun h => by simp at h; omega⟩
    rw [Int.toNat_natCast, hg, w64_ok (x := (k : Int) + 1) (by omega) (by omega)]
    have e1 : w64 (n + 1) = n + 1 := w64_ok (by omega) (by omega)
    have e2 : w64 (n - 1) = n - 1 := w64_ok (by omega) (by omega)
    simp only [flGo] at he
    grind

theorem s_InFlight_ok : TRowOk Try.prog s_InFlight_row := rowOk fun x _ => s_InFlight_h x.1

def i_InFlight_R (t : Int) : TRes := ⟨(.c TI t), [], [], false, []⟩
def i_InFlight_row : TRow := mkRow 56 [(.c (.sl ctIns))] fun x => (none, i_InFlight_R (m_inFlight x.1))
def i_InFlight_C : Prop := ∀ (x0 : List TIns), TCon Try.prog 56 [(.c (.sl ctIns) x0)] (i_InFlight_R (m_inFlight x0))

/-! impl.InFlight -/
def i_InFlight_G : List TRow := []
def i_InFlight_y4 : TCode :=
  (.seq (.seq (.reg [.op (some 18) (.fad (.s 6) 0),
     .op (some 19) (.load (.s 18) 1 false),
     .op (some 20) (.bin .eql (.s 19) (.k (.c TI (6 : Int))))])
  (.cond (.s 20) (.reg [.op (some 21) (.mov (.s 4)),
      .op (some 22) (.bin .sub (.s 21) (.k (.c TI (1 : Int)))),
      .op (some 4) (.mov (.s 22))]) .skip))
 (.reg [.op (some 23) (.mov (.s 3)),
    .op (some 24) (.mov (.s 4)),
    .op (some 25) (.mm true (.s 23) (.s 24)),
    .op (some 3) (.mov (.s 25))]))
def i_InFlight_L4 : List (Nat × Md) := [(3, .one .d), (4, .one .d), (6, .b [.d, .d]), (7, .one .d), (8, .one .d), (9, .one .d)]
def i_InFlight_y4w : TCode := .wk i_InFlight_L4 i_InFlight_y4
def i_InFlight_y3 : TCode :=
  (.reg [.op (some 26) (.bin .add (.s 9) (.k (.c TI (1 : Int)))),
   .op (some 9) (.mov (.s 26))])
def i_InFlight_b2 : TCode :=
  (.seq (.reg [.op (some 10) (.bin .lss (.s 9) (.s 8))])
 (.seq (.cond (.s 10) .skip (.exit 0))
  (.seq (.block 1 (.seq (.reg [.op (some 11) (.iad (.s 7) (.s 9) ctIns),
        .op (some 12) (.load (.s 11) 2 true),
        .op (some 6) (.new 151 [(.c TI (0 : Int)), (.c TI (0 : Int))]),
        .op none (.store (.s 6) (.s 12) 2)])
     (.seq (.seq (.reg [.op (some 13) (.fad (.s 6) 0),
          .op (some 14) (.load (.s 13) 1 false),
          .op (some 15) (.bin .eql (.s 14) (.k (.c TI (2 : Int))))])
       (.cond (.s 15) (.reg [.op (some 16) (.mov (.s 4)),
           .op (some 17) (.bin .add (.s 16) (.k (.c TI (1 : Int)))),
           .op (some 4) (.mov (.s 17))]) .skip))
      i_InFlight_y4w)))
   i_InFlight_y3)))
def i_InFlight_L2 : List (Nat × Md) := [(3, .one .d), (4, .one .d), (7, .one .d), (8, .one .d), (9, .one .d)]
def i_InFlight_y1 : TCode :=
  (.seq (.reg [.op (some 27) (.mov (.s 3)),
    .op (some 2) (.mov (.s 27))])
 .ret)
def i_InFlight_c : TCode :=
  (.seq (.reg [.op (some 2) (.mov (.k (.c TI (0 : Int))))])
 (.seq (.reg [.op (some 3) (.mov (.k (.c TI (0 : Int))))])
  (.seq (.reg [.op (some 4) (.mov (.k (.c TI (0 : Int))))])
   (.seq (.seq (.reg [.op (some 7) (.mov (.s 0)),
        .op (some 8) (.len (.s 7)),
        .op (some 9) (.mov (.k (.c TI (0 : Int))))])
     (.block 0 (.loop i_InFlight_L2 i_InFlight_b2)))
    i_InFlight_y1))))
def i_InFlight_rs : List (ARv × Md) := [(.t 2, .one .d)]
theorem i_InFlight_st : compF Try.prog 56 = some (i_InFlight_c.er, i_InFlight_rs.map Prod.fst, 28) := by kernel_rfl
def i_InFlight_Q (K : TRes → Prop) : TPost := TQ 0 0 i_InFlight_rs K
def i_InFlight_q1 (K : TRes → Prop) : TPost := Qseq (tawp i_InFlight_G 0 i_InFlight_y1 (i_InFlight_Q K)) (i_InFlight_Q K)
def i_InFlight_q2 (K : TRes → Prop) : TPost := Qblk 0 (i_InFlight_q1 K)
def i_InFlight_q3 (K : TRes → Prop) : TPost := Qseq (fun s' => Loop i_InFlight_G 0 i_InFlight_L2 i_InFlight_b2 (i_InFlight_q2 K) (gc 0 i_InFlight_L2 s')) (i_InFlight_q2 K)
def i_InFlight_q4 (K : TRes → Prop) : TPost := Qseq (tawp i_InFlight_G 0 i_InFlight_y3 (i_InFlight_q3 K)) (i_InFlight_q3 K)
def i_InFlight_q5 (K : TRes → Prop) : TPost := Qblk 1 (i_InFlight_q4 K)
def i_InFlight_A4 (K : TRes → Prop) (l : List TIns) (now : Int) (most : Int) (x : Int) : Prop := tawp i_InFlight_G 0 i_InFlight_y4 (i_InFlight_q5 K) ⟨[(3, (.c TI most)), (4, (.c TI now)), (6, (.p 0 0 0)), (7, (.c (.sl ctIns) l)), (8, (.c TI (l.length : Int))), (9, (.c TI x))], [(0, (.box [(.c TI ((gtd dIns l (Int.toNat x)).1)), (.c TI ((gtd dIns l (Int.toNat x)).2))]))], 1⟩
def i_InFlight_A2 (K : TRes → Prop) (l : List TIns) (most : Int) (now1 : Int) (x : Int) : Prop := Loop i_InFlight_G 0 i_InFlight_L2 i_InFlight_b2 (i_InFlight_q2 K) ⟨[(3, (.c TI most)), (4, (.c TI now1)), (7, (.c (.sl ctIns) l)), (8, (.c TI (l.length : Int))), (9, (.c TI x))], [], 0⟩
theorem i_InFlight_v4 (K : TRes → Prop) (l : List TIns) (now : Int) (most : Int) (x : Int) (h :
  (((((gtd dIns l (Int.toNat x)).1) == (6 : Int)) = true → (i_InFlight_A2 K l (if most < (w64 (now - (1 : Int))) then (w64 (now - (1 : Int))) else most) (w64 (now - (1 : Int))) (w64 (x + (1 : Int))))) ∧ ((((gtd dIns l (Int.toNat x)).1) == (6 : Int)) = false → (i_InFlight_A2 K l (if most < now then now else most) now (w64 (x + (1 : Int))))))) : Hold (i_InFlight_A4 K l now most x) :=
  Hold.of (by kernel_rfl) h
theorem i_InFlight_v2 (K : TRes → Prop) (l : List TIns) (most : Int) (now1 : Int) (x : Int) (h :
  (((decide (x < (l.length : Int))) = true → (((0 : Int) ≤ x ∧ Int.toNat x < l.length) ∧ (((((gtd dIns l (Int.toNat x)).1) == (2 : Int)) = true → (i_InFlight_A4 K l (w64 (now1 + (1 : Int))) most x)) ∧ ((((gtd dIns l (Int.toNat x)).1) == (2 : Int)) = false → (i_InFlight_A4 K l now1 most x))))) ∧ ((decide (x < (l.length : Int))) = false → K (i_InFlight_R most)))) : i_InFlight_A2 K l most now1 x :=
  Loop.of (by kernel_rfl) h
theorem i_InFlight_v0 (K : TRes → Prop) (l : List TIns) (h :
  (i_InFlight_A2 K l (0 : Int) (0 : Int) (0 : Int))) : Hold (tawp i_InFlight_G (0 + 0) i_InFlight_c (TQ 0 0 i_InFlight_rs K) (tstart [(.c (.sl ctIns) l)])) :=
  Hold.of (by kernel_rfl) h
theorem i_InFlight_t (l : List TIns) (r : TRes) (h : Hold (tawp i_InFlight_G (0 + 0) i_InFlight_c (TQ 0 0 i_InFlight_rs fun r' => r' = r) (tstart [(.c (.sl ctIns) l)]))) : TCon Try.prog 56 [(.c (.sl ctIns) l)] r :=
  tcon_gen (sg := [(.c (.sl ctIns))]) mixed TOk.nil i_InFlight_st (by kernel_rfl) (by kernel_rfl) (by kernel_rfl) (by kernel_rfl) h
theorem i_InFlight_h : i_InFlight_C := by
  intro l
  refine tcon_bd rfl fun hb => i_InFlight_t l _ (i_InFlight_v0 _ l ?_)
  have hl_l : l.length ≤ 9223372036854775807 := hb.1.1
  refine listLoop l (fun r k => ∀ n most : Int, -(k : Int) ≤ n → n ≤ k → flGo r n most = m_inFlight l → i_InFlight_A2 (fun r' => r' = i_InFlight_R (m_inFlight l)) l most n k) ?_ ?_ 0 0 (by omega) (by omega) rfl
  · intro n most _ _ he
    refine i_InFlight_v2 (fun r' => r' = i_InFlight_R (m_inFlight l)) l most _ _ ⟨fun h => by simp at h, fun _ => ?_⟩
    grind [flGo]
  · intro k x r hk hlt hg ih n most h1 h2 he
    refine i_InFlight_v2 (fun r' => r' = i_InFlight_R (m_inFlight l)) l most _ _ ⟨fun _ => ?_, fun h => by simp at h; omega⟩
    have e0 := w64_ok (x := (k : Int) + 1) (by omega) (by omega)
    have e1 : w64 (n + 1) = n + 1 := w64_ok (by omega) (by omega)
    have e2 : w64 (n - 1) = n - 1 := w64_ok (by omega) (by omega)
    simp only [flGo] at he
    rw [Int.toNat_natCast, hg]
    refine ⟨⟨by omega, hlt⟩, fun h => (i_InFlight_v4 (fun r' => r' = i_InFlight_R (m_inFlight l)) l _ most k ?_).h, fun h => (i_InFlight_v4 (fun r' => r' = i_InFlight_R (m_inFlight l)) l n most k ?_).h⟩ <;> rw [Int.toNat_natCast, hg] <;> grind

theorem i_InFlight_ok : TRowOk Try.prog i_InFlight_row := rowOk fun x _ => i_InFlight_h x.1

end
end Go.Proofs.Ytephkbajoofeoaa.Am
