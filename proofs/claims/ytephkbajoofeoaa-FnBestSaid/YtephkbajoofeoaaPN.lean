/-
  Written by program: the code of functions, what it asks, and that it comes to what the models say.
-/
import Derived.Test.YtephkbajoofeoaaPF
import Derived.Test.YtephkbajoofeoaaP1
import Derived.Test.YtephkbajoofeoaaP4
import Derived.Test.YtephkbajoofeoaaP5
import Derived.Test.YtephkbajoofeoaaKD
namespace Go.Proofs.Ytephkbajoofeoaa.Am
open Go Go.RowKit Go.Proofs.Ytephkbajoofeoaa
set_option linter.unusedVariables false
set_option linter.unusedSimpArgs false
set_option maxHeartbeats 2000000
noncomputable section

def i_AllCuts_R (t : (List (List Int))) : TRes := ⟨(.c (.sl [(.sl [TI])]) t), [], [], true, []⟩
def i_AllCuts_row : TRow := mkRow 61 [(.c TI), (.c TI)] fun x => (none, i_AllCuts_R (m_allCuts x.1 x.2.1))
def i_AllCuts_C : Prop := ∀ (x0 : Int) (x1 : Int), TCon Try.prog 61 [(.c TI x0), (.c TI x1)] (i_AllCuts_R (m_allCuts x0 x1))

/-! impl.AllCuts -/
def i_AllCuts_G : List TRow := [i_copyInts_row]
def i_AllCuts_b8 : TCode :=
  (.seq (.seq (.reg [.op (some 55) (.mov (.s 11)),
     .op (some 56) (.mov (.s 0)),
     .op (some 57) (.mov (.s 1)),
     .op (some 58) (.bin .sub (.s 56) (.s 57)),
     .op (some 59) (.mov (.s 6)),
     .op (some 60) (.bin .add (.s 58) (.s 59)),
     .op (some 61) (.bin .leq (.s 55) (.s 60))])
  (.cond (.s 61) .skip (.exit 4)))
 (.seq (.block 5 (.reg [.op (some 64) (.mov (.s 7)),
      .op (some 65) (.fad (.s 9) 0),
      .op (some 66) (.load (.s 65) 1 false),
      .op (some 67) (.call 121 [(.s 66)]),
      .op (some 68) (.mov (.s 11)),
      .op (some 69) (.bsl 3 [TI] [(.s 68)]),
      .op (some 70) (.app (.s 67) (.s 69) 3 [TI]),
      .op (some 71) (.build [(.n [TI])] [(0, 1, (.s 70))]),
      .op (some 72) (.bsl 91 [(.sl [TI])] [(.s 71)]),
      .op (some 73) (.app (.s 64) (.s 72) 91 [(.sl [TI])]),
      .op (some 7) (.mov (.s 73))]))
  (.reg [.op (some 62) (.mov (.s 11)),
     .op (some 63) (.bin .add (.s 62) (.k (.c TI (1 : Int)))),
     .op (some 11) (.mov (.s 63))])))
def i_AllCuts_L8 : List (Nat × Md) := [(0, .one .d), (1, .one .d), (6, .one .d), (7, .one .f), (9, .b [.d]), (11, .one .d), (35, .one .d), (36, .one .d), (37, .one .d)]
def i_AllCuts_y7 : TCode :=
  (.seq (.reg [.op (some 54) (.mov (.s 10)),
    .op (some 11) (.mov (.s 54))])
 (.block 4 (.loop i_AllCuts_L8 i_AllCuts_b8)))
def i_AllCuts_L7 : List (Nat × Md) := [(0, .one .d), (1, .one .d), (6, .one .d), (7, .one .f), (9, .b [.d]), (10, .one .d), (35, .one .d), (36, .one .d), (37, .one .d)]
def i_AllCuts_y7w : TCode := .wk i_AllCuts_L7 i_AllCuts_y7
def i_AllCuts_y6 : TCode :=
  (.reg [.op (some 74) (.bin .add (.s 37) (.k (.c TI (1 : Int)))),
   .op (some 37) (.mov (.s 74))])
def i_AllCuts_b5 : TCode :=
  (.seq (.reg [.op (some 38) (.bin .lss (.s 37) (.s 36))])
 (.seq (.cond (.s 38) .skip (.exit 2))
  (.seq (.block 3 (.seq (.reg [.op (some 39) (.iad (.s 35) (.s 37) [(.sl [TI])]),
        .op (some 40) (.load (.s 39) 1 true),
        .op (some 9) (.new 91 [(.n [TI])]),
        .op none (.store (.s 9) (.s 40) 1)])
     (.seq (.reg [.op (some 10) (.mov (.k (.c TI (1 : Int))))])
      (.seq (.seq (.reg [.op (some 41) (.fad (.s 9) 0),
           .op (some 42) (.load (.s 41) 1 false),
           .op (some 43) (.len (.s 42)),
           .op (some 44) (.bin .gtr (.s 43) (.k (.c TI (0 : Int))))])
        (.cond (.s 44) (.reg [.op (some 45) (.fad (.s 9) 0),
            .op (some 46) (.load (.s 45) 1 false),
            .op (some 47) (.fad (.s 9) 0),
            .op (some 48) (.load (.s 47) 1 false),
            .op (some 49) (.len (.s 48)),
            .op (some 50) (.bin .sub (.s 49) (.k (.c TI (1 : Int)))),
            .op (some 51) (.iad (.s 46) (.s 50) [TI]),
            .op (some 52) (.load (.s 51) 1 false),
            .op (some 53) (.bin .add (.s 52) (.k (.c TI (1 : Int)))),
            .op (some 10) (.mov (.s 53))]) .skip))
       i_AllCuts_y7w))))
   i_AllCuts_y6)))
def i_AllCuts_L5 : List (Nat × Md) := [(0, .one .d), (1, .one .d), (6, .one .d), (7, .one .f), (35, .one .d), (36, .one .d), (37, .one .d)]
def i_AllCuts_y4 : TCode :=
  (.reg [.op (some 75) (.mov (.s 7)),
   .op (some 5) (.mov (.s 75))])
def i_AllCuts_y3 : TCode :=
  (.reg [.op (some 32) (.mov (.s 6)),
   .op (some 33) (.bin .add (.s 32) (.k (.c TI (1 : Int)))),
   .op (some 6) (.mov (.s 33))])
def i_AllCuts_b2 : TCode :=
  (.seq (.seq (.reg [.op (some 29) (.mov (.s 6)),
     .op (some 30) (.mov (.s 1)),
     .op (some 31) (.bin .lss (.s 29) (.s 30))])
  (.cond (.s 31) .skip (.exit 0)))
 (.seq (.block 1 (.seq (.reg [.op (some 34) (.bsl 91 [(.sl [TI])] []),
       .op (some 7) (.mov (.s 34))])
    (.seq (.seq (.reg [.op (some 35) (.mov (.s 5)),
         .op (some 36) (.len (.s 35)),
         .op (some 37) (.mov (.k (.c TI (0 : Int))))])
      (.block 2 (.loop i_AllCuts_L5 i_AllCuts_b5)))
     i_AllCuts_y4)))
  i_AllCuts_y3))
def i_AllCuts_L2 : List (Nat × Md) := [(0, .one .d), (1, .one .d), (5, .one .d), (6, .one .d)]
def i_AllCuts_y1 : TCode :=
  (.seq (.reg [.op (some 76) (.mov (.s 5)),
    .op (some 4) (.mov (.s 76))])
 .ret)
def i_AllCuts_c : TCode :=
  (.seq (.reg [.op (some 4) (.mov (.k (.n [(.sl [TI])])))])
 (.seq (.seq (.reg [.op (some 12) (.mov (.s 0)),
      .op (some 13) (.bin .lss (.s 12) (.k (.c TI (1 : Int)))),
      .op (some 14) (.mov (.s 13)),
      .grp 14 false [.op (some 15) (.mov (.s 0)), .op (some 16) (.bin .gtr (.s 15) (.k (.c TI (8 : Int))))] 17 (.s 16),
      .op (some 18) (.mov (.s 17)),
      .grp 18 false [.op (some 19) (.mov (.s 1)), .op (some 20) (.bin .lss (.s 19) (.k (.c TI (1 : Int))))] 21 (.s 20),
      .op (some 22) (.mov (.s 21)),
      .grp 22 false [.op (some 23) (.mov (.s 1)), .op (some 24) (.mov (.s 0)), .op (some 25) (.bin .gtr (.s 23) (.s 24))] 26 (.s 25)])
   (.cond (.s 26) (.seq (.reg [.op (some 4) (.mov (.k (.n [(.sl [TI])])))])
     .ret) .skip))
  (.seq (.reg [.op (some 27) (.build [(.n [TI])] []),
      .op (some 28) (.bsl 91 [(.sl [TI])] [(.s 27)]),
      .op (some 5) (.mov (.s 28))])
   (.seq (.seq (.reg [.op (some 6) (.mov (.k (.c TI (1 : Int))))])
     (.block 0 (.loop i_AllCuts_L2 i_AllCuts_b2)))
    i_AllCuts_y1))))
def i_AllCuts_rs : List (ARv × Md) := [(.t 4, .one .d)]
theorem i_AllCuts_st : compF Try.prog 61 = some (i_AllCuts_c.er, i_AllCuts_rs.map Prod.fst, 77) := by kernel_rfl
def i_AllCuts_Q (K : TRes → Prop) : TPost := TQ 0 0 i_AllCuts_rs K
def i_AllCuts_q1 (K : TRes → Prop) : TPost := Qseq (tawp i_AllCuts_G 0 i_AllCuts_y1 (i_AllCuts_Q K)) (i_AllCuts_Q K)
def i_AllCuts_q2 (K : TRes → Prop) : TPost := Qblk 0 (i_AllCuts_q1 K)
def i_AllCuts_q3 (K : TRes → Prop) : TPost := Qseq (fun s' => Loop i_AllCuts_G 0 i_AllCuts_L2 i_AllCuts_b2 (i_AllCuts_q2 K) (gc 0 i_AllCuts_L2 s')) (i_AllCuts_q2 K)
def i_AllCuts_q4 (K : TRes → Prop) : TPost := Qseq (tawp i_AllCuts_G 0 i_AllCuts_y3 (i_AllCuts_q3 K)) (i_AllCuts_q3 K)
def i_AllCuts_q5 (K : TRes → Prop) : TPost := Qblk 1 (i_AllCuts_q4 K)
def i_AllCuts_q6 (K : TRes → Prop) : TPost := Qseq (tawp i_AllCuts_G 0 i_AllCuts_y4 (i_AllCuts_q5 K)) (i_AllCuts_q5 K)
def i_AllCuts_q7 (K : TRes → Prop) : TPost := Qblk 2 (i_AllCuts_q6 K)
def i_AllCuts_q8 (K : TRes → Prop) : TPost := Qseq (fun s' => Loop i_AllCuts_G 0 i_AllCuts_L5 i_AllCuts_b5 (i_AllCuts_q7 K) (gc 0 i_AllCuts_L5 s')) (i_AllCuts_q7 K)
def i_AllCuts_q9 (K : TRes → Prop) : TPost := Qseq (tawp i_AllCuts_G 0 i_AllCuts_y6 (i_AllCuts_q8 K)) (i_AllCuts_q8 K)
def i_AllCuts_q10 (K : TRes → Prop) : TPost := Qblk 3 (i_AllCuts_q9 K)
def i_AllCuts_q11 (K : TRes → Prop) : TPost := Qblk 4 (i_AllCuts_q10 K)
def i_AllCuts_A8 (K : TRes → Prop) (ops : Int) (stages : Int) (c : Int) (longer : List (List Int)) (x : Int) (rows : List (List Int)) (i : Int) : Prop := Loop i_AllCuts_G 0 i_AllCuts_L8 i_AllCuts_b8 (i_AllCuts_q11 K) ⟨[(0, (.c TI ops)), (1, (.c TI stages)), (6, (.c TI i)), (7, (.r [(.sl [TI])] 0 0 longer.length)), (9, (.p 1 0 0)), (11, (.c TI c)), (35, (.c (.sl [(.sl [TI])]) rows)), (36, (.c TI (rows.length : Int))), (37, (.c TI x))], [(0, (.sl 91 [(.sl [TI])] true longer)), (1, (.box [(.c (.sl [TI]) (gtd ([] : List Int) rows (Int.toNat x)))]))], 2⟩
def i_AllCuts_A7 (K : TRes → Prop) (ops : Int) (stages : Int) (fro : Int) (x : Int) (longer1 : List (List Int)) (rows : List (List Int)) (i : Int) : Prop := tawp i_AllCuts_G 0 i_AllCuts_y7 (i_AllCuts_q10 K) ⟨[(0, (.c TI ops)), (1, (.c TI stages)), (6, (.c TI i)), (7, (.r [(.sl [TI])] 0 0 ((List.take longer1.length longer1).length))), (9, (.p 1 0 0)), (10, (.c TI fro)), (35, (.c (.sl [(.sl [TI])]) rows)), (36, (.c TI (rows.length : Int))), (37, (.c TI x))], [(0, (.sl 91 [(.sl [TI])] true (List.take longer1.length longer1))), (1, (.box [(.c (.sl [TI]) (gtd ([] : List Int) rows (Int.toNat x)))]))], 2⟩
def i_AllCuts_A5 (K : TRes → Prop) (ops : Int) (stages : Int) (x : Int) (longer1 : List (List Int)) (rows : List (List Int)) (i : Int) : Prop := Loop i_AllCuts_G 0 i_AllCuts_L5 i_AllCuts_b5 (i_AllCuts_q7 K) ⟨[(0, (.c TI ops)), (1, (.c TI stages)), (6, (.c TI i)), (7, (.r [(.sl [TI])] 0 0 longer1.length)), (35, (.c (.sl [(.sl [TI])]) rows)), (36, (.c TI (rows.length : Int))), (37, (.c TI x))], [(0, (.sl 91 [(.sl [TI])] true longer1))], 1⟩
def i_AllCuts_A2 (K : TRes → Prop) (ops : Int) (stages : Int) (rows : List (List Int)) (i : Int) : Prop := Loop i_AllCuts_G 0 i_AllCuts_L2 i_AllCuts_b2 (i_AllCuts_q2 K) ⟨[(0, (.c TI ops)), (1, (.c TI stages)), (5, (.c (.sl [(.sl [TI])]) rows)), (6, (.c TI i))], [], 0⟩
theorem i_AllCuts_v8 (K : TRes → Prop) (ops : Int) (stages : Int) (c : Int) (longer : List (List Int)) (x : Int) (rows : List (List Int)) (i : Int) (h :
  (((decide (c ≤ (w64 ((w64 (ops - stages)) + i)))) = true → (((p_lim (α := List Int) (gtd ([] : List Int) rows (Int.toNat x))) ∧ ((((id (α := List Int) (gtd ([] : List Int) rows (Int.toNat x))).length = (id (α := List Int) (gtd ([] : List Int) rows (Int.toNat x))).length ∨ (id (α := List Int) (gtd ([] : List Int) rows (Int.toNat x))).length + 1 ≤ (id (α := List Int) (gtd ([] : List Int) rows (Int.toNat x))).length) ∧ (id (α := List Int) (gtd ([] : List Int) rows (Int.toNat x))).length + 1 ≤ big) ∧ ((longer.length = longer.length ∨ longer.length + 1 ≤ longer.length) ∧ longer.length + 1 ≤ big))) ∧ (i_AllCuts_A8 K ops stages (w64 (c + (1 : Int))) (List.take (longer.length + 1) ((List.take longer.length longer) ++ ([(List.take ((id (α := List Int) (gtd ([] : List Int) rows (Int.toNat x))).length + 1) (List.drop 0 ((List.take ((id (α := List Int) (gtd ([] : List Int) rows (Int.toNat x))).length) (id (α := List Int) (gtd ([] : List Int) rows (Int.toNat x)))) ++ ([c]))))]))) x rows i))) ∧ ((decide (c ≤ (w64 ((w64 (ops - stages)) + i)))) = false → (i_AllCuts_A5 K ops stages (w64 (x + (1 : Int))) (List.take longer.length longer) rows i)))) : i_AllCuts_A8 K ops stages c longer x rows i :=
  Loop.of (by kernel_rfl) h
theorem i_AllCuts_v7 (K : TRes → Prop) (ops : Int) (stages : Int) (fro : Int) (x : Int) (longer1 : List (List Int)) (rows : List (List Int)) (i : Int) (h :
  (i_AllCuts_A8 K ops stages fro (List.take ((List.take longer1.length longer1).length) (List.take longer1.length longer1)) x rows i)) : Hold (i_AllCuts_A7 K ops stages fro x longer1 rows i) :=
  Hold.of (by kernel_rfl) h
theorem i_AllCuts_v5 (K : TRes → Prop) (ops : Int) (stages : Int) (x : Int) (longer1 : List (List Int)) (rows : List (List Int)) (i : Int) (h :
  (((decide (x < (rows.length : Int))) = true → (((0 : Int) ≤ x ∧ Int.toNat x < rows.length) ∧ (((decide (((gtd ([] : List Int) rows (Int.toNat x)).length : Int) > (0 : Int))) = true → (((0 : Int) ≤ w64 (((gtd ([] : List Int) rows (Int.toNat x)).length : Int) - (1 : Int)) ∧ Int.toNat (w64 (((gtd ([] : List Int) rows (Int.toNat x)).length : Int) - (1 : Int))) < (gtd ([] : List Int) rows (Int.toNat x)).length) ∧ (i_AllCuts_A7 K ops stages (w64 ((gtd (0 : Int) (gtd ([] : List Int) rows (Int.toNat x)) (Int.toNat (w64 (((gtd ([] : List Int) rows (Int.toNat x)).length : Int) - (1 : Int))))) + (1 : Int))) x longer1 rows i))) ∧ ((decide (((gtd ([] : List Int) rows (Int.toNat x)).length : Int) > (0 : Int))) = false → (i_AllCuts_A7 K ops stages (1 : Int) x longer1 rows i))))) ∧ ((decide (x < (rows.length : Int))) = false → (i_AllCuts_A2 K ops stages (List.take longer1.length (List.drop 0 longer1)) (w64 (i + (1 : Int))))))) : i_AllCuts_A5 K ops stages x longer1 rows i :=
  Loop.of (by kernel_rfl) h
theorem i_AllCuts_v2 (K : TRes → Prop) (ops : Int) (stages : Int) (rows : List (List Int)) (i : Int) (h :
  (((decide (i < stages)) = true → (i_AllCuts_A5 K ops stages (0 : Int) ([] : List (List Int)) rows i)) ∧ ((decide (i < stages)) = false → K (i_AllCuts_R rows)))) : i_AllCuts_A2 K ops stages rows i :=
  Loop.of (by kernel_rfl) h
theorem i_AllCuts_v0 (K : TRes → Prop) (ops : Int) (stages : Int) (h :
  ((((((decide (ops < (1 : Int))) || (decide (ops > (8 : Int)))) || (decide (stages < (1 : Int)))) || (decide (stages > ops))) = true → K (i_AllCuts_R ([]))) ∧ (((((decide (ops < (1 : Int))) || (decide (ops > (8 : Int)))) || (decide (stages < (1 : Int)))) || (decide (stages > ops))) = false → (i_AllCuts_A2 K ops stages ([[]]) (1 : Int))))) : Hold (tawp i_AllCuts_G (0 + 0) i_AllCuts_c (TQ 0 0 i_AllCuts_rs K) (tstart [(.c TI ops), (.c TI stages)])) :=
  Hold.of (by kernel_rfl) h
theorem i_AllCuts_t (ops : Int) (stages : Int) (r : TRes) (h : Hold (tawp i_AllCuts_G (0 + 0) i_AllCuts_c (TQ 0 0 i_AllCuts_rs fun r' => r' = r) (tstart [(.c TI ops), (.c TI stages)]))) : TCon Try.prog 61 [(.c TI ops), (.c TI stages)] r :=
  tcon_gen (sg := [(.c TI), (.c TI)]) mixed (TOk.cons i_copyInts_ok TOk.nil) i_AllCuts_st (by kernel_rfl) (by kernel_rfl) (by kernel_rfl) (by kernel_rfl) h
theorem i_AllCuts_h : i_AllCuts_C := by
  intro ops stages
  refine tcon_bd rfl fun hb => i_AllCuts_t ops stages _ (i_AllCuts_v0 _ ops stages ?_)
  refine ⟨fun h => R_eq ?_, fun h => ?_⟩
  · unfold m_allCuts
    rw [if_neg]
    simp only [Bool.and_eq_true, m_in_iff]
    simp at h; omega
  simp at h
  have hM : (m_allCuts ops stages) = grow ops stages (stages - 1).toNat := by
    unfold m_allCuts
    rw [if_pos]
    simp only [Bool.and_eq_true, m_in_iff]; omega
  have hw : w64 (ops - stages) = ops - stages := w64_ok (by omega) (by omega)
  have key : i_AllCuts_A2 (fun r' => r' = i_AllCuts_R (m_allCuts ops stages)) ops stages (grow ops stages 0) (((0 : Nat) : Int) + 1) := by
    refine upLoop (stages - 1).toNat (fun j => i_AllCuts_A2 (fun r' => r' = i_AllCuts_R (m_allCuts ops stages)) ops stages (grow ops stages j) ((j : Int) + 1)) ?_ ?_
    · exact i_AllCuts_v2 (fun r' => r' = i_AllCuts_R (m_allCuts ops stages)) ops stages _ _ ⟨fun h => by simp at h; omega, fun _ => R_eq hM.symm⟩
    · intro j hj ih
      have g := grow_at (n := ops) (k := stages) (by omega) (by omega) (by omega) (i := j) (by omega)
      have hlim : w64 (w64 (ops - stages) + ((j : Int) + 1)) = ops - stages + ((j + 1 : Nat) : Int) := by rw [hw, w64_ok (by omega) (by omega)]; omega
      refine i_AllCuts_v2 (fun r' => r' = i_AllCuts_R (m_allCuts ops stages)) ops stages _ _ ⟨fun _ => ?_, fun h => by simp at h; omega⟩
      refine listLoop (grow ops stages j) (fun r x => ∀ longer : List (List Int), longer.length ≤ 8 * x → longer ++ r.flatMap (ext (ops - stages + ((j + 1 : Nat) : Int))) = grow ops stages (j + 1) → i_AllCuts_A5 (fun r' => r' = i_AllCuts_R (m_allCuts ops stages)) ops stages (x : Int) longer (grow ops stages j) ((j : Int) + 1)) ?_ ?_ [] (by simp) rfl
      · intro longer hl he
        refine i_AllCuts_v5 (fun r' => r' = i_AllCuts_R (m_allCuts ops stages)) ops stages _ _ _ _ ⟨fun h => by simp at h, fun _ => ?_⟩
        rw [List.flatMap_nil, List.append_nil] at he
        rw [take_d0, he, w64_ok (by omega) (by omega), show (j : Int) + 1 + 1 = ((j + 1 : Nat) : Int) + 1 by omega]
        exact ih
      · intro x r0 rest hx hlt hg ih2 longer hl he
        have hr := g.2 r0 (List.mem_of_mem_drop (by rw [hx]; exact List.mem_cons_self))
        have g1 := g.1
        have k7 : ∀ fro, fro = fromOf r0 → i_AllCuts_A7 (fun r' => r' = i_AllCuts_R (m_allCuts ops stages)) ops stages fro (x : Int) longer (grow ops stages j) ((j : Int) + 1) := by
          intro fro hf
          refine (i_AllCuts_v7 (fun r' => r' = i_AllCuts_R (m_allCuts ops stages)) ops stages _ _ _ _ _ ?_).h
          simp only [List.take_length]
          have k8 : i_AllCuts_A8 (fun r' => r' = i_AllCuts_R (m_allCuts ops stages)) ops stages (fro + ((0 : Nat) : Int)) (longer ++ (List.range 0).map fun t : Nat => r0 ++ [fro + (t : Int)]) (x : Int) (grow ops stages j) ((j : Int) + 1) := by
            refine upLoop (ops - stages + ((j + 1 : Nat) : Int) + 1 - fro).toNat (fun t => i_AllCuts_A8 (fun r' => r' = i_AllCuts_R (m_allCuts ops stages)) ops stages (fro + (t : Int)) (longer ++ (List.range t).map fun t : Nat => r0 ++ [fro + (t : Int)]) (x : Int) (grow ops stages j) ((j : Int) + 1)) ?_ ?_
            · refine i_AllCuts_v8 (fun r' => r' = i_AllCuts_R (m_allCuts ops stages)) ops stages _ _ _ _ _ ⟨fun h => ?_, fun _ => ?_⟩
              · rw [hlim] at h; simp at h; omega
              · rw [List.take_length, sc1 (by omega)]
                refine ih2 _ ?_ ?_
                · simp; omega
                · rw [← he, List.flatMap_cons, ext, hf]; simp
            · intro t ht ih3
              refine i_AllCuts_v8 (fun r' => r' = i_AllCuts_R (m_allCuts ops stages)) ops stages _ _ _ _ _ ⟨fun _ => ?_, fun h => by rw [hlim] at h; simp at h; omega⟩
              rw [Int.toNat_natCast, hg]
              simp only [id]
              have hp1 : p_lim r0 := by unfold p_lim; rw [sz_ints]; omega
              refine ⟨⟨hp1, ⟨by simp, by rw [big_eq]; omega⟩, ⟨by simp, by rw [big_eq]; simp; omega⟩⟩, ?_⟩
              rw [take_app1, List.drop_zero, take_app1, w64_ok (x := fro + (t : Int) + 1) (by omega) (by omega), show fro + (t : Int) + 1 = fro + ((t + 1 : Nat) : Int) by omega]
              rw [List.range_succ, List.map_append, ← List.append_assoc] at ih3
              exact ih3
          simpa using k8
        refine i_AllCuts_v5 (fun r' => r' = i_AllCuts_R (m_allCuts ops stages)) ops stages _ _ _ _ ⟨fun _ => ?_, fun h => by simp at h; omega⟩
        rw [Int.toNat_natCast, hg]
        refine ⟨⟨by omega, hlt⟩, fun h => ?_, fun h => k7 _ ?_⟩
        · simp at h
          have e : w64 ((r0.length : Int) - 1) = ((r0.length - 1 : Nat) : Int) := by rw [w64_ok (by omega) (by omega)]; omega
          rw [e, Int.toNat_natCast]
          refine ⟨⟨by omega, by omega⟩, k7 _ ?_⟩
          unfold fromOf
          rw [if_pos (by omega)]
        · unfold fromOf
          rw [if_neg (by simp at h; simp [h])]
  exact key

theorem i_AllCuts_ok : TRowOk Try.prog i_AllCuts_row := rowOk fun x _ => i_AllCuts_h x.1 x.2.1

def s_AllCuts_R (t : (List (List Int))) : TRes := ⟨(.c (.sl [(.sl [TI])]) t), [], [], true, []⟩
def s_AllCuts_row : TRow := mkRow 139 [(.c TI), (.c TI)] fun x => (none, s_AllCuts_R (m_allCuts x.1 x.2.1))
def s_AllCuts_C : Prop := ∀ (x0 : Int) (x1 : Int), TCon Try.prog 139 [(.c TI x0), (.c TI x1)] (s_AllCuts_R (m_allCuts x0 x1))

/-! spec.AllCuts -/
def s_AllCuts_G : List TRow := [s_l1In_row]
def s_AllCuts_b2 : TCode :=
  (.seq (.seq (.reg [.op (some 22) (.mov (.s 7)),
     .op (some 23) (.mov (.s 1)),
     .op (some 24) (.bin .lss (.s 22) (.s 23))])
  (.cond (.s 24) .skip (.exit 0)))
 (.seq (.block 1 (.reg [.op (some 27) (.mov (.s 6)),
      .op (some 28) (.mov (.s 7)),
      .op (some 29) (.bsl 3 [TI] [(.s 28)]),
      .op (some 30) (.app (.s 27) (.s 29) 3 [TI]),
      .op (some 6) (.mov (.s 30))]))
  (.reg [.op (some 25) (.mov (.s 7)),
     .op (some 26) (.bin .add (.s 25) (.k (.c TI (1 : Int)))),
     .op (some 7) (.mov (.s 26))])))
def s_AllCuts_L2 : List (Nat × Md) := [(0, .one .d), (1, .one .d), (5, .one .f), (6, .one .f), (7, .one .d)]
def s_AllCuts_b5 : TCode :=
  (.seq (.seq (.reg [.op (some 41) (.mov (.s 8)),
     .op (some 42) (.bin .geq (.s 41) (.k (.c TI (0 : Int)))),
     .op (some 43) (.mov (.s 42)),
     .grp 43 true [.op (some 44) (.mov (.s 6)), .op (some 45) (.mov (.s 8)), .op (some 46) (.iad (.s 44) (.s 45) [TI]), .op (some 47) (.load (.s 46) 1 false), .op (some 48) (.mov (.s 0)), .op (some 49) (.mov (.s 6)), .op (some 50) (.len (.s 49)), .op (some 51) (.bin .sub (.s 48) (.s 50)), .op (some 52) (.mov (.s 8)), .op (some 53) (.bin .add (.s 51) (.s 52)), .op (some 54) (.bin .eql (.s 47) (.s 53))] 55 (.s 54)])
  (.cond (.s 55) .skip (.exit 4)))
 (.block 5 (.reg [.op (some 56) (.mov (.s 8)),
     .op (some 57) (.bin .sub (.s 56) (.k (.c TI (1 : Int)))),
     .op (some 8) (.mov (.s 57))])))
def s_AllCuts_L5 : List (Nat × Md) := [(0, .one .d), (5, .one .f), (6, .one .f), (8, .one .d)]
def s_AllCuts_b6 : TCode :=
  (.seq (.seq (.reg [.op (some 71) (.mov (.s 9)),
     .op (some 72) (.mov (.s 6)),
     .op (some 73) (.len (.s 72)),
     .op (some 74) (.bin .lss (.s 71) (.s 73))])
  (.cond (.s 74) .skip (.exit 6)))
 (.seq (.block 7 (.reg [.op (some 77) (.mov (.s 6)),
      .op (some 78) (.mov (.s 9)),
      .op (some 79) (.mov (.s 6)),
      .op (some 80) (.mov (.s 9)),
      .op (some 81) (.bin .sub (.s 80) (.k (.c TI (1 : Int)))),
      .op (some 82) (.iad (.s 79) (.s 81) [TI]),
      .op (some 83) (.load (.s 82) 1 false),
      .op (some 84) (.bin .add (.s 83) (.k (.c TI (1 : Int)))),
      .op (some 85) (.iad (.s 77) (.s 78) [TI]),
      .op none (.store (.s 85) (.s 84) 1)]))
  (.reg [.op (some 75) (.mov (.s 9)),
     .op (some 76) (.bin .add (.s 75) (.k (.c TI (1 : Int)))),
     .op (some 9) (.mov (.s 76))])))
def s_AllCuts_L6 : List (Nat × Md) := [(0, .one .d), (5, .one .f), (6, .one .f), (9, .one .d)]
def s_AllCuts_y4 : TCode :=
  (.seq (.seq (.reg [.op (some 58) (.mov (.s 8)),
     .op (some 59) (.bin .lss (.s 58) (.k (.c TI (0 : Int))))])
  (.cond (.s 59) (.seq (.reg [.op (some 60) (.mov (.s 5)),
       .op (some 4) (.mov (.s 60))])
    .ret) .skip))
 (.seq (.reg [.op (some 61) (.mov (.s 6)),
     .op (some 62) (.mov (.s 8)),
     .op (some 63) (.mov (.s 6)),
     .op (some 64) (.mov (.s 8)),
     .op (some 65) (.iad (.s 63) (.s 64) [TI]),
     .op (some 66) (.load (.s 65) 1 false),
     .op (some 67) (.bin .add (.s 66) (.k (.c TI (1 : Int)))),
     .op (some 68) (.iad (.s 61) (.s 62) [TI]),
     .op none (.store (.s 68) (.s 67) 1)])
  (.seq (.reg [.op (some 69) (.mov (.s 8)),
      .op (some 70) (.bin .add (.s 69) (.k (.c TI (1 : Int)))),
      .op (some 9) (.mov (.s 70))])
   (.block 6 (.loop s_AllCuts_L6 s_AllCuts_b6)))))
def s_AllCuts_b3 : TCode :=
  (.block 3 (.seq (.reg [.op (some 31) (.mov (.s 5)),
     .op (some 32) (.bsl 3 [TI] []),
     .op (some 33) (.mov (.s 6)),
     .op (some 34) (.app (.s 32) (.s 33) 3 [TI]),
     .op (some 35) (.build [(.n [TI])] [(0, 1, (.s 34))]),
     .op (some 36) (.bsl 91 [(.sl [TI])] [(.s 35)]),
     .op (some 37) (.app (.s 31) (.s 36) 91 [(.sl [TI])]),
     .op (some 5) (.mov (.s 37))])
  (.seq (.reg [.op (some 38) (.mov (.s 6)),
      .op (some 39) (.len (.s 38)),
      .op (some 40) (.bin .sub (.s 39) (.k (.c TI (1 : Int)))),
      .op (some 8) (.mov (.s 40))])
   (.seq (.block 4 (.loop s_AllCuts_L5 s_AllCuts_b5))
    s_AllCuts_y4))))
def s_AllCuts_L3 : List (Nat × Md) := [(0, .one .d), (5, .one .f), (6, .one .f)]
def s_AllCuts_y1 : TCode :=
  (.block 2 (.loop s_AllCuts_L3 s_AllCuts_b3))
def s_AllCuts_c : TCode :=
  (.seq (.reg [.op (some 4) (.mov (.k (.n [(.sl [TI])])))])
 (.seq (.reg [.op (some 10) (.bsl 91 [(.sl [TI])] []),
     .op (some 5) (.mov (.s 10))])
  (.seq (.seq (.reg [.op (some 11) (.mov (.s 0)),
       .op (some 12) (.call 102 [(.s 11), (.k (.c TI (1 : Int))), (.k (.c TI (8 : Int)))]),
       .op (some 13) (.not (.s 12)),
       .op (some 14) (.mov (.s 13)),
       .grp 14 false [.op (some 15) (.mov (.s 1)), .op (some 16) (.mov (.s 0)), .op (some 17) (.call 102 [(.s 15), (.k (.c TI (1 : Int))), (.s 16)]), .op (some 18) (.not (.s 17))] 19 (.s 18)])
    (.cond (.s 19) (.seq (.reg [.op (some 20) (.mov (.s 5)),
         .op (some 4) (.mov (.s 20))])
      .ret) .skip))
   (.seq (.reg [.op (some 21) (.bsl 3 [TI] []),
       .op (some 6) (.mov (.s 21))])
    (.seq (.seq (.reg [.op (some 7) (.mov (.k (.c TI (1 : Int))))])
      (.block 0 (.loop s_AllCuts_L2 s_AllCuts_b2)))
     s_AllCuts_y1)))))
def s_AllCuts_rs : List (ARv × Md) := [(.t 4, .one .d)]
theorem s_AllCuts_st : compF Try.prog 139 = some (s_AllCuts_c.er, s_AllCuts_rs.map Prod.fst, 86) := by kernel_rfl
def s_AllCuts_Q (K : TRes → Prop) : TPost := TQ 0 0 s_AllCuts_rs K
def s_AllCuts_q1 (K : TRes → Prop) : TPost := Qblk 2 (s_AllCuts_Q K)
def s_AllCuts_q2 (K : TRes → Prop) : TPost := Qseq (fun s' => Loop s_AllCuts_G 0 s_AllCuts_L3 s_AllCuts_b3 (s_AllCuts_q1 K) (gc 0 s_AllCuts_L3 s')) (s_AllCuts_q1 K)
def s_AllCuts_q3 (K : TRes → Prop) : TPost := Qblk 3 (s_AllCuts_q2 K)
def s_AllCuts_q4 (K : TRes → Prop) : TPost := Qblk 6 (s_AllCuts_q3 K)
def s_AllCuts_A6 (K : TRes → Prop) (ops : Int) (i1 : Int) (out1 : List (List Int)) (now2 : List Int) : Prop := Loop s_AllCuts_G 0 s_AllCuts_L6 s_AllCuts_b6 (s_AllCuts_q4 K) ⟨[(0, (.c TI ops)), (5, (.r [(.sl [TI])] 0 0 out1.length)), (6, (.r [TI] 1 0 now2.length)), (9, (.c TI i1))], [(0, (.sl 91 [(.sl [TI])] true out1)), (1, (.sl 3 [TI] true now2))], 2⟩
def s_AllCuts_q5 (K : TRes → Prop) : TPost := Qseq (tawp s_AllCuts_G 0 s_AllCuts_y4 (s_AllCuts_q3 K)) (s_AllCuts_q3 K)
def s_AllCuts_q6 (K : TRes → Prop) : TPost := Qblk 4 (s_AllCuts_q5 K)
def s_AllCuts_A5 (K : TRes → Prop) (ops : Int) (k : Int) (out : List (List Int)) (now1 : List Int) : Prop := Loop s_AllCuts_G 0 s_AllCuts_L5 s_AllCuts_b5 (s_AllCuts_q6 K) ⟨[(0, (.c TI ops)), (5, (.r [(.sl [TI])] 0 0 out.length)), (6, (.r [TI] 1 0 now1.length)), (8, (.c TI k))], [(0, (.sl 91 [(.sl [TI])] true out)), (1, (.sl 3 [TI] true now1))], 2⟩
def s_AllCuts_A3 (K : TRes → Prop) (ops : Int) (out2 : List (List Int)) (now3 : List Int) : Prop := Loop s_AllCuts_G 0 s_AllCuts_L3 s_AllCuts_b3 (s_AllCuts_q1 K) ⟨[(0, (.c TI ops)), (5, (.r [(.sl [TI])] 0 0 out2.length)), (6, (.r [TI] 1 0 now3.length))], [(0, (.sl 91 [(.sl [TI])] true out2)), (1, (.sl 3 [TI] true now3))], 2⟩
def s_AllCuts_q7 (K : TRes → Prop) : TPost := Qseq (tawp s_AllCuts_G 0 s_AllCuts_y1 (s_AllCuts_Q K)) (s_AllCuts_Q K)
def s_AllCuts_q8 (K : TRes → Prop) : TPost := Qblk 0 (s_AllCuts_q7 K)
def s_AllCuts_A2 (K : TRes → Prop) (ops : Int) (stages : Int) (i : Int) (now : List Int) : Prop := Loop s_AllCuts_G 0 s_AllCuts_L2 s_AllCuts_b2 (s_AllCuts_q8 K) ⟨[(0, (.c TI ops)), (1, (.c TI stages)), (5, (.r [(.sl [TI])] 0 0 0)), (6, (.r [TI] 1 0 now.length)), (7, (.c TI i))], [(0, (.sl 91 [(.sl [TI])] true ([] : List (List Int)))), (1, (.sl 3 [TI] true now))], 2⟩
theorem s_AllCuts_v6 (K : TRes → Prop) (ops : Int) (i1 : Int) (out1 : List (List Int)) (now2 : List Int) (h :
  (((decide (i1 < ((now2.length : Nat) : Int))) = true → ((((0 : Int) ≤ w64 (i1 - (1 : Int)) ∧ Int.toNat (w64 (i1 - (1 : Int))) < now2.length) ∧ (((0 + (Int.toNat (w64 (i1 - (1 : Int))))) < now2.length) ∧ (((0 : Int) ≤ i1 ∧ Int.toNat i1 < now2.length) ∧ ((0 + (Int.toNat i1)) < now2.length)))) ∧ (s_AllCuts_A6 K ops (w64 (i1 + (1 : Int))) (List.take out1.length out1) (List.take now2.length ((now2).set (0 + (Int.toNat i1)) (w64 ((gtd (0 : Int) now2 (0 + (Int.toNat (w64 (i1 - (1 : Int)))))) + (1 : Int)))))))) ∧ ((decide (i1 < ((now2.length : Nat) : Int))) = false → (s_AllCuts_A3 K ops (List.take out1.length out1) (List.take now2.length now2))))) : s_AllCuts_A6 K ops i1 out1 now2 :=
  Loop.of (by kernel_rfl) h
theorem s_AllCuts_v5 (K : TRes → Prop) (ops : Int) (k : Int) (out : List (List Int)) (now1 : List Int) (h :
  (((decide (k ≥ (0 : Int))) = true → (((0 : Int) ≤ k ∧ Int.toNat k < now1.length) ∧ ((0 + (Int.toNat k)) < now1.length))) ∧ ((((decide (k ≥ (0 : Int))) && ((gtd (0 : Int) now1 (0 + (Int.toNat k))) == (w64 ((w64 (ops - ((now1.length : Nat) : Int))) + k)))) = true → (s_AllCuts_A5 K ops (w64 (k - (1 : Int))) (List.take out.length out) (List.take now1.length now1))) ∧ (((decide (k ≥ (0 : Int))) && ((gtd (0 : Int) now1 (0 + (Int.toNat k))) == (w64 ((w64 (ops - ((now1.length : Nat) : Int))) + k)))) = false → (((decide (k < (0 : Int))) = true → K (s_AllCuts_R (List.take out.length (List.drop 0 out)))) ∧ ((decide (k < (0 : Int))) = false → ((((0 : Int) ≤ k ∧ Int.toNat k < now1.length) ∧ (((0 + (Int.toNat k)) < now1.length) ∧ (((0 : Int) ≤ k ∧ Int.toNat k < now1.length) ∧ ((0 + (Int.toNat k)) < now1.length)))) ∧ (s_AllCuts_A6 K ops (w64 (k + (1 : Int))) (List.take out.length out) (List.take now1.length ((now1).set (0 + (Int.toNat k)) (w64 ((gtd (0 : Int) now1 (0 + (Int.toNat k))) + (1 : Int))))))))))))) : s_AllCuts_A5 K ops k out now1 :=
  Loop.of (by kernel_rfl) h
theorem s_AllCuts_v3 (K : TRes → Prop) (ops : Int) (out2 : List (List Int)) (now3 : List Int) (h :
  ((((0 = 0 ∨ 0 + (List.take now3.length (List.drop 0 now3)).length ≤ 0) ∧ 0 + (List.take now3.length (List.drop 0 now3)).length ≤ big) ∧ ((out2.length = out2.length ∨ out2.length + 1 ≤ out2.length) ∧ out2.length + 1 ≤ big)) ∧ (s_AllCuts_A5 K ops (w64 (((now3.length : Nat) : Int) - (1 : Int))) (List.take (out2.length + 1) ((List.take out2.length out2) ++ ([(List.take (0 + (List.take now3.length (List.drop 0 now3)).length) (List.drop 0 (List.take now3.length (List.drop 0 now3))))]))) (List.take now3.length now3)))) : s_AllCuts_A3 K ops out2 now3 :=
  Loop.of (by kernel_rfl) h
theorem s_AllCuts_v2 (K : TRes → Prop) (ops : Int) (stages : Int) (i : Int) (now : List Int) (h :
  (((decide (i < stages)) = true → (((now.length = now.length ∨ now.length + 1 ≤ now.length) ∧ now.length + 1 ≤ big) ∧ (s_AllCuts_A2 K ops stages (w64 (i + (1 : Int))) (List.take (now.length + 1) ((List.take now.length now) ++ ([i])))))) ∧ ((decide (i < stages)) = false → (s_AllCuts_A3 K ops ([] : List (List Int)) (List.take now.length now))))) : s_AllCuts_A2 K ops stages i now :=
  Loop.of (by kernel_rfl) h
theorem s_AllCuts_v0 (K : TRes → Prop) (ops : Int) (stages : Int) (h :
  ((((!(m_in ops (1 : Int) (8 : Int))) || (!(m_in stages (1 : Int) ops))) = true → K (s_AllCuts_R ([] : List (List Int)))) ∧ (((!(m_in ops (1 : Int) (8 : Int))) || (!(m_in stages (1 : Int) ops))) = false → (s_AllCuts_A2 K ops stages (1 : Int) ([] : List Int))))) : Hold (tawp s_AllCuts_G (0 + 0) s_AllCuts_c (TQ 0 0 s_AllCuts_rs K) (tstart [(.c TI ops), (.c TI stages)])) :=
  Hold.of (by kernel_rfl) h
theorem s_AllCuts_t (ops : Int) (stages : Int) (r : TRes) (h : Hold (tawp s_AllCuts_G (0 + 0) s_AllCuts_c (TQ 0 0 s_AllCuts_rs fun r' => r' = r) (tstart [(.c TI ops), (.c TI stages)]))) : TCon Try.prog 139 [(.c TI ops), (.c TI stages)] r :=
  tcon_gen (sg := [(.c TI), (.c TI)]) mixed (TOk.cons s_l1In_ok TOk.nil) s_AllCuts_st (by kernel_rfl) (by kernel_rfl) (by kernel_rfl) (by kernel_rfl) h
theorem s_AllCuts_h : s_AllCuts_C := by
  intro ops stages
  refine tcon_bd rfl fun hb => s_AllCuts_t ops stages _ (s_AllCuts_v0 _ ops stages ?_)
  have hg0 : ((!(m_in ops 1 8)) || (!(m_in stages 1 ops))) = !(m_in ops 1 8 && m_in stages 1 ops) := by cases m_in ops 1 8 <;> cases m_in stages 1 ops <;> rfl
  rw [hg0]
  refine ⟨fun h => R_eq ?_, fun h => ?_⟩
  · unfold m_allCuts
    simp only [Bool.not_eq_true'] at h
    rw [h]; rfl
  have hb : 1 ≤ ops ∧ ops ≤ 8 ∧ 1 ≤ stages ∧ stages ≤ ops := by
    simp only [Bool.not_eq_false', Bool.and_eq_true, m_in_iff] at h; omega
  obtain ⟨a1, a2, a3⟩ := all_seq (n := ops) (k := stages) (by omega) (by omega) (by omega)
  have a4 := all_len (n := ops) (k := stages) (by omega) (by omega) (by omega)
  have k6 : ∀ (out : List (List Int)) (f i : Nat) (now : List Int), now.length ≤ 8 → i + f = now.length → 1 ≤ i → s_AllCuts_A3 (fun r' => r' = s_AllCuts_R (m_allCuts ops stages)) ops out (fill now i f) → s_AllCuts_A6 (fun r' => r' = s_AllCuts_R (m_allCuts ops stages)) ops (i : Int) out now := by
    intro out f
    induction f with
    | zero =>
      intro i now h1 h2 h3 hA
      refine s_AllCuts_v6 (fun r' => r' = s_AllCuts_R (m_allCuts ops stages)) ops _ _ _ ⟨fun h => by simp at h; omega, fun _ => ?_⟩
      rw [List.take_length, List.take_length]
      exact hA
    | succ f ih =>
      intro i now h1 h2 h3 hA
      refine s_AllCuts_v6 (fun r' => r' = s_AllCuts_R (m_allCuts ops stages)) ops _ _ _ ⟨fun _ => ?_, fun h => by simp at h; omega⟩
      have e : w64 ((i : Int) - 1) = ((i - 1 : Nat) : Int) := by rw [w64_ok (by omega) (by omega)]; omega
      rw [e, sc1 (by omega)]
      simp only [Int.toNat_natCast, Nat.zero_add]
      refine ⟨⟨⟨by omega, by omega⟩, by omega, ⟨by omega, by omega⟩, by omega⟩, ?_⟩
      rw [List.take_length, show List.take now.length (now.set i (w64 (gtd 0 now (i - 1) + 1))) = now.set i (w64 (gtd 0 now (i - 1) + 1)) from List.take_of_length_le (by simp)]
      exact ih (i + 1) _ (by simpa using h1) (by simp; omega) (by omega) hA
  have k5 : ∀ (out : List (List Int)) (x : List Int), x.length ≤ 8 → (fk ops x x.length < 0 → out = (m_allCuts ops stages)) →
      (0 ≤ fk ops x x.length → s_AllCuts_A3 (fun r' => r' = s_AllCuts_R (m_allCuts ops stages)) ops out (fill (x.set (fk ops x x.length).toNat (w64 (gtd 0 x (fk ops x x.length).toNat + 1))) ((fk ops x x.length).toNat + 1) (x.length - ((fk ops x x.length).toNat + 1)))) →
      ∀ j : Nat, j ≤ x.length → fk ops x j = fk ops x x.length → s_AllCuts_A5 (fun r' => r' = s_AllCuts_R (m_allCuts ops stages)) ops ((j : Int) - 1) out x := by
    intro out x h1 hK hA j
    induction j with
    | zero =>
      intro _ hf
      refine s_AllCuts_v5 (fun r' => r' = s_AllCuts_R (m_allCuts ops stages)) ops _ _ _ ⟨fun h => by simp at h, fun h => by simp at h, fun _ => ⟨fun _ => R_eq ?_, fun h => by simp at h⟩⟩
      rw [take_d0]
      exact hK (by rw [← hf]; simp [fk])
    | succ j ih =>
      intro hj hf
      have e0 : ((j + 1 : Nat) : Int) - 1 = j := by omega
      rw [e0]
      refine s_AllCuts_v5 (fun r' => r' = s_AllCuts_R (m_allCuts ops stages)) ops _ _ _ ?_
      simp only [Int.toNat_natCast, Nat.zero_add]
      refine ⟨fun _ => ⟨⟨by omega, by omega⟩, by omega⟩, fun h => ?_, fun h => ⟨fun h => by simp at h; omega, fun _ => ⟨⟨⟨by omega, by omega⟩, by omega, ⟨by omega, by omega⟩, by omega⟩, ?_⟩⟩⟩
      · rw [List.take_length, List.take_length, w64_ok (x := (j : Int) - 1) (by omega) (by omega)]
        simp only [Bool.and_eq_true, beq_iff_eq] at h
        refine ih (by omega) ?_
        rw [← hf, fk, if_pos h.2]
      · have hne : ¬ gtd 0 x j = w64 (w64 (ops - (x.length : Int)) + j) := by
          intro h2
          rw [h2] at h
          simp at h <;> omega
        have hfk : fk ops x x.length = j := by rw [← hf, fk, if_neg hne]
        rw [hfk] at hA
        simp only [Int.toNat_natCast] at hA
        rw [List.take_length, sc1 (by omega), show List.take x.length (x.set j (w64 (gtd 0 x j + 1))) = x.set j (w64 (gtd 0 x j + 1)) from List.take_of_length_le (by simp)]
        exact k6 out (x.length - (j + 1)) (j + 1) _ (by simpa using h1) (by simp; omega) (by omega) (hA (by omega))
  have k3 : ∀ (r : List (List Int)) (out : List (List Int)) (x : List Int), seqOk ops (x :: r) = true → out ++ x :: r = (m_allCuts ops stages) → s_AllCuts_A3 (fun r' => r' = s_AllCuts_R (m_allCuts ops stages)) ops out x := by
    intro r
    induction r with
    | nil =>
      intro out x hs he
      have hx := (a3 x (by rw [← he]; simp)).2
      have hl : out.length + 1 ≤ 100 := by have := congrArg List.length he; simp at this; omega
      refine s_AllCuts_v3 (fun r' => r' = s_AllCuts_R (m_allCuts ops stages)) ops _ _ ?_
      simp only [take_d0, take_z0]
      refine ⟨⟨⟨by simp, by rw [big_eq]; omega⟩, ⟨by simp, by rw [big_eq]; omega⟩⟩, ?_⟩
      rw [take_app1, List.take_length, w64_ok (by omega) (by omega)]
      refine k5 _ x (by omega) (fun _ => he) (fun h => ?_) x.length (Nat.le_refl _) rfl
      simp only [seqOk, nextCut] at hs
      rw [if_neg (by omega)] at hs
      simp at hs
    | cons y r ih =>
      intro out x hs he
      have hx := (a3 x (by rw [← he]; simp)).2
      have hl : out.length + 1 ≤ 100 := by have := congrArg List.length he; simp at this; omega
      simp only [seqOk, Bool.and_eq_true, decide_eq_true_eq] at hs
      refine s_AllCuts_v3 (fun r' => r' = s_AllCuts_R (m_allCuts ops stages)) ops _ _ ?_
      simp only [take_d0, take_z0]
      refine ⟨⟨⟨by simp, by rw [big_eq]; omega⟩, ⟨by simp, by rw [big_eq]; omega⟩⟩, ?_⟩
      rw [take_app1, List.take_length, w64_ok (by omega) (by omega)]
      refine k5 _ x (by omega) (fun h => ?_) (fun h => ?_) x.length (Nat.le_refl _) rfl
      · have h2 := hs.1
        unfold nextCut at h2
        rw [if_pos h] at h2
        simp at h2
      · have h2 := hs.1
        unfold nextCut at h2
        rw [if_neg (by omega)] at h2
        rw [Option.some.inj h2]
        exact ih _ y hs.2 (by rw [← he]; simp)
  have key : s_AllCuts_A2 (fun r' => r' = s_AllCuts_R (m_allCuts ops stages)) ops stages (((0 : Nat) : Int) + 1) ((List.range 0).map fun i : Nat => (i : Int) + 1) := by
    refine upLoop (stages - 1).toNat (fun j => s_AllCuts_A2 (fun r' => r' = s_AllCuts_R (m_allCuts ops stages)) ops stages ((j : Int) + 1) ((List.range j).map fun i : Nat => (i : Int) + 1)) ?_ ?_
    · refine s_AllCuts_v2 (fun r' => r' = s_AllCuts_R (m_allCuts ops stages)) ops stages _ _ ⟨fun h => by simp at h; omega, fun _ => ?_⟩
      rw [List.take_length]
      obtain ⟨x, r, hA⟩ := List.exists_cons_of_length_pos (show 0 < (m_allCuts ops stages).length by omega)
      rw [hA] at a1 a2
      simp only [List.head?_cons, Option.some.injEq] at a2
      rw [← a2]
      exact k3 r [] x a1 hA.symm
    · intro j hj ih
      refine s_AllCuts_v2 (fun r' => r' = s_AllCuts_R (m_allCuts ops stages)) ops stages _ _ ⟨fun _ => ⟨⟨.inl rfl, by rw [big_eq]; simp; omega⟩, ?_⟩, fun h => by simp at h; omega⟩
      rw [take_app1, w64_ok (by omega) (by omega), show (j : Int) + 1 + 1 = ((j + 1 : Nat) : Int) + 1 by omega]
      rw [List.range_succ, List.map_append] at ih
      exact ih
  exact key

theorem s_AllCuts_ok : TRowOk Try.prog s_AllCuts_row := rowOk fun x _ => s_AllCuts_h x.1 x.2.1

def i_BestCuts_R (t : (List Int) × Bool) : TRes := ⟨(.tp [(.c (.sl [TI]) t.1), (.c .bool t.2)]), [], [], true, []⟩
def i_BestCuts_row : TRow := mkRow 59 [(.a [(.sl ctOp)]), (.c TI)] fun x => (none, i_BestCuts_R (m_bestCuts x.1 x.2.1))
def i_BestCuts_C : Prop := ∀ (x0 : List TOp') (x1 : Int), TCon Try.prog 59 [(.a [(.c (.sl ctOp) x0)]), (.c TI x1)] (i_BestCuts_R (m_bestCuts x0 x1))

/-! impl.BestCuts -/
def i_BestCuts_G : List TRow := [i_ModelOk_row, i_AllCuts_row, i_MaxCost_row, i_copyInts_row]
def i_BestCuts_b2 : TCode :=
  (.seq (.reg [.op (some 36) (.bin .lss (.s 35) (.s 34))])
 (.seq (.cond (.s 36) .skip (.exit 0))
  (.seq (.block 1 (.seq (.reg [.op (some 37) (.iad (.s 33) (.s 35) [(.sl [TI])]),
        .op (some 38) (.load (.s 37) 1 true),
        .op (some 9) (.new 91 [(.n [TI])]),
        .op none (.store (.s 9) (.s 38) 1)])
     (.seq (.draw [.op (some 39) (.load (.s 2) 1 true),
         .op (some 40) (.fad (.s 9) 0),
         .op (some 41) (.load (.s 40) 1 false),
         .op (some 42) (.call 50 [(.s 39), (.s 41)]),
         .op (some 43) (.load (.s 2) 1 true),
         .op (some 44) (.mov (.s 7)),
         .op (some 45) (.call 50 [(.s 43), (.s 44)]),
         .op (some 46) (.bin .lss (.s 42) (.s 45))] [(3, 4)])
      (.cond (.s 46) (.reg [.op (some 47) (.fad (.s 9) 0),
          .op (some 48) (.load (.s 47) 1 false),
          .op (some 7) (.mov (.s 48))]) .skip))))
   (.reg [.op (some 49) (.bin .add (.s 35) (.k (.c TI (1 : Int)))),
      .op (some 35) (.mov (.s 49))]))))
def i_BestCuts_L2 : List (Nat × Md) := [(2, .b [.d]), (7, .one .d), (33, .one .d), (34, .one .d), (35, .one .d)]
def i_BestCuts_y1 : TCode :=
  (.seq (.reg [.op (some 50) (.mov (.s 7)),
    .op (some 51) (.call 121 [(.s 50)]),
    .op (some 4) (.mov (.s 51)),
    .op (some 5) (.mov (.k (.c .bool true)))])
 .ret)
def i_BestCuts_c : TCode :=
  (.seq (.reg [.op (some 2) (.box 66 (.s 0) 1),
    .op (some 4) (.mov (.k (.n [TI]))),
    .op (some 5) (.mov (.k (.c .bool false)))])
 (.seq (.seq (.reg [.op (some 10) (.load (.s 2) 1 true),
      .op (some 11) (.call 133 [(.s 10)]),
      .op (some 12) (.not (.s 11)),
      .op (some 13) (.mov (.s 12)),
      .grp 13 false [.op (some 14) (.mov (.s 1)), .op (some 15) (.bin .lss (.s 14) (.k (.c TI (1 : Int))))] 16 (.s 15),
      .op (some 17) (.mov (.s 16)),
      .grp 17 false [.op (some 18) (.mov (.s 1)), .op (some 19) (.fad (.s 2) 0), .op (some 20) (.load (.s 19) 1 false), .op (some 21) (.len (.s 20)), .op (some 22) (.bin .gtr (.s 18) (.s 21))] 23 (.s 22)])
   (.cond (.s 23) (.seq (.reg [.op (some 4) (.mov (.k (.n [TI]))),
        .op (some 5) (.mov (.k (.c .bool false)))])
     .ret) .skip))
  (.seq (.reg [.op (some 24) (.fad (.s 2) 0),
      .op (some 25) (.load (.s 24) 1 false),
      .op (some 26) (.len (.s 25)),
      .op (some 27) (.mov (.s 1)),
      .op (some 28) (.call 61 [(.s 26), (.s 27)]),
      .op (some 6) (.mov (.s 28))])
   (.seq (.reg [.op (some 29) (.mov (.s 6)),
       .op (some 30) (.iad (.s 29) (.k (.c TI (0 : Int))) [(.sl [TI])]),
       .op (some 31) (.fad (.s 30) 0),
       .op (some 32) (.load (.s 31) 1 false),
       .op (some 7) (.mov (.s 32))])
    (.seq (.seq (.reg [.op (some 33) (.mov (.s 6)),
         .op (some 34) (.len (.s 33)),
         .op (some 35) (.mov (.k (.c TI (0 : Int))))])
      (.block 0 (.loop i_BestCuts_L2 i_BestCuts_b2)))
     i_BestCuts_y1)))))
def i_BestCuts_rs : List (ARv × Md) := [(.t 4, .one .d), (.t 5, .one .d)]
theorem i_BestCuts_st : compF Try.prog 59 = some (i_BestCuts_c.er, i_BestCuts_rs.map Prod.fst, 52) := by kernel_rfl
def i_BestCuts_Q (K : TRes → Prop) : TPost := TQ 0 0 i_BestCuts_rs K
def i_BestCuts_q1 (K : TRes → Prop) : TPost := Qseq (tawp i_BestCuts_G 0 i_BestCuts_y1 (i_BestCuts_Q K)) (i_BestCuts_Q K)
def i_BestCuts_q2 (K : TRes → Prop) : TPost := Qblk 0 (i_BestCuts_q1 K)
def i_BestCuts_A2 (K : TRes → Prop) (m : List TOp') (stages : Int) (x : Int) (best : List Int) : Prop := Loop i_BestCuts_G 0 i_BestCuts_L2 i_BestCuts_b2 (i_BestCuts_q2 K) ⟨[(2, (.p 0 0 0)), (7, (.c (.sl [TI]) best)), (33, (.c (.sl [(.sl [TI])]) (m_allCuts (m.length : Int) stages))), (34, (.c TI ((m_allCuts (m.length : Int) stages).length : Int))), (35, (.c TI x))], [(0, (.box [(.c (.sl ctOp) m)]))], 1⟩
theorem i_BestCuts_v2 (K : TRes → Prop) (m : List TOp') (stages : Int) (x : Int) (best : List Int) (h :
  (((decide (x < ((m_allCuts (m.length : Int) stages).length : Int))) = true → (((0 : Int) ≤ x ∧ Int.toNat x < (m_allCuts (m.length : Int) stages).length) ∧ (((decide ((m_maxCost m (gtd ([] : List Int) (m_allCuts (m.length : Int) stages) (Int.toNat x))) < (m_maxCost m best))) = true → (i_BestCuts_A2 K m stages (w64 (x + (1 : Int))) (gtd ([] : List Int) (m_allCuts (m.length : Int) stages) (Int.toNat x)))) ∧ ((decide ((m_maxCost m (gtd ([] : List Int) (m_allCuts (m.length : Int) stages) (Int.toNat x))) < (m_maxCost m best))) = false → (i_BestCuts_A2 K m stages (w64 (x + (1 : Int))) best))))) ∧ ((decide (x < ((m_allCuts (m.length : Int) stages).length : Int))) = false → ((p_lim (α := List Int) best) ∧ K (i_BestCuts_R ((List.take ((id (α := List Int) best).length) (List.drop 0 (id (α := List Int) best))), true)))))) : i_BestCuts_A2 K m stages x best :=
  Loop.of (by kernel_rfl) h
theorem i_BestCuts_v0 (K : TRes → Prop) (m : List TOp') (stages : Int) (h :
  (((((!(m_modelOk m)) || (decide (stages < (1 : Int)))) || (decide (stages > (m.length : Int)))) = true → K (i_BestCuts_R ([], false))) ∧ ((((!(m_modelOk m)) || (decide (stages < (1 : Int)))) || (decide (stages > (m.length : Int)))) = false → (((0 : Int) ≤ (0 : Int) ∧ Int.toNat (0 : Int) < (m_allCuts (m.length : Int) stages).length) ∧ (i_BestCuts_A2 K m stages (0 : Int) (gtd ([] : List Int) (m_allCuts (m.length : Int) stages) (Int.toNat (0 : Int)))))))) : Hold (tawp i_BestCuts_G (0 + 0) i_BestCuts_c (TQ 0 0 i_BestCuts_rs K) (tstart [(.a [(.c (.sl ctOp) m)]), (.c TI stages)])) :=
  Hold.of (by kernel_rfl) h
theorem i_BestCuts_t (m : List TOp') (stages : Int) (r : TRes) (h : Hold (tawp i_BestCuts_G (0 + 0) i_BestCuts_c (TQ 0 0 i_BestCuts_rs fun r' => r' = r) (tstart [(.a [(.c (.sl ctOp) m)]), (.c TI stages)]))) : TCon Try.prog 59 [(.a [(.c (.sl ctOp) m)]), (.c TI stages)] r :=
  tcon_gen (sg := [(.a [(.sl ctOp)]), (.c TI)]) mixed (TOk.cons i_ModelOk_ok (TOk.cons i_AllCuts_ok (TOk.cons i_MaxCost_ok (TOk.cons i_copyInts_ok TOk.nil)))) i_BestCuts_st (by kernel_rfl) (by kernel_rfl) (by kernel_rfl) (by kernel_rfl) h
theorem i_BestCuts_h : i_BestCuts_C := by
  intro m stages
  refine tcon_bd rfl fun hb => i_BestCuts_t m stages _ (i_BestCuts_v0 _ m stages ?_)
  have hl_m_0 : (m).length ≤ 9223372036854775807 := hb.1.1.1
  have hg0 : (((!(m_modelOk m)) || (decide (stages < 1))) || (decide (stages > m.length))) = !(m_modelOk m && m_in stages 1 m.length) := by
    cases m_modelOk m
    · rfl
    · rw [Bool.eq_iff_iff]; simp [m_in] <;> omega
  rw [hg0]
  refine ⟨fun h => R_eq ?_, fun h => ?_⟩
  · unfold m_bestCuts
    simp only [Bool.not_eq_true'] at h
    rw [h]; rfl
  simp only [Bool.not_eq_false'] at h
  have hM : (m_bestCuts m stages) = (bestGo (m_maxCost m) (m_allCuts m.length stages) (gtd [] (m_allCuts m.length stages) 0), true) := by unfold m_bestCuts; rw [if_pos h]
  simp only [Bool.and_eq_true, m_in_iff] at h
  have hm := mod_len h.1
  have hl := all_len (n := m.length) (k := stages) (by omega) (by omega) (by omega)
  have hs := (all_seq (n := m.length) (k := stages) (by omega) (by omega) (by omega)).2.2
  refine ⟨⟨by omega, by simp; omega⟩, ?_⟩
  refine listLoop (m_allCuts m.length stages) (fun r x => ∀ b : List Int, b ∈ m_allCuts m.length stages → bestGo (m_maxCost m) r b = bestGo (m_maxCost m) (m_allCuts m.length stages) (gtd [] (m_allCuts m.length stages) 0) → i_BestCuts_A2 (fun r' => r' = i_BestCuts_R (m_bestCuts m stages)) m stages (x : Int) b) ?_ ?_ (gtd [] (m_allCuts m.length stages) 0) (gtd_mem (by omega) _) rfl
  · intro b hb he
    have hb2 := (hs b hb).2
    refine i_BestCuts_v2 (fun r' => r' = i_BestCuts_R (m_bestCuts m stages)) m stages _ _ ⟨fun h => by simp at h, fun _ => ⟨by unfold p_lim; rw [sz_ints]; omega, R_eq ?_⟩⟩
    rw [hM, ← he]; simp [bestGo]
  · intro k x r hk hlt hg ih b hb he
    have hx : x ∈ m_allCuts m.length stages := List.mem_of_mem_drop (by rw [hk]; exact List.mem_cons_self)
    rw [bestGo] at he
    refine i_BestCuts_v2 (fun r' => r' = i_BestCuts_R (m_bestCuts m stages)) m stages _ _ ⟨fun _ => ?_, fun h => by simp at h; omega⟩
    rw [Int.toNat_natCast, hg, sc1 (by omega)]
    refine ⟨⟨by omega, hlt⟩, fun h => ih _ hx ?_, fun h => ih _ hb ?_⟩
    · rw [if_pos (by simpa using h)] at he; exact he
    · rw [if_neg (by simpa using h)] at he; exact he

theorem i_BestCuts_ok : TRowOk Try.prog i_BestCuts_row := rowOk fun x _ => i_BestCuts_h x.1 x.2.1

def s_BestCuts_R (t : (List Int) × Bool) : TRes := ⟨(.tp [(.c (.sl [TI]) t.1), (.c .bool t.2)]), [], [], true, []⟩
def s_BestCuts_row : TRow := mkRow 64 [(.a [(.sl ctOp)]), (.c TI)] fun x => (none, s_BestCuts_R (m_bestCuts x.1 x.2.1))
def s_BestCuts_C : Prop := ∀ (x0 : List TOp') (x1 : Int), TCon Try.prog 64 [(.a [(.c (.sl ctOp) x0)]), (.c TI x1)] (s_BestCuts_R (m_bestCuts x0 x1))

/-! spec.BestCuts -/
def s_BestCuts_G : List TRow := [s_ModelOk_row, s_l1In_row, s_AllCuts_row, s_MaxCost_row]
def s_BestCuts_b2 : TCode :=
  (.seq (.seq (.reg [.op (some 30) (.mov (.s 8)),
     .op (some 31) (.mov (.s 6)),
     .op (some 32) (.len (.s 31)),
     .op (some 33) (.bin .lss (.s 30) (.s 32))])
  (.cond (.s 33) .skip (.exit 0)))
 (.seq (.block 1 (.seq (.draw [.op (some 36) (.load (.s 2) 1 true),
       .op (some 37) (.mov (.s 6)),
       .op (some 38) (.mov (.s 8)),
       .op (some 39) (.iad (.s 37) (.s 38) [(.sl [TI])]),
       .op (some 40) (.fad (.s 39) 0),
       .op (some 41) (.load (.s 40) 1 false),
       .op (some 42) (.call 62 [(.s 36), (.s 41)]),
       .op (some 43) (.load (.s 2) 1 true),
       .op (some 44) (.mov (.s 7)),
       .op (some 45) (.call 62 [(.s 43), (.s 44)]),
       .op (some 46) (.bin .lss (.s 42) (.s 45))] [(6, 7)])
    (.cond (.s 46) (.reg [.op (some 47) (.mov (.s 6)),
        .op (some 48) (.mov (.s 8)),
        .op (some 49) (.iad (.s 47) (.s 48) [(.sl [TI])]),
        .op (some 50) (.fad (.s 49) 0),
        .op (some 51) (.load (.s 50) 1 false),
        .op (some 7) (.mov (.s 51))]) .skip)))
  (.reg [.op (some 34) (.mov (.s 8)),
     .op (some 35) (.bin .add (.s 34) (.k (.c TI (1 : Int)))),
     .op (some 8) (.mov (.s 35))])))
def s_BestCuts_L2 : List (Nat × Md) := [(2, .b [.d]), (6, .one .d), (7, .one .d), (8, .one .d)]
def s_BestCuts_y1 : TCode :=
  (.seq (.reg [.op (some 52) (.bsl 3 [TI] []),
    .op (some 53) (.mov (.s 7)),
    .op (some 54) (.app (.s 52) (.s 53) 3 [TI]),
    .op (some 4) (.mov (.s 54)),
    .op (some 5) (.mov (.k (.c .bool true)))])
 .ret)
def s_BestCuts_c : TCode :=
  (.seq (.reg [.op (some 2) (.box 66 (.s 0) 1),
    .op (some 4) (.mov (.k (.n [TI]))),
    .op (some 5) (.mov (.k (.c .bool false)))])
 (.seq (.seq (.reg [.op (some 9) (.load (.s 2) 1 true),
      .op (some 10) (.call 60 [(.s 9)]),
      .op (some 11) (.not (.s 10)),
      .op (some 12) (.mov (.s 11)),
      .grp 12 false [.op (some 13) (.mov (.s 1)), .op (some 14) (.fad (.s 2) 0), .op (some 15) (.load (.s 14) 1 false), .op (some 16) (.len (.s 15)), .op (some 17) (.call 102 [(.s 13), (.k (.c TI (1 : Int))), (.s 16)]), .op (some 18) (.not (.s 17))] 19 (.s 18)])
   (.cond (.s 19) (.seq (.reg [.op (some 20) (.bsl 3 [TI] []),
        .op (some 4) (.mov (.s 20)),
        .op (some 5) (.mov (.k (.c .bool false)))])
     .ret) .skip))
  (.seq (.reg [.op (some 21) (.fad (.s 2) 0),
      .op (some 22) (.load (.s 21) 1 false),
      .op (some 23) (.len (.s 22)),
      .op (some 24) (.mov (.s 1)),
      .op (some 25) (.call 139 [(.s 23), (.s 24)]),
      .op (some 6) (.mov (.s 25))])
   (.seq (.reg [.op (some 26) (.mov (.s 6)),
       .op (some 27) (.iad (.s 26) (.k (.c TI (0 : Int))) [(.sl [TI])]),
       .op (some 28) (.fad (.s 27) 0),
       .op (some 29) (.load (.s 28) 1 false),
       .op (some 7) (.mov (.s 29))])
    (.seq (.seq (.reg [.op (some 8) (.mov (.k (.c TI (1 : Int))))])
      (.block 0 (.loop s_BestCuts_L2 s_BestCuts_b2)))
     s_BestCuts_y1)))))
def s_BestCuts_rs : List (ARv × Md) := [(.t 4, .one .d), (.t 5, .one .d)]
theorem s_BestCuts_st : compF Try.prog 64 = some (s_BestCuts_c.er, s_BestCuts_rs.map Prod.fst, 55) := by kernel_rfl
def s_BestCuts_Q (K : TRes → Prop) : TPost := TQ 0 0 s_BestCuts_rs K
def s_BestCuts_q1 (K : TRes → Prop) : TPost := Qseq (tawp s_BestCuts_G 0 s_BestCuts_y1 (s_BestCuts_Q K)) (s_BestCuts_Q K)
def s_BestCuts_q2 (K : TRes → Prop) : TPost := Qblk 0 (s_BestCuts_q1 K)
def s_BestCuts_A2 (K : TRes → Prop) (m : List TOp') (stages : Int) (best : List Int) (i : Int) : Prop := Loop s_BestCuts_G 0 s_BestCuts_L2 s_BestCuts_b2 (s_BestCuts_q2 K) ⟨[(2, (.p 0 0 0)), (6, (.c (.sl [(.sl [TI])]) (m_allCuts (m.length : Int) stages))), (7, (.c (.sl [TI]) best)), (8, (.c TI i))], [(0, (.box [(.c (.sl ctOp) m)]))], 1⟩
theorem s_BestCuts_v2 (K : TRes → Prop) (m : List TOp') (stages : Int) (best : List Int) (i : Int) (h :
  (((decide (i < ((m_allCuts (m.length : Int) stages).length : Int))) = true → (((0 : Int) ≤ i ∧ Int.toNat i < (m_allCuts (m.length : Int) stages).length) ∧ (((decide ((m_maxCost m (gtd ([] : List Int) (m_allCuts (m.length : Int) stages) (Int.toNat i))) < (m_maxCost m best))) = true → (((0 : Int) ≤ i ∧ Int.toNat i < (m_allCuts (m.length : Int) stages).length) ∧ (s_BestCuts_A2 K m stages (gtd ([] : List Int) (m_allCuts (m.length : Int) stages) (Int.toNat i)) (w64 (i + (1 : Int)))))) ∧ ((decide ((m_maxCost m (gtd ([] : List Int) (m_allCuts (m.length : Int) stages) (Int.toNat i))) < (m_maxCost m best))) = false → (s_BestCuts_A2 K m stages best (w64 (i + (1 : Int)))))))) ∧ ((decide (i < ((m_allCuts (m.length : Int) stages).length : Int))) = false → (((0 = 0 ∨ 0 + best.length ≤ 0) ∧ 0 + best.length ≤ big) ∧ K (s_BestCuts_R ((List.take (0 + best.length) (List.drop 0 (best : List Int))), true)))))) : s_BestCuts_A2 K m stages best i :=
  Loop.of (by kernel_rfl) h
theorem s_BestCuts_v0 (K : TRes → Prop) (m : List TOp') (stages : Int) (h :
  ((((!(m_modelOk m)) || (!(m_in stages (1 : Int) (m.length : Int)))) = true → K (s_BestCuts_R (([] : List Int), false))) ∧ (((!(m_modelOk m)) || (!(m_in stages (1 : Int) (m.length : Int)))) = false → (((0 : Int) ≤ (0 : Int) ∧ Int.toNat (0 : Int) < (m_allCuts (m.length : Int) stages).length) ∧ (s_BestCuts_A2 K m stages (gtd ([] : List Int) (m_allCuts (m.length : Int) stages) (Int.toNat (0 : Int))) (1 : Int)))))) : Hold (tawp s_BestCuts_G (0 + 0) s_BestCuts_c (TQ 0 0 s_BestCuts_rs K) (tstart [(.a [(.c (.sl ctOp) m)]), (.c TI stages)])) :=
  Hold.of (by kernel_rfl) h
theorem s_BestCuts_t (m : List TOp') (stages : Int) (r : TRes) (h : Hold (tawp s_BestCuts_G (0 + 0) s_BestCuts_c (TQ 0 0 s_BestCuts_rs fun r' => r' = r) (tstart [(.a [(.c (.sl ctOp) m)]), (.c TI stages)]))) : TCon Try.prog 64 [(.a [(.c (.sl ctOp) m)]), (.c TI stages)] r :=
  tcon_gen (sg := [(.a [(.sl ctOp)]), (.c TI)]) mixed (TOk.cons s_ModelOk_ok (TOk.cons s_l1In_ok (TOk.cons s_AllCuts_ok (TOk.cons s_MaxCost_ok TOk.nil)))) s_BestCuts_st (by kernel_rfl) (by kernel_rfl) (by kernel_rfl) (by kernel_rfl) h
theorem s_BestCuts_h : s_BestCuts_C := by
  intro m stages
  refine tcon_bd rfl fun hb => s_BestCuts_t m stages _ (s_BestCuts_v0 _ m stages ?_)
  have hl_m_0 : (m).length ≤ 9223372036854775807 := hb.1.1.1
  have hg0 : ((!(m_modelOk m)) || (!(m_in stages 1 m.length))) = !(m_modelOk m && m_in stages 1 m.length) := by cases m_modelOk m <;> rfl
  rw [hg0]
  refine ⟨fun h => R_eq ?_, fun h => ?_⟩
  · unfold m_bestCuts
    simp only [Bool.not_eq_true'] at h
    rw [h]; rfl
  simp only [Bool.not_eq_false'] at h
  have hM : (m_bestCuts m stages) = (bestGo (m_maxCost m) (m_allCuts m.length stages) (gtd [] (m_allCuts m.length stages) 0), true) := by unfold m_bestCuts; rw [if_pos h]
  simp only [Bool.and_eq_true, m_in_iff] at h
  have hm := mod_len h.1
  have hl := all_len (n := m.length) (k := stages) (by omega) (by omega) (by omega)
  have hs := (all_seq (n := m.length) (k := stages) (by omega) (by omega) (by omega)).2.2
  refine ⟨⟨by omega, by simp; omega⟩, ?_⟩
  have key : ∀ (k : Nat) (r : List (List Int)) (b : List Int), (m_allCuts m.length stages).drop k = r → k ≤ (m_allCuts m.length stages).length → b ∈ m_allCuts m.length stages → bestGo (m_maxCost m) r b = bestGo (m_maxCost m) (m_allCuts m.length stages) (gtd [] (m_allCuts m.length stages) 0) → s_BestCuts_A2 (fun r' => r' = s_BestCuts_R (m_bestCuts m stages)) m stages b (k : Int) := by
    intro k r
    induction r generalizing k with
    | nil =>
      intro b hk hkl hb he
      have hb2 := (hs b hb).2
      have hk2 : (m_allCuts m.length stages).length ≤ k := by simpa using hk
      refine s_BestCuts_v2 (fun r' => r' = s_BestCuts_R (m_bestCuts m stages)) m stages _ _ ⟨fun h => by simp at h; omega, fun _ => ⟨⟨by simp, by rw [big_eq]; omega⟩, R_eq ?_⟩⟩
      rw [hM, ← he]; simp [bestGo]
    | cons x r ih =>
      intro b hk hkl hb he
      have hx : x ∈ m_allCuts m.length stages := List.mem_of_mem_drop (by rw [hk]; exact List.mem_cons_self)
      have hlt : k < (m_allCuts m.length stages).length := by
        have := congrArg List.length hk; simp at this; omega
      have hd : (m_allCuts m.length stages).drop (k + 1) = r := by rw [← List.drop_drop, hk]; rfl
      have hg := gtd_drop hk []
      rw [bestGo] at he
      refine s_BestCuts_v2 (fun r' => r' = s_BestCuts_R (m_bestCuts m stages)) m stages _ _ ⟨fun _ => ?_, fun h => by simp at h; omega⟩
      rw [Int.toNat_natCast, hg, sc1 (by omega)]
      refine ⟨⟨by omega, hlt⟩, fun h => ⟨⟨by omega, hlt⟩, ih (k + 1) x hd (by omega) hx ?_⟩, fun h => ih (k + 1) b hd (by omega) hb ?_⟩
      · rw [if_pos (by simpa using h)] at he; exact he
      · rw [if_neg (by simpa using h)] at he; exact he
  refine key 1 _ _ rfl (by omega) (gtd_mem (by omega) _) ?_
  cases hA : m_allCuts m.length stages with
  | nil => rw [hA] at hl; simp at hl
  | cons x r => rw [gtd_zero, bestGo, if_neg (by omega)]; rfl

theorem s_BestCuts_ok : TRowOk Try.prog s_BestCuts_row := rowOk fun x _ => s_BestCuts_h x.1 x.2.1

end
end Go.Proofs.Ytephkbajoofeoaa.Am
