/-
  MODELS: numbers with a point, vectors, matrices, operations ahead and back, gradients, queues, stages, pipes gone on with.
-/
import Derived.Test.YtephkbajoofeoaaM3
namespace Go.Proofs.Ytephkbajoofeoaa.Am
set_option linter.unusedSimpArgs false
set_option linter.unusedVariables false
open Go Sz

def m_clamp (x : Int) : Int := iMin (iMax x (-2147483647)) 2147483647
def m_settle (x : Int) : Int × Bool := (m_clamp x, !m_fixOk x)
def m_fixAdd (a b : Int) : Int × Bool := m_settle (m_clamp a + m_clamp b)
def m_fixSub (a b : Int) : Int × Bool := m_settle (m_clamp a - m_clamp b)
def m_fixMul (a b : Int) : Int × Bool := m_settle (Int.fdiv (m_clamp a * m_clamp b) 65536)
def m_relu (a : Int) : Int := iMax 0 (m_clamp a)
def m_floor (a b : Int) : Int := Int.fdiv a b
def p_floor (a b : Int) : Prop := -4611686018427387904 ≤ a ∧ a ≤ 4611686018427387904 ∧ b = 65536

def m_pair2 (a b : List Int) : Bool := m_vecOk a && m_vecOf b a.length
/-- two rows gone through by a step, aa far aa both go -/
def vz (f : Int → Int → Int × Bool) : List Int → List Int → List Int × Bool
  | a :: aa, b :: bb => ((f a b).1 :: (vz f aa bb).1, (f a b).2 || (vz f aa bb).2)
  | _, _ => ([], false)
def m_vecAdd (a b : List Int) : List Int × Bool := if m_pair2 a b then vz m_fixAdd a b else ([], false)
def m_vecSub (a b : List Int) : List Int × Bool := if m_pair2 a b then vz m_fixSub a b else ([], false)
def v1 (f : Int → Int × Bool) : List Int → List Int × Bool
  | a :: aa => ((f a).1 :: (v1 f aa).1, (f a).2 || (v1 f aa).2)
  | [] => ([], false)
def m_vecScale (c : Int) (a : List Int) : List Int × Bool := if m_fixOk c && m_vecOk a then v1 (m_fixMul c) a else ([], false)
def dotGo : List Int → List Int → Int → Int × Bool
  | a :: aa, b :: bb, z => ((dotGo aa bb (m_fixAdd z (m_fixMul a b).1).1).1, (m_fixMul a b).2 || (m_fixAdd z (m_fixMul a b).1).2 || (dotGo aa bb (m_fixAdd z (m_fixMul a b).1).1).2)
  | _, _, z => (z, false)
def m_vecDot (a b : List Int) : Int × Bool := if m_pair2 a b then dotGo a b 0 else (0, false)
def m_vecRelu (a : List Int) : List Int := if m_vecOk a then a.map m_relu else []
def m_vecMask (x d : List Int) : List Int := if m_pair2 x d then List.zipWith (fun a b => if 0 < a then b else 0) x d else []

def m_matOk (m : TMat) : Bool := m_in m.1 1 6 && m_in m.2.1 1 6 && ((m.2.2.length : Int) == m.1 * m.2.1) && m_allFix m.2.2
def m_row (m : TMat) (i : Int) : List Int := slice m.2.2 (i * m.2.1) ((i + 1) * m.2.1)
def m_col (m : TMat) (k : Int) : List Int := (List.range m.1.toNat).map fun i : Nat => gtd 0 m.2.2 ((i : Int) * m.2.1 + k).toNat
def m_matVec (m : TMat) (x : List Int) : List Int × Bool :=
  if m_matOk m && m_vecOf x m.2.1 then
    ((List.range m.1.toNat).map fun i : Nat => (m_vecDot (m_row m i) x).1, (List.range m.1.toNat).any fun i : Nat => (m_vecDot (m_row m i) x).2) else ([], false)
def m_matBack (m : TMat) (d : List Int) : List Int × Bool :=
  if m_matOk m && m_vecOf d m.1 then
    ((List.range m.2.1.toNat).map fun k : Nat => (m_vecDot (m_col m k) d).1, (List.range m.2.1.toNat).any fun k : Nat => (m_vecDot (m_col m k) d).2) else ([], false)
def m_transpose (m : TMat) : TMat := if m_matOk m then (m.2.1, m.1, (List.range m.2.1.toNat).flatMap fun k : Nat => m_col m k) else (0, 0, [])
def m_outer (d x : List Int) : TMat × Bool :=
  if m_vecOk d && m_vecOk x then (((d.length : Int), (x.length : Int), d.flatMap fun a => x.map fun b => (m_fixMul a b).1), d.any fun a => x.any fun b => (m_fixMul a b).2) else ((0, 0, []), false)

def m_matOf (o : TOp') : TMat := (o.2.2.1, o.2.1, o.2.2.2)
def m_opForward (o : TOp') (x : List Int) : List Int × Bool :=
  if m_opOk o && m_vecOf x o.2.1 then
    (if o.1 = 1 then m_matVec (m_matOf o) x else if o.1 = 2 then m_vecAdd x o.2.2.2 else if o.1 = 4 then m_vecScale (gtd 0 o.2.2.2 0) x
     else if o.1 = 5 then ((m_vecAdd x (m_matVec (m_matOf o) x).1).1, (m_matVec (m_matOf o) x).2 || (m_vecAdd x (m_matVec (m_matOf o) x).1).2) else (m_vecRelu x, false))
  else ([], false)
def m_opBackward (o : TOp') (x d : List Int) : List Int × List Int × Bool :=
  if m_opOk o && m_vecOf x o.2.1 && m_vecOf d o.2.2.1 then
    (if o.1 = 1 then ((m_matBack (m_matOf o) d).1, (m_outer d x).1.2.2, (m_matBack (m_matOf o) d).2 || (m_outer d x).2)
     else if o.1 = 2 then (d, d, false)
     else if o.1 = 4 then ((m_vecScale (gtd 0 o.2.2.2 0) d).1, [(m_vecDot d x).1], (m_vecScale (gtd 0 o.2.2.2 0) d).2 || (m_vecDot d x).2)
     else if o.1 = 5 then ((m_vecAdd d (m_matBack (m_matOf o) d).1).1, (m_outer d x).1.2.2, (m_matBack (m_matOf o) d).2 || (m_outer d x).2 || (m_vecAdd d (m_matBack (m_matOf o) d).1).2)
     else (m_vecMask x d, [], false))
  else ([], [], false)

def m_lossOf (y t : List Int) : Int × Bool := (Int.fdiv (m_vecDot (m_vecSub y t).1 (m_vecSub y t).1).1 2, (m_vecSub y t).2 || (m_vecDot (m_vecSub y t).1 (m_vecSub y t).1).2)

abbrev dGrads : TGrads := ([], 0, false)
def m_zeroGrads (m : TModel) : TGrads := if m_modelOk m then (m.map fun o => List.replicate o.2.2.2.length 0, 0, false) else dGrads
def m_l7Add (a b : List Int) : List Int × Bool := vz m_fixAdd a b
def rowsAdd : List (List Int) → List (List Int) → List (List Int) × Bool
  | a :: aa, b :: bb => ((vz m_fixAdd a b).1 :: (rowsAdd aa bb).1, (vz m_fixAdd a b).2 || (rowsAdd aa bb).2)
  | _, _ => ([], false)
def m_addGrads (a b : TGrads) : TGrads := ((rowsAdd a.1 b.1).1, (m_fixAdd a.2.1 b.2.1).1, a.2.2 || b.2.2 || (rowsAdd a.1 b.1).2 || (m_fixAdd a.2.1 b.2.1).2)
def inputsGo : List TOp' → List Int → List (List Int) × Bool
  | [], x => ([x], false)
  | o :: r, x => (x :: (inputsGo r (m_opForward o x).1).1, (m_opForward o x).2 || (inputsGo r (m_opForward o x).1).2)
def m_inputs (m : TModel) (x : List Int) : List (List Int) × Bool := if m_modelOk m && m_vecOf x (m_inOf m) then inputsGo m x else ([], false)
def m_back : List TOp' → List (List Int) → List Int → List (List Int) × List Int × Bool
  | o :: os, r :: rs, d =>
    ((m_opBackward o r (m_back os rs d).2.1).2.1 :: (m_back os rs d).1, (m_opBackward o r (m_back os rs d).2.1).1, (m_opBackward o r (m_back os rs d).2.1).2.2 || (m_back os rs d).2.2)
  | _, _, d => ([], d, false)
def p_back (ops : List TOp') (rows : List (List Int)) (_ : List Int) : Prop := ops.length ≤ rows.length ∧ ops.length ≤ big
def m_microGrads (m : TModel) (p : TPair) : TGrads :=
  if m_pairOk m p then
    (let i := inputsGo m p.1
     let y := gtd [] i.1 m.length
     ((m_back m i.1 (m_vecSub y p.2).1).1, (m_lossOf y p.2).1, i.2 || (m_lossOf y p.2).2 || (m_vecSub y p.2).2 || (m_back m i.1 (m_vecSub y p.2).1).2.2))
  else dGrads
def seqGo (m : TModel) : List TPair → TGrads → TGrads
  | [], g => g
  | p :: r, g => seqGo m r (m_addGrads g (m_microGrads m p))
def m_sequential (m : TModel) (b : List TPair) : TGrads := if m_batchOk m b then seqGo m b (m_zeroGrads m) else dGrads

def m_push (q : TQueue) (x : TItem) : TQueue × Bool := if m_queueOk q && m_itemOk x && decide ((q.2.length : Int) < q.1) then ((q.1, q.2 ++ [x]), true) else (q, false)
def m_pop (q : TQueue) : TQueue × TItem × Bool := if m_queueOk q && decide (0 < q.2.length) then ((q.1, q.2.tail), gtd (0, []) q.2 0, true) else (q, (0, []), false)

def m_stageNew (ops : TModel) (plan : List TIns) (last redo : Bool) : TStage :=
  if m_modelOk ops then (0, plan, ops, last, redo, [], [], [], [], [], [], (m_zeroGrads ops).1, 0, false) else dStage
def fwdOk (s : TStage) (m : Int) (x t : List Int) : Bool :=
  m_stageOk s && m_vecOf x (m_inOf (sOps s)) && decide (m_findSaved (sStash s) m < 0) && (!sLast s || m_vecOf t (m_outOf (sOps s)))
def m_stageFwd (s : TStage) (m : Int) (x t : List Int) : TStage :=
  if fwdOk s m x t then
    (let i := inputsGo (sOps s) x
     let y := gtd [] i.1 (sOps s).length
     let kept := if sRedo s then i.1.take 1 else i.1
     let l := m_lossOf y t
     let a := m_fixAdd (sLoss s) l.1
     (sPc s, sPlan s, sOps s, sLast s, sRedo s, sStash s ++ [(m, kept)], sFull s, [], (if sLast s then sY s else y), sG s, sD s, sRows s, (if sLast s then a.1 else sLoss s), sSat s || i.2 || (sLast s && (l.2 || a.2))))
  else s
def m_stageRedo (s : TStage) (m : Int) : TStage :=
  let k := m_findSaved (sStash s) m
  if m_stageOk s && decide (0 ≤ k) then
    (sPc s, sPlan s, sOps s, sLast s, sRedo s, sStash s, (inputsGo (sOps s) (gtd [] (gtd dSaved (sStash s) k.toNat).2 0)).1, sX s, sY s, sG s, sD s, sRows s, sLoss s, sSat s)
  else s
def bwdRows (s : TStage) (k : Int) : List (List Int) := if sRedo s then sFull s else (gtd dSaved (sStash s) k.toNat).2
def bwdD (s : TStage) (k : Int) (t : List Int) : List Int × Bool := if sLast s then m_vecSub (gtd [] (bwdRows s k) (sOps s).length) t else (sG s, false)
def bwdOk (s : TStage) (k : Int) (t : List Int) : Bool :=
  m_stageOk s && decide (0 ≤ k) && ((bwdRows s k).length == (sOps s).length + 1) && m_goesIn (sOps s) (bwdRows s k) (sOps s).length && m_vecOf (bwdD s k t).1 (m_outOf (sOps s))
def m_stageBwd (s : TStage) (m : Int) (t : List Int) : TStage :=
  let k := m_findSaved (sStash s) m
  if bwdOk s k t then
    (let g := m_back (sOps s) (bwdRows s k) (bwdD s k t).1
     let z := m_addGrads (sSum s) (g.1, 0, (bwdD s k t).2 || g.2.2)
     (sPc s, sPlan s, sOps s, sLast s, sRedo s, (sStash s).take k.toNat ++ (sStash s).drop (k.toNat + 1), [], sX s, sY s, [], g.2.1, z.1, z.2.1, z.2.2))
  else s

def stagesGo (c : TConfig) (n micro : Int) : Nat → List TStage
  | 0 => []
  | k + 1 => stagesGo c n micro k ++ [m_stageNew (slice (cModel c) (m_stageRange (cModel c) (cCuts c) k).1 (m_stageRange (cModel c) (cCuts c) k).2) (m_plan (cDs c) n k micro (gtd false (cRedo c) k)) (decide ((k : Int) = n - 1)) (gtd false (cRedo c) k)]
abbrev dPipe : TPipe := ([], [], [], [])
def m_pipeNew (c : TConfig) (b : List TPair) : TPipe :=
  if m_admit c b = 0 then (b, stagesGo c (m_stagesOf c) b.length (m_stagesOf c).toNat, (cCaps c).map fun n => (n, []), (cCaps c).map fun n => (n, [])) else dPipe

/-! a turn -/
def setX (s : TStage) (v : List Int) : TStage := (sPc s, sPlan s, sOps s, sLast s, sRedo s, sStash s, sFull s, v, sY s, sG s, sD s, sRows s, sLoss s, sSat s)
def setY (s : TStage) (v : List Int) : TStage := (sPc s, sPlan s, sOps s, sLast s, sRedo s, sStash s, sFull s, sX s, v, sG s, sD s, sRows s, sLoss s, sSat s)
def setG (s : TStage) (v : List Int) : TStage := (sPc s, sPlan s, sOps s, sLast s, sRedo s, sStash s, sFull s, sX s, sY s, v, sD s, sRows s, sLoss s, sSat s)
def setD (s : TStage) (v : List Int) : TStage := (sPc s, sPlan s, sOps s, sLast s, sRedo s, sStash s, sFull s, sX s, sY s, sG s, v, sRows s, sLoss s, sSat s)
def setPc (s : TStage) (v : Int) : TStage := (v, sPlan s, sOps s, sLast s, sRedo s, sStash s, sFull s, sX s, sY s, sG s, sD s, sRows s, sLoss s, sSat s)
def pickIns (p : TPipe) (k : Nat) (x : TStage) (i : TIns) : TStage × List TQueue × List TQueue :=
  let a := pActs p; let b := pBacks p
  let pr := gtd dPair (pBatch p) i.2.toNat
  if i.1 = 1 then (setX x (m_pop (gtd dQueue a (k - 1))).2.1.2, a.set (k - 1) (m_pop (gtd dQueue a (k - 1))).1, b)
  else if i.1 = 2 then (m_stageFwd x i.2 (if k = 0 then pr.1 else sX x) pr.2, a, b)
  else if i.1 = 3 then (setY x [], a.set k (m_push (gtd dQueue a k) (i.2, sY x)).1, b)
  else if i.1 = 4 then (setG x (m_pop (gtd dQueue b k)).2.1.2, a, b.set k (m_pop (gtd dQueue b k)).1)
  else if i.1 = 5 then (m_stageRedo x i.2, a, b)
  else if i.1 = 6 then ((if k = 0 then setD (m_stageBwd x i.2 pr.2) [] else m_stageBwd x i.2 pr.2), a, b)
  else if i.1 = 7 then (setD x [], a, b.set (k - 1) (m_push (gtd dQueue b (k - 1)) (i.2, sD x)).1)
  else (x, a, b)
def m_pick (p : TPipe) (s : Int) : TPipe :=
  if m_enabled p s then
    (let x := gtd dStage (pStages p) s.toNat
     let y := pickIns p s.toNat x (m_next p s)
     (pBatch p, (pStages p).set s.toNat (setPc y.1 (sPc x + 1)), y.2.1, y.2.2))
  else p

def runGo : List Int → TPipe → TPipe
  | [], p => p
  | s :: r, p => runGo r (m_pick p s)
def m_run (p : TPipe) (picks : List Int) : TPipe := runGo (picks.take 2000) p
def roundsGo (k : Nat) : Nat → TPipe → TPipe
  | 0, p => p
  | n + 1, p => roundsGo (k + 1) n (m_pick p (Int.tmod (k : Int) (pStages p).length))
def m_rounds (p : TPipe) (n : Int) : TPipe := if 0 < (pStages p).length then roundsGo 0 (min n.toNat 2000) p else p
def m_resultOf (p : TPipe) : TGrads := if m_done p then ((pStages p).flatMap sRows, (((pStages p).map sLoss).getLast?).getD 0, (pStages p).any sSat) else dGrads
def m_enabledAll (p : TPipe) : List Int := ((List.range (pStages p).length).map fun k : Nat => (k : Int)).filter fun s => m_enabled p s
def m_stashCounts (p : TPipe) : List Int := (pStages p).map fun s => ((sStash s).length : Int)
end Go.Proofs.Ytephkbajoofeoaa.Am
