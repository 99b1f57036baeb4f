/-
  MODELS: operations, models, cuts, plans, stages, pipes: what is asked of them.
-/
import Derived.Test.YtephkbajoofeoaaM1
namespace Go.Proofs.Ytephkbajoofeoaa.Am
set_option linter.unusedSimpArgs false
set_option linter.unusedVariables false
open Go Sz
abbrev TModel := List TOp'
abbrev TStage := Int × List TIns × List TOp' × Bool × Bool × List TSaved × List (List Int) × List Int × List Int × List Int × List Int × List (List Int) × Int × Bool
abbrev TConfig := List TOp' × List Int × Int × List Bool × List Int × List Int
abbrev TPipe := List TPair × List TStage × List TQueue × List TQueue
abbrev TMat := Int × Int × List Int
abbrev dOp : TOp' := (0, 0, 0, [])
abbrev dIns : TIns := (0, 0)
abbrev dSaved : TSaved := (0, [])
abbrev dPair : TPair := ([], [])
abbrev dQueue : TQueue := (0, [])
abbrev dStage : TStage := (0, [], [], false, false, [], [], [], [], [], [], [], 0, false)
abbrev ctIns : List CT := [.int .i64, .int .i64]
abbrev ctItem : List CT := [.int .i64, .sl [.int .i64]]
abbrev ctOp : List CT := [.int .i64, .int .i64, .int .i64, .sl [.int .i64]]
abbrev ctSaved : List CT := [.int .i64, .sl [.sl [.int .i64]]]
abbrev ctPair : List CT := [.sl [.int .i64], .sl [.int .i64]]
abbrev ctQueue : List CT := [.int .i64, .sl ctItem]
abbrev ctGrads : List CT := [.sl [.sl [.int .i64]], .int .i64, .bool]
abbrev ctSim : List CT := [.int .i64, .sl [.int .i64], .sl [.int .i64], .bool]
abbrev ctStage : List CT := [.int .i64, .sl ctIns, .sl ctOp, .bool, .bool, .sl ctSaved, .sl [.sl [.int .i64]], .sl [.int .i64], .sl [.int .i64], .sl [.int .i64], .sl [.int .i64], .sl [.sl [.int .i64]], .int .i64, .bool]
abbrev ctConfig : List CT := [.sl ctOp, .sl [.int .i64], .int .i64, .sl [.bool], .sl [.int .i64], .sl [.int .i64]]
abbrev ctPipe : List CT := [.sl ctPair, .sl ctStage, .sl ctQueue, .sl ctQueue]
set_option synthInstance.maxSize 2000
set_option synthInstance.maxHeartbeats 200000
instance : DecidableEq TOp' := inferInstance
instance : DecidableEq TSaved := inferInstance
instance : DecidableEq TQueue := inferInstance
abbrev TSt4 := List Int × List Int × List Int × List Int × TGrads
abbrev TSt3 := List TSaved × List (List Int) × TSt4
abbrev TSt2 := List TOp' × Bool × Bool × TSt3
instance : DecidableEq TGrads := inferInstance
instance : DecidableEq TSt4 := inferInstance
instance : DecidableEq TSt3 := inferInstance
instance : DecidableEq TSt2 := inferInstance
instance : DecidableEq TStage := (inferInstance : DecidableEq (Int × List TIns × TSt2))
instance : DecidableEq TConfig := inferInstance
instance : DecidableEq TPipe := inferInstance
instance : Sz TStage := inferInstance
instance : Sz TConfig := inferInstance
instance : Sz TPipe := inferInstance
/-! the fields of a stage -/
abbrev sPc (s : TStage) := s.1
abbrev sPlan (s : TStage) := s.2.1
abbrev sOps (s : TStage) := s.2.2.1
abbrev sLast (s : TStage) := s.2.2.2.1
abbrev sRedo (s : TStage) := s.2.2.2.2.1
abbrev sStash (s : TStage) := s.2.2.2.2.2.1
abbrev sFull (s : TStage) := s.2.2.2.2.2.2.1
abbrev sX (s : TStage) := s.2.2.2.2.2.2.2.1
abbrev sY (s : TStage) := s.2.2.2.2.2.2.2.2.1
abbrev sG (s : TStage) := s.2.2.2.2.2.2.2.2.2.1
abbrev sD (s : TStage) := s.2.2.2.2.2.2.2.2.2.2.1
abbrev sRows (s : TStage) := s.2.2.2.2.2.2.2.2.2.2.2.1
abbrev sLoss (s : TStage) := s.2.2.2.2.2.2.2.2.2.2.2.2.1
abbrev sSat (s : TStage) := s.2.2.2.2.2.2.2.2.2.2.2.2.2
abbrev sSum (s : TStage) : TGrads := (sRows s, sLoss s, sSat s)
/-! the fields of a config -/
abbrev cModel (c : TConfig) := c.1
abbrev cCuts (c : TConfig) := c.2.1
abbrev cDs (c : TConfig) := c.2.2.1
abbrev cRedo (c : TConfig) := c.2.2.2.1
abbrev cCaps (c : TConfig) := c.2.2.2.2.1
abbrev cLimits (c : TConfig) := c.2.2.2.2.2
/-! the fields of a pipe -/
abbrev pBatch (p : TPipe) := p.1
abbrev pStages (p : TPipe) := p.2.1
abbrev pActs (p : TPipe) := p.2.2.1
abbrev pBacks (p : TPipe) := p.2.2.2

abbrev m_modelOf (s : TStage) : TModel := s.2.2.1
def m_vecOf (v : List Int) (n : Int) : Bool := m_vecOk v && ((v.length : Int) == n)
def m_hand (v : List Int) (n : Int) : Bool := ((v.length : Int) == 0) || m_vecOf v n
def m_queueWords (q : TQueue) : Int := if m_queueOk q then w64 ((q.2.map fun x => (x.2.length : Int)).sum) else 0
def m_findGo : List TSaved → Int → Int → Int
  | [], _, _ => -1
  | x :: r, m, k => if x.1 = m then k else m_findGo r m (k + 1)
def m_findSaved (l : List TSaved) (m : Int) : Int := m_findGo l m 0

def m_opSize (o : TOp') : Int :=
  if m_in o.2.1 1 6 && m_in o.2.2.1 1 6 then (if o.1 = 1 ∨ o.1 = 5 then o.2.1 * o.2.2.1 else if o.1 = 2 then o.2.1 else if o.1 = 4 then 1 else 0) else 0
def m_opOk (o : TOp') : Bool :=
  m_in o.1 1 5 && m_in o.2.1 1 6 && m_in o.2.2.1 1 6 && (o.1 == 1 || o.2.1 == o.2.2.1) && ((o.2.2.2.length : Int) == m_opSize o) && m_allFix o.2.2.2
def m_opCost (o : TOp') : Int := if m_opOk o then (if o.1 = 1 ∨ o.1 = 5 then o.2.1 * o.2.2.1 else if o.1 = 4 then o.2.1 else 0) else 0
def chainGo : Option Int → List TOp' → Bool
  | _, [] => true
  | p, o :: r => m_opOk o && (match p with | none => true | some q => q == o.2.1) && chainGo (some o.2.2.1) r
def m_modelOk (m : TModel) : Bool := m_in m.length 1 8 && chainGo none m
def m_inOf (m : TModel) : Int := if m_modelOk m then (gtd dOp m 0).2.1 else 0
def m_outOf (m : TModel) : Int := if m_modelOk m then (gtd dOp m (m.length - 1)).2.2.1 else 0
def m_pairOk (m : TModel) (p : TPair) : Bool := m_modelOk m && m_vecOf p.1 (m_inOf m) && m_vecOf p.2 (m_outOf m)
def m_batchOk (m : TModel) (b : List TPair) : Bool := m_modelOk m && m_in b.length 1 5 && b.all (m_pairOk m)

def cutsGo (n : Int) : Option Int → List Int → Bool
  | _, [] => true
  | p, c :: r => m_in c 1 n && (match p with | none => true | some q => decide (q < c)) && cutsGo n (some c) r
def m_cutsOk (m : TModel) (cuts : List Int) : Bool := m_modelOk m && cutsGo (m.length - 1) none cuts
def m_stageRange (m : TModel) (cuts : List Int) (s : Int) : Int × Int :=
  if m_cutsOk m cuts && m_in s 0 cuts.length then (if 0 < s then gtd 0 cuts (s.toNat - 1) else 0, if s < cuts.length then gtd 0 cuts s.toNat else m.length) else (0, 0)
/-- elements from 'a' to just ahead of 'b' -/
def slice {α : Type} (l : List α) (a b : Int) : List α := (l.drop a.toNat).take (b.toNat - a.toNat)
def m_stageCost (m : TModel) (cuts : List Int) (s : Int) : Int :=
  let r := m_stageRange m cuts s
  w64 ((slice m r.1 r.2).map m_opCost).sum
def maxGo (f : Nat → Int) : Nat → Int → Int
  | 0, x => x
  | k + 1, x => let y := maxGo f k x; if y < f k then f k else y
def m_maxCost (m : TModel) (cuts : List Int) : Int := if m_cutsOk m cuts then maxGo (fun s => m_stageCost m cuts s) (cuts.length + 1) 0 else 0
def m_stagesOf (c : TConfig) : Int := if m_cutsOk c.1 c.2.1 then w64 (c.2.1.length + 1) else 0
def m_fullWords (c : TConfig) (s : Int) : Int :=
  let r := m_stageRange c.1 c.2.1 s
  w64 (((slice c.1 r.1 r.2).map fun o => o.2.1).sum + if r.1 < r.2 then (gtd dOp c.1 (r.2.toNat - 1)).2.2.1 else 0)
def m_redoOf (c : TConfig) (s : Int) : Bool := decide (0 ≤ s) && decide (s < c.2.2.2.1.length) && gtd false c.2.2.2.1 s.toNat
def m_sizesOf (c : TConfig) (s : Int) : Int × Int :=
  let r := m_stageRange c.1 c.2.1 s
  if r.1 = r.2 then (0, 0) else ((gtd dOp c.1 r.1.toNat).2.1, (gtd dOp c.1 (r.2.toNat - 1)).2.2.1)
def m_savedWords (c : TConfig) (s : Int) : Int := if m_redoOf c s then (m_sizesOf c s).1 else m_fullWords c s
def iMin (a b : Int) : Int := if b < a then b else a
def iMax (a b : Int) : Int := if a < b then b else a
def m_peakOf (c : TConfig) (s micro : Int) : Int :=
  if m_in s 0 (m_stagesOf c - 1) && m_in micro 1 5 && decide (m_stagesOf c ≤ 4) then
    (let k := if c.2.2.1 = 2 then iMin micro (m_stagesOf c - s) else micro
     let z := m_sizesOf c s
     w64 (w64 (w64 (k * m_savedWords c s) + iMax z.1 z.2) + if m_redoOf c s then m_fullWords c s else 0))
  else 0
def m_capsOk (c : TConfig) : Bool := (c.2.2.2.2.1.length == c.2.1.length) && c.2.2.2.2.1.all fun n => m_in n 1 5
def m_limitsGo (c : TConfig) (micro : Int) : List Int → Int → Bool
  | [], _ => true
  | n :: r, s => m_in n (m_peakOf c s micro) 100000 && m_limitsGo c micro r (s + 1)
def m_limitsOk (c : TConfig) (micro : Int) : Bool := ((c.2.2.2.2.2.length : Int) == m_stagesOf c) && m_limitsGo c micro c.2.2.2.2.2 0
def m_admit (c : TConfig) (b : List TPair) : Int :=
  if !m_modelOk c.1 then 1 else if !m_batchOk c.1 b then 2 else if m_stagesOf c = 0 ∨ 4 < m_stagesOf c then 3 else if !m_in c.2.2.1 1 2 then 4
  else if (c.2.2.2.1.length : Int) ≠ m_stagesOf c then 5 else if !m_capsOk c then 6 else if !m_limitsOk c b.length then 7 else 0

def m_planned (st s mi : Int) : Bool := m_in st 1 4 && m_in s 0 (st - 1) && m_in mi 1 5
def m_warmUp (ds st s mi : Int) : Int := if m_planned st s mi then (if ds = 2 then iMin mi (st - 1 - s) else mi) else 0
def m_ahead (st s m : Int) : List TIns := (if 0 < s then [(1, m)] else []) ++ [(2, m)] ++ (if s < st - 1 then [(3, m)] else [])
def m_backOf (st s m : Int) (redo : Bool) : List TIns := (if s < st - 1 then [(4, m)] else []) ++ (if redo then [(5, m)] else []) ++ [(6, m)] ++ (if 0 < s then [(7, m)] else [])
def m_plan (ds st s mi : Int) (redo : Bool) : List TIns :=
  if m_in ds 1 2 && m_planned st s mi then
    (let w := (m_warmUp ds st s mi).toNat
     ((List.range w).flatMap fun m : Nat => m_ahead st s (m : Int)) ++ ((List.range mi.toNat).flatMap fun m : Nat => (if (m : Int) + w < mi then m_ahead st s ((m : Int) + w) else []) ++ m_backOf st s (m : Int) redo) ++ [(8, 0)])
  else []
def totGo (c : TConfig) (micro : Int) : Nat → Int
  | 0 => 0
  | k + 1 => totGo c micro k + (m_plan c.2.2.1 (m_stagesOf c) k micro (gtd false c.2.2.2.1 k)).length
def m_total (c : TConfig) (micro : Int) : Int := totGo c micro (min c.2.2.2.1.length (m_stagesOf c).toNat)

def m_wordsIn (l : List (List Int)) : Int := w64 ((l.map fun r => (r.length : Int)).sum)
def m_ledger (s : TStage) : Int :=
  w64 (s.2.2.2.2.2.2.2.1.length + s.2.2.2.2.2.2.2.2.1.length + s.2.2.2.2.2.2.2.2.2.1.length + s.2.2.2.2.2.2.2.2.2.2.1.length + (s.2.2.2.2.2.2.1.map fun r => (r.length : Int)).sum + (s.2.2.2.2.2.1.map fun x => (x.2.map fun r => (r.length : Int)).sum).sum)
def gradsGo : List TOp' → List (List Int) → Bool
  | o :: os, r :: rs => (r.length == o.2.2.2.length) && gradsGo os rs
  | _, _ => true
def m_gradsFit (m : TModel) (rows : List (List Int)) : Bool := (rows.length == m.length) && gradsGo m rows
/-- how many go into operation k, or, behind the last one, come out of it -/
def sizeAt (ops : List TOp') (k : Nat) : Int := if k < ops.length then (gtd dOp ops k).2.1 else (gtd dOp ops (ops.length - 1)).2.2.1
def goesGo (ops : List TOp') : Nat → List (List Int) → Bool
  | _, [] => true
  | k, r :: rs => m_vecOf r (sizeAt ops k) && goesGo ops (k + 1) rs
/-- the first n rows are right vectors of what goes into the operations, and behind these comes out of the last -/
def m_goesIn (ops : List TOp') (rows : List (List Int)) (n : Int) : Bool := goesGo ops 0 (rows.take n.toNat)
def p_goesIn (ops : List TOp') (rows : List (List Int)) (n : Int) : Prop := 1 ≤ ops.length ∧ 0 ≤ n ∧ n ≤ rows.length
def m_kept (s : TStage) : Int := if s.2.2.2.2.1 then 1 else s.2.2.1.length + 1
def m_savedOk (s : TStage) (x : TSaved) : Bool := ((x.2.length : Int) == m_kept s) && m_goesIn s.2.2.1 x.2 (m_kept s)
def m_stageOk (s : TStage) : Bool :=
  m_modelOk s.2.2.1 && m_in s.1 0 s.2.1.length && m_gradsFit s.2.2.1 s.2.2.2.2.2.2.2.2.2.2.2.1 && s.2.2.2.2.2.1.all (m_savedOk s) &&
    (m_hand s.2.2.2.2.2.2.2.1 (m_inOf s.2.2.1) && m_hand s.2.2.2.2.2.2.2.2.2.2.1 (m_inOf s.2.2.1) && m_hand s.2.2.2.2.2.2.2.2.1 (m_outOf s.2.2.1) && m_hand s.2.2.2.2.2.2.2.2.2.1 (m_outOf s.2.2.1))

def m_left1 (s : TStage) : Int := s.2.1.length - iMin (iMax s.1 0) s.2.1.length
def m_left (p : TPipe) : Int := w64 (p.2.1.map m_left1).sum
def m_done (p : TPipe) : Bool := decide (0 < p.2.1.length) && (m_left p == 0)
def m_next1 (s : TStage) : TIns := if m_in s.1 0 (s.2.1.length - 1) then gtd dIns s.2.1 s.1.toNat else (0, 0)
def m_next (p : TPipe) (s : Int) : TIns := if m_in s 0 (p.2.1.length - 1) then m_next1 (gtd dStage p.2.1 s.toNat) else (0, 0)
def m_past1 (s : TStage) : Bool := decide ((s.2.1.length : Int) ≤ s.1)
def m_pastFlush (p : TPipe) : Int := w64 (p.2.1.map fun s => if m_past1 s then (1 : Int) else 0).sum
def m_within1 (q : TQueue) : Bool := decide ((q.2.length : Int) ≤ q.1)
def m_queuesWithin (p : TPipe) : Bool := p.2.2.1.all m_within1 && p.2.2.2.all m_within1
def m_wordsHeld (p : TPipe) : Int := w64 ((p.2.1.map m_ledger).sum + (p.2.2.1.map m_queueWords).sum + (p.2.2.2.map m_queueWords).sum)
def m_pairVec (x : TPair) : Bool := m_vecOk x.1 && m_vecOk x.2
def pipeGo (nb : Int) : List TStage → Bool
  | [] => true
  | s :: r => m_stageOk s && (s.2.2.2.1 == decide (r.length = 0)) && s.2.1.all (fun x => m_in x.2 0 (nb - 1)) && pipeGo nb r
def m_pipeOk (p : TPipe) : Bool :=
  m_in p.2.1.length 1 4 && (p.2.2.1.length + 1 == p.2.1.length) && (p.2.2.2.length + 1 == p.2.1.length) && m_in p.1.length 1 5 &&
    (p.1.all m_pairVec && (p.2.2.1.all m_queueOk && p.2.2.2.all m_queueOk) && pipeGo p.1.length p.2.1)
def m_hasRoom (q : TQueue) : Bool := decide ((q.2.length : Int) < q.1)
def m_atEnd (s : TStage) : Bool := decide ((s.2.1.length : Int) - 1 ≤ s.1)
def m_all (p : TPipe) : Bool := p.2.1.all m_atEnd
def m_enabledK (p : TPipe) (s kind : Int) : Bool :=
  let n : Int := p.2.1.length
  if kind = 1 then decide (0 < s) && decide (0 < (gtd dQueue p.2.2.1 (s.toNat - 1)).2.length)
  else if kind = 3 then decide (s < n - 1) && m_hasRoom (gtd dQueue p.2.2.1 s.toNat)
  else if kind = 4 then decide (s < n - 1) && decide (0 < (gtd dQueue p.2.2.2 s.toNat).2.length)
  else if kind = 7 then decide (0 < s) && m_hasRoom (gtd dQueue p.2.2.2 (s.toNat - 1))
  else if kind = 2 ∨ kind = 5 ∨ kind = 6 then true
  else if kind = 8 then m_all p else false
def m_enabled (p : TPipe) (s : Int) : Bool := m_pipeOk p && m_in s 0 (p.2.1.length - 1) && m_enabledK p s (m_next p s).1
def withinGo (c : TConfig) (nb : Int) : List TStage → Int → Bool
  | [], _ => true
  | x :: r, s => decide (m_ledger x ≤ iMin (m_peakOf c s nb) (gtd 0 c.2.2.2.2.2 s.toNat)) && withinGo c nb r (s + 1)
def m_withinLimits (c : TConfig) (p : TPipe) : Bool :=
  ((p.2.1.length : Int) == m_stagesOf c) && ((c.2.2.2.2.2.length : Int) == m_stagesOf c) && withinGo c p.1.length p.2.1 0
end Go.Proofs.Ytephkbajoofeoaa.Am
