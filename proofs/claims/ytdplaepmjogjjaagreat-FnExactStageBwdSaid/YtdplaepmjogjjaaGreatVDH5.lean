/- -/
import Derived.Test.YtdplaepmjogjjaaGreatVDH4
import Derived.Test.YtdplaepmjogjjaaGreatVDH2
import Derived.Test.YtdplaepmjogjjaaGreatVDH1
import Derived.Test.YtdplaepmjogjjaaGreatVDGF
namespace Go.Proofs.YtdplaepmjogjjaaGreat.Am
open Go Go.RowKit Go.Proofs.YtdplaepmjogjjaaGreat
set_option linter.all false
noncomputable section
variable (K:TRes→Prop)
def Yv (t:Int):TRes:=zre (zci t)
def QgV:TRow:=Qg 12 [(.a Qs),(.c TI)] fun x=>(some (p_sz (α:=Qc) x.1 x.2.1),Yv (m_sz (α:=Qc) x.1 x.2.1))
def QnK:TTab:=⟨[Qin,Qke,QhG,Qdm,QdD,Qji],false⟩
def QyM:TCode :=
 (zsq [(.reg [zop 2 (.box 30 0 14),zmv 4 (zki 0)]),(.reg [zfa 5 2 1,zld 6 5 1,zmv 7 1,zca 8 55 [6,7],zmv 1 8]),(zsq [(.reg [zmv 9 1,zbi 10 .lss 9 (zki 0)]),(.cond 10 (zsq [(.reg [zmv 4 (zki (-1))]),.ret]) .skip)]),(.reg [zfa 11 2 2,zld 12 11 1,zmv 13 1,zca 14 56 [12,13],zmv 1 14]),(zsq [(.reg [zmv 15 1,zbi 16 .lss 15 (zki 0)]),(.cond 16 (zsq [(.reg [zmv 4 (zki (-1))]),.ret]) .skip)]),(.reg [zfa 17 2 5,zld 18 17 1,zmv 19 1,zca 20 57 [18,19],zmv 1 20]),(zsq [(.reg [zmv 21 1,zbi 22 .lss 21 (zki 0)]),(.cond 22 (zsq [(.reg [zmv 4 (zki (-1))]),.ret]) .skip)]),(.reg [zfa 23 2 6,zld 24 23 1,zmv 25 1,zca 26 58 [24,25],zmv 1 26]),(zsq [(.reg [zmv 27 1,zbi 28 .lss 27 (zki 0)]),(.cond 28 (zsq [(.reg [zmv 4 (zki (-1))]),.ret]) .skip)]),(.reg [zfa 29 2 7,zld 30 29 1,zmv 31 1,zca 32 59 [30,31],zmv 1 32]),(zsq [(.reg [zmv 33 1,zbi 34 .lss 33 (zki 0)]),(.cond 34 (zsq [(.reg [zmv 4 (zki (-1))]),.ret]) .skip)]),(.reg [zfa 35 2 8,zld 36 35 1,zmv 37 1,zca 38 59 [36,37],zmv 1 38]),(zsq [(.reg [zmv 39 1,zbi 40 .lss 39 (zki 0)]),(.cond 40 (zsq [(.reg [zmv 4 (zki (-1))]),.ret]) .skip)]),(.reg [zfa 41 2 9,zld 42 41 1,zmv 43 1,zca 44 59 [42,43],zmv 1 44]),(zsq [(.reg [zmv 45 1,zbi 46 .lss 45 (zki 0)]),(.cond 46 (zsq [(.reg [zmv 4 (zki (-1))]),.ret]) .skip)]),(.reg [zfa 47 2 10,zld 48 47 1,zmv 49 1,zca 50 59 [48,49],zmv 1 50]),(zsq [(.reg [zmv 51 1,zbi 52 .lss 51 (zki 0)]),(.cond 52 (zsq [(.reg [zmv 4 (zki (-1))]),.ret]) .skip)]),(.reg [zfa 53 2 11,zLd 54 53 3,zmv 55 1,zca 56 60 [54,55],zmv 1 56]),(zsq [(.reg [zmv 57 1,zbi 58 .lss 57 (zki 0)]),(.cond 58 (zsq [(.reg [zmv 4 (zki (-1))]),.ret]) .skip)]),(.reg [zmv 59 1,zmv 4 59]),.ret])
def QGi:List (ARv × Md):=[(.t 4,.one .d)]
theorem QII (a:Qc) (left:Int) (h :
 let z8:=m_sz (α:=List TIns) a.2.1 left
 let z5:=m_sz (α:=List TOp') a.2.2.1 z8
 let z3:=m_sz (α:=List Qe) a.2.2.2.2.2.1 z5
 let z6:=m_sz (α:=List (List Int)) a.2.2.2.2.2.2.1 z3
 let z1:=m_sz (α:=List Int) a.2.2.2.2.2.2.2.1 z6
 let z7:=m_sz (α:=List Int) a.2.2.2.2.2.2.2.2.1 z1
 let z2:=m_sz (α:=List Int) a.2.2.2.2.2.2.2.2.2.1 z7
 let z4:=m_sz (α:=List Int) a.2.2.2.2.2.2.2.2.2.2.1 z2
 let z9:=m_sz (α:=Qm) a.2.2.2.2.2.2.2.2.2.2.2 z4
 ((p_sz (α:=List TIns) a.2.1 left)∧(zif (decide (z8<(0:Int))) (K (Yv (-1:Int))) ((p_sz (α:=List TOp') a.2.2.1 z8)∧(zif (decide (z5<(0:Int))) (K (Yv (-1:Int))) ((p_sz (α:=List Qe) a.2.2.2.2.2.1 z5)∧(zif (decide (z3<(0:Int))) (K (Yv (-1:Int))) ((p_sz (α:=List (List Int)) a.2.2.2.2.2.2.1 z3)∧(zif (decide (z6<(0:Int))) (K (Yv (-1:Int))) ((p_sz (α:=List Int) a.2.2.2.2.2.2.2.1 z6)∧(zif (decide (z1<(0:Int))) (K (Yv (-1:Int))) ((p_sz (α:=List Int) a.2.2.2.2.2.2.2.2.1 z1)∧(zif (decide (z7<(0:Int))) (K (Yv (-1:Int))) ((p_sz (α:=List Int) a.2.2.2.2.2.2.2.2.2.1 z7)∧(zif (decide (z2<(0:Int))) (K (Yv (-1:Int))) ((p_sz (α:=List Int) a.2.2.2.2.2.2.2.2.2.2.1 z2)∧(zif (decide (z4<(0:Int))) (K (Yv (-1:Int))) ((p_sz (α:=Qm) a.2.2.2.2.2.2.2.2.2.2.2 z4)∧(zif (decide (z9<(0:Int))) (K (Yv (-1:Int))) (K (Yv z9))))))))))))))))))))):Hold (tawp QnK (0+0) QyM (TQ 0 0 QGi K) (Qd [(.a (Tup.cells Qs a)),(.c TI left)])) :=
 Hold.of (by kernel_rfl) h
theorem QBI (a:Qc) (left:Int) (hp:p_sz (α:=Qc) a left):TCon Tryz.prog 12 [(.a (Tup.cells Qs a)),(.c TI left)] (Yv (m_sz (α:=Qc) a left)):=by
 refine Qh rfl fun hb=>tcg (Γ:=QnK) (n:=60) (sg:=QgV.sg) Qi (TOkL.cons QBx (TOkL.cons QAu (TOkL.cons QDt (TOkL.cons QiC (TOkL.cons Qhn (TOkL.cons Qwc TOkL.nil)))))) (by kernel_rfl) (by kernel_rfl) (QII _ a left ?_)
 refine ⟨hp,fun h=>R_eq (Yl (of_decide_eq_true h) (by first | omega | (simp only [QZ,QK,Q0];omega)) hp.1),fun h=>?_⟩
 rw [J9 (Int.not_lt.1 (of_decide_eq_false h))]
 refine ⟨J5 hp,fun h=>R_eq (Yl (of_decide_eq_true h) (by first | omega | (simp only [QZ,QK,Q0];omega)) hp.1),fun h=>?_⟩
 rw [J9 (Int.not_lt.1 (of_decide_eq_false h))]
 refine ⟨J5 hp,fun h=>R_eq (Yl (of_decide_eq_true h) (by first | omega | (simp only [QZ,QK,Q0];omega)) hp.1),fun h=>?_⟩
 rw [J9 (Int.not_lt.1 (of_decide_eq_false h))]
 refine ⟨J5 hp,fun h=>R_eq (Yl (of_decide_eq_true h) (by first | omega | (simp only [QZ,QK,Q0];omega)) hp.1),fun h=>?_⟩
 rw [J9 (Int.not_lt.1 (of_decide_eq_false h))]
 refine ⟨J5 hp,fun h=>R_eq (Yl (of_decide_eq_true h) (by first | omega | (simp only [QZ,QK,Q0];omega)) hp.1),fun h=>?_⟩
 rw [J9 (Int.not_lt.1 (of_decide_eq_false h))]
 refine ⟨J5 hp,fun h=>R_eq (Yl (of_decide_eq_true h) (by first | omega | (simp only [QZ,QK,Q0];omega)) hp.1),fun h=>?_⟩
 rw [J9 (Int.not_lt.1 (of_decide_eq_false h))]
 refine ⟨J5 hp,fun h=>R_eq (Yl (of_decide_eq_true h) (by first | omega | (simp only [QZ,QK,Q0];omega)) hp.1),fun h=>?_⟩
 rw [J9 (Int.not_lt.1 (of_decide_eq_false h))]
 refine ⟨J5 hp,fun h=>R_eq (Yl (of_decide_eq_true h) (by first | omega | (simp only [QZ,QK,Q0];omega)) hp.1),fun h=>?_⟩
 rw [J9 (Int.not_lt.1 (of_decide_eq_false h))]
 refine ⟨J5 hp,fun h=>R_eq (Yl (of_decide_eq_true h) (by first | omega | (simp only [QZ,QK,Q0];omega)) hp.1),fun h=>?_⟩
 exact R_eq (congrArg (Z1 · _) (by first | rfl | omega | (simp only [QZ,QK,Q0];omega)))
theorem QKE:Qf Tryz.prog QgV:=Qj fun x h=>QBI x.1 x.2.1 h
def QiT (t:Qc):TRes:=⟨(.a [(zci t.1),(.r Qt 0 0 ((t.2.1).length)),(.r ctOp 1 0 ((t.2.2.1).length)),(zcb t.2.2.2.1),(zcb t.2.2.2.2.1),(.r Ql 2 0 ((t.2.2.2.2.2.1).length)),(.r [(.sl [TI])] 3 0 ((t.2.2.2.2.2.2.1).length)),(.r [TI] 4 0 ((t.2.2.2.2.2.2.2.1).length)),(.r [TI] 5 0 ((t.2.2.2.2.2.2.2.2.1).length)),(.r [TI] 6 0 ((t.2.2.2.2.2.2.2.2.2.1).length)),(.r [TI] 7 0 ((t.2.2.2.2.2.2.2.2.2.2.1).length)),(.r [(.sl [TI])] 8 0 ((t.2.2.2.2.2.2.2.2.2.2.2.1).length)),(zci t.2.2.2.2.2.2.2.2.2.2.2.2.1),(zcb t.2.2.2.2.2.2.2.2.2.2.2.2.2)]),[(.sl 175 Qt (.dp 0 true []) t.2.1),(.sl 134 ctOp (.dp 0 true []) t.2.2.1),(.sl 108 Ql (.dp 0 true []) t.2.2.2.2.2.1),(.sl 106 [(.sl [TI])] (.dp 0 true []) t.2.2.2.2.2.2.1),(.sl 3 [TI] (.dp 0 true []) t.2.2.2.2.2.2.2.1),(.sl 3 [TI] (.dp 0 true []) t.2.2.2.2.2.2.2.2.1),(.sl 3 [TI] (.dp 0 true []) t.2.2.2.2.2.2.2.2.2.1),(.sl 3 [TI] (.dp 0 true []) t.2.2.2.2.2.2.2.2.2.2.1),(.sl 106 [(.sl [TI])] (.dp 0 true []) t.2.2.2.2.2.2.2.2.2.2.2.1)],[],false,[]⟩
def Qj8:TRow:=Qg 14 [(.a Qs)] fun x=>(some (p_to (α:=Qc) x.1),QiT (id (α:=Qc) x.1))
def QrQ:TTab:=⟨[QhT,Qi6,Qhh,QcY,Qby,QjJ],true⟩
def QAj:TCode :=
 (zsq [(.reg [zop 1 (.box 30 0 14),zop 2 (.new 39 (z0s Qs))]),(.reg [zop 3 (.new 39 (z0s Qs))]),(.reg [zfa 4 1 0,zld 5 4 1,zfa 6 3 0,zst 6 5 1]),(.reg [zfa 7 1 1,zld 8 7 1,zca 9 65 [8],zfa 10 3 1,zst 10 9 1]),(.reg [zfa 11 1 2,zld 12 11 1,zca 13 66 [12],zfa 14 3 2,zst 14 13 1]),(.reg [zfa 15 1 3,zld 16 15 1,zfa 17 3 3,zst 17 16 1]),(.reg [zfa 18 1 4,zld 19 18 1,zfa 20 3 4,zst 20 19 1]),(.reg [zfa 21 1 5,zld 22 21 1,zca 23 67 [22],zfa 24 3 5,zst 24 23 1]),(.reg [zfa 25 1 6,zld 26 25 1,zca 27 68 [26],zfa 28 3 6,zst 28 27 1]),(.reg [zfa 29 1 7,zld 30 29 1,zca 31 29 [30],zfa 32 3 7,zst 32 31 1]),(.reg [zfa 33 1 8,zld 34 33 1,zca 35 29 [34],zfa 36 3 8,zst 36 35 1]),(.reg [zfa 37 1 9,zld 38 37 1,zca 39 29 [38],zfa 40 3 9,zst 40 39 1]),(.reg [zfa 41 1 10,zld 42 41 1,zca 43 29 [42],zfa 44 3 10,zst 44 43 1]),(.reg [zfa 45 1 11,zLd 46 45 3,zca 47 69 [46],zfa 48 3 11,zst 48 47 3]),(.reg [zLd 49 3 14,zst 2 49 14]),.ret])
def QBE:List (ARv × Md):=[(.l 2 14 true,.b [.d,.p 175,.p 134,.d,.d,.p 108,.p 106,.p 3,.p 3,.p 3,.p 3,.p 106,.d,.d])]
theorem QHG (a:Qc) (h :
 ((p_to (α:=List TIns) a.2.1)∧((p_to (α:=List TOp') a.2.2.1)∧((p_to (α:=List Qe) a.2.2.2.2.2.1)∧((p_to (α:=List (List Int)) a.2.2.2.2.2.2.1)∧((p_to (α:=List Int) a.2.2.2.2.2.2.2.1)∧((p_to (α:=List Int) a.2.2.2.2.2.2.2.2.1)∧((p_to (α:=List Int) a.2.2.2.2.2.2.2.2.2.1)∧((p_to (α:=List Int) a.2.2.2.2.2.2.2.2.2.2.1)∧((p_to (α:=Qm) a.2.2.2.2.2.2.2.2.2.2.2)∧K (QiT (a.1,(List.take ((id (α:=List TIns) a.2.1).length) (id (α:=List TIns) a.2.1)),(List.take ((id (α:=List TOp') a.2.2.1).length) (id (α:=List TOp') a.2.2.1)),a.2.2.2.1,a.2.2.2.2.1,(List.take ((id (α:=List Qe) a.2.2.2.2.2.1).length) (id (α:=List Qe) a.2.2.2.2.2.1)),(List.take ((id (α:=List (List Int)) a.2.2.2.2.2.2.1).length) (id (α:=List (List Int)) a.2.2.2.2.2.2.1)),(List.take ((id (α:=List Int) a.2.2.2.2.2.2.2.1).length) (id (α:=List Int) a.2.2.2.2.2.2.2.1)),(List.take ((id (α:=List Int) a.2.2.2.2.2.2.2.2.1).length) (id (α:=List Int) a.2.2.2.2.2.2.2.2.1)),(List.take ((id (α:=List Int) a.2.2.2.2.2.2.2.2.2.1).length) (id (α:=List Int) a.2.2.2.2.2.2.2.2.2.1)),(List.take ((id (α:=List Int) a.2.2.2.2.2.2.2.2.2.2.1).length) (id (α:=List Int) a.2.2.2.2.2.2.2.2.2.2.1)),(List.take (((id (α:=Qm) a.2.2.2.2.2.2.2.2.2.2.2).1).length) ((id (α:=Qm) a.2.2.2.2.2.2.2.2.2.2.2).1)),(id (α:=Qm) a.2.2.2.2.2.2.2.2.2.2.2).2.1,(id (α:=Qm) a.2.2.2.2.2.2.2.2.2.2.2).2.2)))))))))))):Hold (tawp QrQ (0+0) QAj (TQ 0 0 QBE K) (Qd [(.a (Tup.cells Qs a))])) :=
 Hold.of (by kernel_rfl) h
theorem QF5 (a:Qc) (hp:p_to (α:=Qc) a):TCon Tryz.prog 14 [(.a (Tup.cells Qs a))] (QiT (id (α:=Qc) a)):=by
 refine Qh rfl fun hb=>tcg (Γ:=QrQ) (n:=50) (sg:=Qj8.sg) Qi (TOkL.cons QEz (TOkL.cons Qxl (TOkL.cons QH6 (TOkL.cons Qis (TOkL.cons Qf4 (TOkL.cons QIa TOkL.nil)))))) (by kernel_rfl) (by kernel_rfl) (QHG _ a ?_)
 repeat' (first | refine And.intro ?_ ?_ | exact R_eq (by simp))
 all_goals (simp only [p_to,QZ,QK,Q0,List.drop_zero,List.take_length,id_eq] at hp ⊢;omega)
theorem QFO:Qf Tryz.prog Qj8:=Qj fun x h=>QF5 x.1 h
def Z5 (t:Bool):TRes:=zre (zcb t)
def QiK:TRow:=Qg 16 [(.a Qs),(.a Qs)] fun x=>(none,Z5 (m_eq (α:=Qc) x.1 x.2.1))
def Qu7:TTab:=⟨[Qjs,QkD,Qjh,Qb7,Qb0,Qkg],false⟩
def QAH:TCode :=
 (zsq [(.reg [zop 2 (.box 39 0 14),zop 3 (.box 39 1 14),zmv 4 (zkb false)]),(zsq [(.reg [zfa 5 2 0,zld 6 5 1,zfa 7 3 0,zld 8 7 1,zbi 9 .neq 6 8]),(.cond 9 (zsq [(.reg [zmv 4 (zkb false)]),.ret]) .skip)]),(zsq [(.reg [zfa 10 2 1,zld 11 10 1,zfa 12 3 1,zld 13 12 1,zca 14 75 [11,13],zno 15 14]),(.cond 15 (zsq [(.reg [zmv 4 (zkb false)]),.ret]) .skip)]),(zsq [(.reg [zfa 16 2 2,zld 17 16 1,zfa 18 3 2,zld 19 18 1,zca 20 76 [17,19],zno 21 20]),(.cond 21 (zsq [(.reg [zmv 4 (zkb false)]),.ret]) .skip)]),(zsq [(.reg [zfa 22 2 3,zld 23 22 1,zfa 24 3 3,zld 25 24 1,zop 26 (.eqb true 23 25)]),(.cond 26 (zsq [(.reg [zmv 4 (zkb false)]),.ret]) .skip)]),(zsq [(.reg [zfa 27 2 4,zld 28 27 1,zfa 29 3 4,zld 30 29 1,zop 31 (.eqb true 28 30)]),(.cond 31 (zsq [(.reg [zmv 4 (zkb false)]),.ret]) .skip)]),(zsq [(.reg [zfa 32 2 5,zld 33 32 1,zfa 34 3 5,zld 35 34 1,zca 36 77 [33,35],zno 37 36]),(.cond 37 (zsq [(.reg [zmv 4 (zkb false)]),.ret]) .skip)]),(zsq [(.reg [zfa 38 2 6,zld 39 38 1,zfa 40 3 6,zld 41 40 1,zca 42 78 [39,41],zno 43 42]),(.cond 43 (zsq [(.reg [zmv 4 (zkb false)]),.ret]) .skip)]),(zsq [(.reg [zfa 44 2 7,zld 45 44 1,zfa 46 3 7,zld 47 46 1,zca 48 23 [45,47],zno 49 48]),(.cond 49 (zsq [(.reg [zmv 4 (zkb false)]),.ret]) .skip)]),(zsq [(.reg [zfa 50 2 8,zld 51 50 1,zfa 52 3 8,zld 53 52 1,zca 54 23 [51,53],zno 55 54]),(.cond 55 (zsq [(.reg [zmv 4 (zkb false)]),.ret]) .skip)]),(zsq [(.reg [zfa 56 2 9,zld 57 56 1,zfa 58 3 9,zld 59 58 1,zca 60 23 [57,59],zno 61 60]),(.cond 61 (zsq [(.reg [zmv 4 (zkb false)]),.ret]) .skip)]),(zsq [(.reg [zfa 62 2 10,zld 63 62 1,zfa 64 3 10,zld 65 64 1,zca 66 23 [63,65],zno 67 66]),(.cond 67 (zsq [(.reg [zmv 4 (zkb false)]),.ret]) .skip)]),(zsq [(.reg [zfa 68 2 11,zLd 69 68 3,zfa 70 3 11,zLd 71 70 3,zca 72 46 [69,71],zno 73 72]),(.cond 73 (zsq [(.reg [zmv 4 (zkb false)]),.ret]) .skip)]),(.reg [zmv 4 (zkb true)]),.ret])
def Qy9:List (ARv × Md):=[(.t 4,.one .d)]
theorem Qxf (a:Qc) (b:Qc) (h :
 (zif (a.1 != b.1) (K (Z5 false)) (zif (!(m_eq (α:=List TIns) a.2.1 b.2.1)) (K (Z5 false)) (zif (!(m_eq (α:=List TOp') a.2.2.1 b.2.2.1)) (K (Z5 false)) (zif (!(a.2.2.2.1==b.2.2.2.1)) (K (Z5 false)) (zif (!(a.2.2.2.2.1==b.2.2.2.2.1)) (K (Z5 false)) (zif (!(m_eq (α:=List Qe) a.2.2.2.2.2.1 b.2.2.2.2.2.1)) (K (Z5 false)) (zif (!(m_eq (α:=List (List Int)) a.2.2.2.2.2.2.1 b.2.2.2.2.2.2.1)) (K (Z5 false)) (zif (!(m_eq (α:=List Int) a.2.2.2.2.2.2.2.1 b.2.2.2.2.2.2.2.1)) (K (Z5 false)) (zif (!(m_eq (α:=List Int) a.2.2.2.2.2.2.2.2.1 b.2.2.2.2.2.2.2.2.1)) (K (Z5 false)) (zif (!(m_eq (α:=List Int) a.2.2.2.2.2.2.2.2.2.1 b.2.2.2.2.2.2.2.2.2.1)) (K (Z5 false)) (zif (!(m_eq (α:=List Int) a.2.2.2.2.2.2.2.2.2.2.1 b.2.2.2.2.2.2.2.2.2.2.1)) (K (Z5 false)) (zif (!(m_eq (α:=Qm) a.2.2.2.2.2.2.2.2.2.2.2 b.2.2.2.2.2.2.2.2.2.2.2)) (K (Z5 false)) (K (Z5 true))))))))))))))):Hold (tawp Qu7 (0+0) QAH (TQ 0 0 Qy9 K) (Qd [(.a (Tup.cells Qs a)),(.a (Tup.cells Qs b))])) :=
 Hold.of (by kernel_rfl) h
theorem QwQ (a:Qc) (b:Qc):TCon Tryz.prog 16 [(.a (Tup.cells Qs a)),(.a (Tup.cells Qs b))] (Z5 (m_eq (α:=Qc) a b)):=by
 refine Qh rfl fun hb=>tcg (Γ:=Qu7) (n:=74) (sg:=QiK.sg) Qi (TOkL.cons QBq (TOkL.cons QFP (TOkL.cons QxX (TOkL.cons Qky (TOkL.cons QfO (TOkL.cons QJe TOkL.nil)))))) (by kernel_rfl) (by kernel_rfl) (Qxf _ a b ?_)
 refine ⟨fun h=>R_eq (Eq.symm (decide_eq_false (by rintro rfl;simp [m_eq] at h))),fun h0=>?_⟩
 refine ⟨fun h=>R_eq (Eq.symm (decide_eq_false (by rintro rfl;simp [m_eq] at h))),fun h1=>?_⟩
 refine ⟨fun h=>R_eq (Eq.symm (decide_eq_false (by rintro rfl;simp [m_eq] at h))),fun h2=>?_⟩
 refine ⟨fun h=>R_eq (Eq.symm (decide_eq_false (by rintro rfl;simp [m_eq] at h))),fun h3=>?_⟩
 refine ⟨fun h=>R_eq (Eq.symm (decide_eq_false (by rintro rfl;simp [m_eq] at h))),fun h4=>?_⟩
 refine ⟨fun h=>R_eq (Eq.symm (decide_eq_false (by rintro rfl;simp [m_eq] at h))),fun h5=>?_⟩
 refine ⟨fun h=>R_eq (Eq.symm (decide_eq_false (by rintro rfl;simp [m_eq] at h))),fun h6=>?_⟩
 refine ⟨fun h=>R_eq (Eq.symm (decide_eq_false (by rintro rfl;simp [m_eq] at h))),fun h7=>?_⟩
 refine ⟨fun h=>R_eq (Eq.symm (decide_eq_false (by rintro rfl;simp [m_eq] at h))),fun h8=>?_⟩
 refine ⟨fun h=>R_eq (Eq.symm (decide_eq_false (by rintro rfl;simp [m_eq] at h))),fun h9=>?_⟩
 refine ⟨fun h=>R_eq (Eq.symm (decide_eq_false (by rintro rfl;simp [m_eq] at h))),fun h10=>?_⟩
 refine ⟨fun h=>R_eq (Eq.symm (decide_eq_false (by rintro rfl;simp [m_eq] at h))),fun h11=>?_⟩
 refine R_eq (Eq.symm (decide_eq_true ?_))
 simp [m_eq] at h0 h1 h2 h3 h4 h5 h6 h7 h8 h9 h10 h11
 simp [Prod.ext_iff, *]
theorem Qym:Qf Tryz.prog QiK:=Qj fun x _=>QwQ x.1 x.2.1
end
end Go.Proofs.YtdplaepmjogjjaaGreat.Am

