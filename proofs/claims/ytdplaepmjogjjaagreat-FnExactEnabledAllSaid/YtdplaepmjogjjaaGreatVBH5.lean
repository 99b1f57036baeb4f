/- -/
import Derived.Test.YtdplaepmjogjjaaGreatVBH4
import Derived.Test.YtdplaepmjogjjaaGreatVBH2
import Derived.Test.YtdplaepmjogjjaaGreatVBH1
import Derived.Test.YtdplaepmjogjjaaGreatVBGF
namespace Go.Proofs.YtdplaepmjogjjaaGreat.Am
open Go Go.RowKit Go.Proofs.YtdplaepmjogjjaaGreat
set_option linter.all false
noncomputable section
variable (K:TRes→Prop)
def ZS (t:Int):TRes:=zre (zci t)
def Qhu:TRow:=Qi 12 [(.a Qo),(.c TI)] fun x=>(some (p_sz (α:=Qc) x.1 x.2.1),ZS (m_sz (α:=Qc) x.1 x.2.1))
def QkL:TTab:=⟨[Qfu,Qha,QfG,Qb6,JN,QhS],false⟩
def QEa:TCode :=
 (zsq [(.reg [zop 2 (.box 30 0 14),zmv 4 (zki 0)]),(.reg [zfa 5 2 1,zld 6 5 1,zmv 7 1,zca 8 55 [6,7],zmv 1 8]),(zsq [(.reg [zmv 9 1,zbi 10 .lss 9 (zki 0)]),(.cond 10 (zsq [(.reg [zmv 4 (zki (-1))]),.ret]) .skip)]),(.reg [zfa 11 2 2,zld 12 11 1,zmv 13 1,zca 14 56 [12,13],zmv 1 14]),(zsq [(.reg [zmv 15 1,zbi 16 .lss 15 (zki 0)]),(.cond 16 (zsq [(.reg [zmv 4 (zki (-1))]),.ret]) .skip)]),(.reg [zfa 17 2 5,zld 18 17 1,zmv 19 1,zca 20 57 [18,19],zmv 1 20]),(zsq [(.reg [zmv 21 1,zbi 22 .lss 21 (zki 0)]),(.cond 22 (zsq [(.reg [zmv 4 (zki (-1))]),.ret]) .skip)]),(.reg [zfa 23 2 6,zld 24 23 1,zmv 25 1,zca 26 58 [24,25],zmv 1 26]),(zsq [(.reg [zmv 27 1,zbi 28 .lss 27 (zki 0)]),(.cond 28 (zsq [(.reg [zmv 4 (zki (-1))]),.ret]) .skip)]),(.reg [zfa 29 2 7,zld 30 29 1,zmv 31 1,zca 32 59 [30,31],zmv 1 32]),(zsq [(.reg [zmv 33 1,zbi 34 .lss 33 (zki 0)]),(.cond 34 (zsq [(.reg [zmv 4 (zki (-1))]),.ret]) .skip)]),(.reg [zfa 35 2 8,zld 36 35 1,zmv 37 1,zca 38 59 [36,37],zmv 1 38]),(zsq [(.reg [zmv 39 1,zbi 40 .lss 39 (zki 0)]),(.cond 40 (zsq [(.reg [zmv 4 (zki (-1))]),.ret]) .skip)]),(.reg [zfa 41 2 9,zld 42 41 1,zmv 43 1,zca 44 59 [42,43],zmv 1 44]),(zsq [(.reg [zmv 45 1,zbi 46 .lss 45 (zki 0)]),(.cond 46 (zsq [(.reg [zmv 4 (zki (-1))]),.ret]) .skip)]),(.reg [zfa 47 2 10,zld 48 47 1,zmv 49 1,zca 50 59 [48,49],zmv 1 50]),(zsq [(.reg [zmv 51 1,zbi 52 .lss 51 (zki 0)]),(.cond 52 (zsq [(.reg [zmv 4 (zki (-1))]),.ret]) .skip)]),(.reg [zfa 53 2 11,zLd 54 53 3,zmv 55 1,zca 56 60 [54,55],zmv 1 56]),(zsq [(.reg [zmv 57 1,zbi 58 .lss 57 (zki 0)]),(.cond 58 (zsq [(.reg [zmv 4 (zki (-1))]),.ret]) .skip)]),(.reg [zmv 59 1,zmv 4 59]),.ret])
def QwA:List (ARv × Md):=[(.t 4,.one .d)]
theorem QFt (a:Qc) (left:Int) (h :
 let z8:=m_sz (α:=List TIns) a.2.1 left
 let z5:=m_sz (α:=List TOp') a.2.2.1 z8
 let z3:=m_sz (α:=List Qr) a.2.2.2.2.2.1 z5
 let z6:=m_sz (α:=List (List Int)) a.2.2.2.2.2.2.1 z3
 let z1:=m_sz (α:=List Int) a.2.2.2.2.2.2.2.1 z6
 let z7:=m_sz (α:=List Int) a.2.2.2.2.2.2.2.2.1 z1
 let z2:=m_sz (α:=List Int) a.2.2.2.2.2.2.2.2.2.1 z7
 let z4:=m_sz (α:=List Int) a.2.2.2.2.2.2.2.2.2.2.1 z2
 let z9:=m_sz (α:=QT) a.2.2.2.2.2.2.2.2.2.2.2 z4
 ((p_sz (α:=List TIns) a.2.1 left)∧(zif (decide (z8<(0:Int))) (K (ZS (-1:Int))) ((p_sz (α:=List TOp') a.2.2.1 z8)∧(zif (decide (z5<(0:Int))) (K (ZS (-1:Int))) ((p_sz (α:=List Qr) a.2.2.2.2.2.1 z5)∧(zif (decide (z3<(0:Int))) (K (ZS (-1:Int))) ((p_sz (α:=List (List Int)) a.2.2.2.2.2.2.1 z3)∧(zif (decide (z6<(0:Int))) (K (ZS (-1:Int))) ((p_sz (α:=List Int) a.2.2.2.2.2.2.2.1 z6)∧(zif (decide (z1<(0:Int))) (K (ZS (-1:Int))) ((p_sz (α:=List Int) a.2.2.2.2.2.2.2.2.1 z1)∧(zif (decide (z7<(0:Int))) (K (ZS (-1:Int))) ((p_sz (α:=List Int) a.2.2.2.2.2.2.2.2.2.1 z7)∧(zif (decide (z2<(0:Int))) (K (ZS (-1:Int))) ((p_sz (α:=List Int) a.2.2.2.2.2.2.2.2.2.2.1 z2)∧(zif (decide (z4<(0:Int))) (K (ZS (-1:Int))) ((p_sz (α:=QT) a.2.2.2.2.2.2.2.2.2.2.2 z4)∧(zif (decide (z9<(0:Int))) (K (ZS (-1:Int))) (K (ZS z9))))))))))))))))))))):Hold (tawp QkL (0+0) QEa (TQ 0 0 QwA K) (Qg [(.a (Tup.cells Qo a)),(.c TI left)])) :=
 Hold.of (by kernel_rfl) h
theorem Qtq (a:Qc) (left:Int) (hp:p_sz (α:=Qc) a left):TCon Tryz.prog 12 [(.a (Tup.cells Qo a)),(.c TI left)] (ZS (m_sz (α:=Qc) a left)):=by
 refine Qk rfl fun hb=>tcg (Γ:=QkL) (n:=60) (sg:=Qhu.sg) Ql (TOkL.cons Qt4 (TOkL.cons QEH (TOkL.cons QEo (TOkL.cons QiG (TOkL.cons QbJ (TOkL.cons QwN TOkL.nil)))))) (by kernel_rfl) (by kernel_rfl) (QFt _ a left ?_)
 refine ⟨hp,fun h=>R_eq (Q6 (of_decide_eq_true h) (by first | omega | (simp only [QD,QE,QK];omega)) hp.1),fun h=>?_⟩
 rw [ZW (Int.not_lt.1 (of_decide_eq_false h))]
 refine ⟨ZU hp,fun h=>R_eq (Q6 (of_decide_eq_true h) (by first | omega | (simp only [QD,QE,QK];omega)) hp.1),fun h=>?_⟩
 rw [ZW (Int.not_lt.1 (of_decide_eq_false h))]
 refine ⟨ZU hp,fun h=>R_eq (Q6 (of_decide_eq_true h) (by first | omega | (simp only [QD,QE,QK];omega)) hp.1),fun h=>?_⟩
 rw [ZW (Int.not_lt.1 (of_decide_eq_false h))]
 refine ⟨ZU hp,fun h=>R_eq (Q6 (of_decide_eq_true h) (by first | omega | (simp only [QD,QE,QK];omega)) hp.1),fun h=>?_⟩
 rw [ZW (Int.not_lt.1 (of_decide_eq_false h))]
 refine ⟨ZU hp,fun h=>R_eq (Q6 (of_decide_eq_true h) (by first | omega | (simp only [QD,QE,QK];omega)) hp.1),fun h=>?_⟩
 rw [ZW (Int.not_lt.1 (of_decide_eq_false h))]
 refine ⟨ZU hp,fun h=>R_eq (Q6 (of_decide_eq_true h) (by first | omega | (simp only [QD,QE,QK];omega)) hp.1),fun h=>?_⟩
 rw [ZW (Int.not_lt.1 (of_decide_eq_false h))]
 refine ⟨ZU hp,fun h=>R_eq (Q6 (of_decide_eq_true h) (by first | omega | (simp only [QD,QE,QK];omega)) hp.1),fun h=>?_⟩
 rw [ZW (Int.not_lt.1 (of_decide_eq_false h))]
 refine ⟨ZU hp,fun h=>R_eq (Q6 (of_decide_eq_true h) (by first | omega | (simp only [QD,QE,QK];omega)) hp.1),fun h=>?_⟩
 rw [ZW (Int.not_lt.1 (of_decide_eq_false h))]
 refine ⟨ZU hp,fun h=>R_eq (Q6 (of_decide_eq_true h) (by first | omega | (simp only [QD,QE,QK];omega)) hp.1),fun h=>?_⟩
 exact R_eq (congrArg (Za · _) (by first | rfl | omega | (simp only [QD,QE,QK];omega)))
theorem QDz:Qj Tryz.prog Qhu:=Qn fun x h=>Qtq x.1 x.2.1 h
def Qaq (t:Int):TRes:=zre (zci t)
def Qe3:TRow:=Qi 87 [(.c (.sl Qo)),(.c TI)] fun x=>(some (p_sz (α:=List Qc) x.1 x.2.1),Qaq (m_sz (α:=List Qc) x.1 x.2.1))
def Qd0:TTab:=⟨[Qhu],false⟩
def Qnk:TCode :=
 (zsq [(zsq [(.reg [zmv 12 5,zmv 13 0,zle 14 13,zbi 15 .lss 12 14]),(.cond 15 .skip (.exit 0))]),(.block 1 (zsq [(.reg [zmv 18 0,zmv 19 5,zia 20 18 19 Qo,zLd 21 20 14,zmv 22 1,zca 23 12 [21,22],zmv 1 23]),(.reg [zmv 24 1,zbi 25 .lss 24 (zki 0)]),(.cond 25 (zsq [(.reg [zmv 4 (zki (-1))]),.ret]) .skip)])),(.reg [zmv 16 5,zbi 17 .add 16 (zki 1),zmv 5 17])])
def Qp2:List (Nat × Md):=zdl [0,1,5]
def QkQ:TCode :=
 (zsq [(.reg [zmv 26 1,zmv 4 26]),.ret])
def QFp:TCode :=
 (zsq [(.reg [zmv 4 (zki 0)]),(.reg [zmv 6 1,zmv 7 0,zle 8 7,zbi 9 .sub 6 8,zmv 1 9]),(zsq [(.reg [zmv 10 1,zbi 11 .lss 10 (zki 0)]),(.cond 11 (zsq [(.reg [zmv 4 (zki (-1))]),.ret]) .skip)]),(zsq [(.reg [zmv 5 (zki 0)]),(.block 0 (.loop Qp2 Qnk))]),QkQ])
def QkB:List (ARv × Md):=[(.t 4,.one .d)]
def Qpo:Qb:=TQ 0 0 QkB K
def QDW:Qb:=Qseq (tawp Qd0 0 QkQ (Qpo K)) (Qpo K)
def Qtm:Qb:=Qblk 0 (QDW K)
def Qij (a:List Qc) (left1:Int) (i:Int):Prop:=Loop Qd0 0 Qp2 Qnk (Qtm K) ⟨[(0,(zcs Qo a)),(1,(zci left1)),(5,(zci i))],[],0⟩
theorem Quc (a:List Qc) (left1:Int) (i:Int) (h :
 (zif (decide (i<(a.length:Int))) ((((0:Int)≤i∧Int.toNat i<a.length)∧(p_sz (α:=Qc) (gtd Qv a (Int.toNat i)) left1))∧(zif (decide ((m_sz (α:=Qc) (gtd Qv a (Int.toNat i)) left1)<(0:Int))) (K (Qaq (-1:Int))) (Qij K a (m_sz (α:=Qc) (gtd Qv a (Int.toNat i)) left1) (w64 (i+(1:Int)))))) (K (Qaq left1)))):Qij K a left1 i :=
 Loop.of (by kernel_rfl) h
theorem Qvq (a:List Qc) (left:Int) (h :
 (zif (decide ((w64 (left-(a.length:Int)))<(0:Int))) (K (Qaq (-1:Int))) (Qij K a (w64 (left-(a.length:Int))) 0))):Hold (tawp Qd0 (0+0) QFp (TQ 0 0 QkB K) (Qg [(.c (.sl Qo) a),(.c TI left)])) :=
 Hold.of (by kernel_rfl) h
theorem Qus (a:List Qc) (left:Int) (hp:p_sz (α:=List Qc) a left):TCon Tryz.prog 87 [(.c (.sl Qo) a),(.c TI left)] (Qaq (m_sz (α:=List Qc) a left)):=by
 refine Qk rfl fun hb=>tcg (Γ:=Qd0) (n:=27) (sg:=Qe3.sg) Ql (TOkL.cons QDz TOkL.nil) (by kernel_rfl) (by kernel_rfl) (Qvq _ a left ?_)
 exact JM (Q:=fun x=>Qaq x=Qaq (m_sz (α:=List Qc) a left)) Qv hp hb.1.1 (fun l i h=>Quc _ a l i h) rfl
theorem QB7:Qj Tryz.prog Qe3:=Qn fun x h=>Qus x.1 x.2.1 h
def Qih (t:Qc):TRes:=⟨(.a [(zci t.1),(.r Qz 0 0 ((t.2.1).length)),(.r ctOp 1 0 ((t.2.2.1).length)),(zcb t.2.2.2.1),(zcb t.2.2.2.2.1),(.r QB 2 0 ((t.2.2.2.2.2.1).length)),(.r [(.sl [TI])] 3 0 ((t.2.2.2.2.2.2.1).length)),(.r [TI] 4 0 ((t.2.2.2.2.2.2.2.1).length)),(.r [TI] 5 0 ((t.2.2.2.2.2.2.2.2.1).length)),(.r [TI] 6 0 ((t.2.2.2.2.2.2.2.2.2.1).length)),(.r [TI] 7 0 ((t.2.2.2.2.2.2.2.2.2.2.1).length)),(.r [(.sl [TI])] 8 0 ((t.2.2.2.2.2.2.2.2.2.2.2.1).length)),(zci t.2.2.2.2.2.2.2.2.2.2.2.2.1),(zcb t.2.2.2.2.2.2.2.2.2.2.2.2.2)]),[(.sl 175 Qz (.dp 0 true []) t.2.1),(.sl 134 ctOp (.dp 0 true []) t.2.2.1),(.sl 108 QB (.dp 0 true []) t.2.2.2.2.2.1),(.sl 106 [(.sl [TI])] (.dp 0 true []) t.2.2.2.2.2.2.1),(.sl 3 [TI] (.dp 0 true []) t.2.2.2.2.2.2.2.1),(.sl 3 [TI] (.dp 0 true []) t.2.2.2.2.2.2.2.2.1),(.sl 3 [TI] (.dp 0 true []) t.2.2.2.2.2.2.2.2.2.1),(.sl 3 [TI] (.dp 0 true []) t.2.2.2.2.2.2.2.2.2.2.1),(.sl 106 [(.sl [TI])] (.dp 0 true []) t.2.2.2.2.2.2.2.2.2.2.2.1)],[],false,[]⟩
def QfJ:TRow:=Qi 14 [(.a Qo)] fun x=>(some (p_to (α:=Qc) x.1),Qih (id (α:=Qc) x.1))
def QkC:TTab:=⟨[Qgv,QhA,Qfz,QbO,JO,Qf6],true⟩
def QEC:TCode :=
 (zsq [(.reg [zop 1 (.box 30 0 14),zop 2 (.new 39 (z0s Qo))]),(.reg [zop 3 (.new 39 (z0s Qo))]),(.reg [zfa 4 1 0,zld 5 4 1,zfa 6 3 0,zst 6 5 1]),(.reg [zfa 7 1 1,zld 8 7 1,zca 9 65 [8],zfa 10 3 1,zst 10 9 1]),(.reg [zfa 11 1 2,zld 12 11 1,zca 13 66 [12],zfa 14 3 2,zst 14 13 1]),(.reg [zfa 15 1 3,zld 16 15 1,zfa 17 3 3,zst 17 16 1]),(.reg [zfa 18 1 4,zld 19 18 1,zfa 20 3 4,zst 20 19 1]),(.reg [zfa 21 1 5,zld 22 21 1,zca 23 67 [22],zfa 24 3 5,zst 24 23 1]),(.reg [zfa 25 1 6,zld 26 25 1,zca 27 68 [26],zfa 28 3 6,zst 28 27 1]),(.reg [zfa 29 1 7,zld 30 29 1,zca 31 29 [30],zfa 32 3 7,zst 32 31 1]),(.reg [zfa 33 1 8,zld 34 33 1,zca 35 29 [34],zfa 36 3 8,zst 36 35 1]),(.reg [zfa 37 1 9,zld 38 37 1,zca 39 29 [38],zfa 40 3 9,zst 40 39 1]),(.reg [zfa 41 1 10,zld 42 41 1,zca 43 29 [42],zfa 44 3 10,zst 44 43 1]),(.reg [zfa 45 1 11,zLd 46 45 3,zca 47 69 [46],zfa 48 3 11,zst 48 47 3]),(.reg [zLd 49 3 14,zst 2 49 14]),.ret])
def Quw:List (ARv × Md):=[(.l 2 14 true,.b [.d,.p 175,.p 134,.d,.d,.p 108,.p 106,.p 3,.p 3,.p 3,.p 3,.p 106,.d,.d])]
theorem QxR (a:Qc) (h :
 ((p_to (α:=List TIns) a.2.1)∧((p_to (α:=List TOp') a.2.2.1)∧((p_to (α:=List Qr) a.2.2.2.2.2.1)∧((p_to (α:=List (List Int)) a.2.2.2.2.2.2.1)∧((p_to (α:=List Int) a.2.2.2.2.2.2.2.1)∧((p_to (α:=List Int) a.2.2.2.2.2.2.2.2.1)∧((p_to (α:=List Int) a.2.2.2.2.2.2.2.2.2.1)∧((p_to (α:=List Int) a.2.2.2.2.2.2.2.2.2.2.1)∧((p_to (α:=QT) a.2.2.2.2.2.2.2.2.2.2.2)∧K (Qih (a.1,(List.take ((id (α:=List TIns) a.2.1).length) (id (α:=List TIns) a.2.1)),(List.take ((id (α:=List TOp') a.2.2.1).length) (id (α:=List TOp') a.2.2.1)),a.2.2.2.1,a.2.2.2.2.1,(List.take ((id (α:=List Qr) a.2.2.2.2.2.1).length) (id (α:=List Qr) a.2.2.2.2.2.1)),(List.take ((id (α:=List (List Int)) a.2.2.2.2.2.2.1).length) (id (α:=List (List Int)) a.2.2.2.2.2.2.1)),(List.take ((id (α:=List Int) a.2.2.2.2.2.2.2.1).length) (id (α:=List Int) a.2.2.2.2.2.2.2.1)),(List.take ((id (α:=List Int) a.2.2.2.2.2.2.2.2.1).length) (id (α:=List Int) a.2.2.2.2.2.2.2.2.1)),(List.take ((id (α:=List Int) a.2.2.2.2.2.2.2.2.2.1).length) (id (α:=List Int) a.2.2.2.2.2.2.2.2.2.1)),(List.take ((id (α:=List Int) a.2.2.2.2.2.2.2.2.2.2.1).length) (id (α:=List Int) a.2.2.2.2.2.2.2.2.2.2.1)),(List.take (((id (α:=QT) a.2.2.2.2.2.2.2.2.2.2.2).1).length) ((id (α:=QT) a.2.2.2.2.2.2.2.2.2.2.2).1)),(id (α:=QT) a.2.2.2.2.2.2.2.2.2.2.2).2.1,(id (α:=QT) a.2.2.2.2.2.2.2.2.2.2.2).2.2)))))))))))):Hold (tawp QkC (0+0) QEC (TQ 0 0 Quw K) (Qg [(.a (Tup.cells Qo a))])) :=
 Hold.of (by kernel_rfl) h
theorem QuX (a:Qc) (hp:p_to (α:=Qc) a):TCon Tryz.prog 14 [(.a (Tup.cells Qo a))] (Qih (id (α:=Qc) a)):=by
 refine Qk rfl fun hb=>tcg (Γ:=QkC) (n:=50) (sg:=QfJ.sg) Ql (TOkL.cons Qth (TOkL.cons QAy (TOkL.cons Qtx (TOkL.cons Qh7 (TOkL.cons QbF (TOkL.cons QED TOkL.nil)))))) (by kernel_rfl) (by kernel_rfl) (QxR _ a ?_)
 repeat' (first | refine And.intro ?_ ?_ | exact R_eq (by simp))
 all_goals (simp only [p_to,QD,QE,QK,List.drop_zero,List.take_length,id_eq] at hp ⊢;omega)
theorem QuK:Qj Tryz.prog QfJ:=Qn fun x h=>QuX x.1 h
def JB (t:(List Qc)):TRes:=⟨(.r Qo 0 0 t.length),[(.sl 39 Qo (.dp 0 true []) t)],[],false,[]⟩
def QgQ:TRow:=Qi 90 [(.c (.sl Qo))] fun x=>(some (p_to (α:=List Qc) x.1),JB (id (α:=List Qc) x.1))
def Qc3:TTab:=⟨[QfJ],true⟩
def Qn1:TCode :=
 (zsq [(zsq [(.reg [zmv 8 4,zmv 9 0,zle 10 9,zbi 11 .lss 8 10]),(.cond 11 .skip (.exit 0))]),(.block 1 (.reg [zmv 14 3,zmv 15 4,zmv 16 0,zmv 17 4,zia 18 16 17 Qo,zLd 19 18 14,zca 20 14 [19],zia 21 14 15 Qo,zst 21 20 14])),(.reg [zmv 12 4,zbi 13 .add 12 (zki 1),zmv 4 13])])
def Qr9:List (Nat × Md):=[(0,.one .d),(3,.one .f),(4,.one .d)]
def Qkj:TCode :=
 (zsq [(.reg [zmv 22 3,zmv 2 22]),.ret])
def QCp:TCode :=
 (zsq [(.reg [zmv 2 (.k (.n Qo))]),(.reg [zmv 5 0,zle 6 5,zop 7 (.mk 39 Qo (z0s Qo) 6),zmv 3 7]),(zsq [(.reg [zmv 4 (zki 0)]),(.block 0 (.loop Qr9 Qn1))]),Qkj])
def Qq6:List (ARv × Md):=[(.t 2,.one (.p 39))]
def QoM:Qb:=TQ 0 0 Qq6 K
def QC3:Qb:=Qseq (tawp Qc3 0 Qkj (QoM K)) (QoM K)
def QFA:Qb:=Qblk 0 (QC3 K)
def QeE (a:List Qc) (i:Int) (out:List Qc):Prop:=Loop Qc3 0 Qr9 Qn1 (QFA K) ⟨[(0,(zcs Qo a)),(3,(.r Qo 0 0 out.length)),(4,(zci i))],[(0,(.sl 39 Qo (.dp 0 true []) out))],1⟩
theorem QjE (a:List Qc) (i:Int) (out:List Qc) (h :
 let z1:=id (α:=Qc) (gtd Qv a (Int.toNat i))
 (zif (decide (i<(a.length:Int))) ((((0:Int)≤i∧Int.toNat i<a.length)∧((p_to (α:=Qc) (gtd Qv a (Int.toNat i)))∧(((0:Int)≤i∧Int.toNat i<out.length)∧((0+(Int.toNat i))<out.length))))∧(QeE K a (w64 (i+(1:Int))) (List.take out.length ((out).set (0+(Int.toNat i)) (z1.1,(List.take ((z1.2.1).length) (List.drop 0 (z1.2.1))),(List.take ((z1.2.2.1).length) (List.drop 0 (z1.2.2.1))),z1.2.2.2.1,z1.2.2.2.2.1,(List.take ((z1.2.2.2.2.2.1).length) (List.drop 0 (z1.2.2.2.2.2.1))),(List.take ((z1.2.2.2.2.2.2.1).length) (List.drop 0 (z1.2.2.2.2.2.2.1))),(List.take ((z1.2.2.2.2.2.2.2.1).length) (List.drop 0 (z1.2.2.2.2.2.2.2.1))),(List.take ((z1.2.2.2.2.2.2.2.2.1).length) (List.drop 0 (z1.2.2.2.2.2.2.2.2.1))),(List.take ((z1.2.2.2.2.2.2.2.2.2.1).length) (List.drop 0 (z1.2.2.2.2.2.2.2.2.2.1))),(List.take ((z1.2.2.2.2.2.2.2.2.2.2.1).length) (List.drop 0 (z1.2.2.2.2.2.2.2.2.2.2.1))),(List.take ((z1.2.2.2.2.2.2.2.2.2.2.2.1).length) (List.drop 0 (z1.2.2.2.2.2.2.2.2.2.2.2.1))),z1.2.2.2.2.2.2.2.2.2.2.2.2.1,z1.2.2.2.2.2.2.2.2.2.2.2.2.2))))) (K (JB (List.take out.length out))))):QeE K a i out :=
 Loop.of (by kernel_rfl) h
theorem Qu4 (a:List Qc) (h :
 (((0:Int)≤(a.length:Int)∧(a.length:Int)≤big)∧(QeE K a 0 (List.take (Int.toNat (a.length:Int)) (List.replicate (Int.toNat (a.length:Int)) ((0:Int),[],[],false,false,[],[],[],[],[],[],[],(0:Int),false)))))):Hold (tawp Qc3 (0+0) QCp (TQ 0 0 Qq6 K) (Qg [(.c (.sl Qo) a)])) :=
 Hold.of (by kernel_rfl) h
theorem QBW (a:List Qc) (hp:p_to (α:=List Qc) a):TCon Tryz.prog 90 [(.c (.sl Qo) a)] (JB (id (α:=List Qc) a)):=by
 refine Qk rfl fun hb=>tcg (Γ:=Qc3) (n:=23) (sg:=QgQ.sg) Ql (TOkL.cons QuK TOkL.nil) (by kernel_rfl) (by kernel_rfl) (Qu4 _ a ?_)
 refine ⟨⟨by omega,by rw [bigI];have:=Zh hp;omega⟩,?_⟩
 refine YW a (A:=fun ii ll=>QeE (fun r'=>r'=JB (id (α:=List Qc) a)) a ii ll) (Q:=fun z=>JB z=JB (id (α:=List Qc) a)) hp ?_ ?_ rfl
 ·intro k x out hlt hg ho hx hA
  have hw:w64 (((k:Nat):Int)+1)=((k+1:Nat):Int):=by have:=Zh hp;rw [Qw (by omega) (by omega)];omega
  have hlo:k<out.length:=by omega
  refine QjE (fun r'=>r'=JB (id (α:=List Qc) a)) a ((k:Nat):Int) out ?_
  conv=>zeta
  refine ⟨fun _=>?_,fun h=>absurd h (by simp;omega)⟩
  simp only [Int.toNat_natCast,Nat.zero_add,hg,hw,hlt,hlo,YB,List.drop_zero,List.take_length,id_eq,and_true,true_and,Int.natCast_nonneg]
  first | exact hA | exact ⟨hx,hA⟩
 ·intro out ho hq
  refine QjE (fun r'=>r'=JB (id (α:=List Qc) a)) a ((a.length:Nat):Int) out ?_
  conv=>zeta
  refine ⟨fun h=>absurd h (by simp),fun _=>?_⟩
  simp only [List.drop_zero,List.take_length]
  exact hq
theorem Qt1:Qj Tryz.prog QgQ:=Qn fun x h=>QBW x.1 h
def Zx (t:Bool):TRes:=zre (zcb t)
def QiO:TRow:=Qi 16 [(.a Qo),(.a Qo)] fun x=>(none,Zx (m_eq (α:=Qc) x.1 x.2.1))
def Qi8:TTab:=⟨[Qhp,Qft,Qfk,Qcc,Jt,QiT],false⟩
def Qyp:TCode :=
 (zsq [(.reg [zop 2 (.box 39 0 14),zop 3 (.box 39 1 14),zmv 4 (zkb false)]),(zsq [(.reg [zfa 5 2 0,zld 6 5 1,zfa 7 3 0,zld 8 7 1,zbi 9 .neq 6 8]),(.cond 9 (zsq [(.reg [zmv 4 (zkb false)]),.ret]) .skip)]),(zsq [(.reg [zfa 10 2 1,zld 11 10 1,zfa 12 3 1,zld 13 12 1,zca 14 75 [11,13],zno 15 14]),(.cond 15 (zsq [(.reg [zmv 4 (zkb false)]),.ret]) .skip)]),(zsq [(.reg [zfa 16 2 2,zld 17 16 1,zfa 18 3 2,zld 19 18 1,zca 20 76 [17,19],zno 21 20]),(.cond 21 (zsq [(.reg [zmv 4 (zkb false)]),.ret]) .skip)]),(zsq [(.reg [zfa 22 2 3,zld 23 22 1,zfa 24 3 3,zld 25 24 1,zop 26 (.eqb true 23 25)]),(.cond 26 (zsq [(.reg [zmv 4 (zkb false)]),.ret]) .skip)]),(zsq [(.reg [zfa 27 2 4,zld 28 27 1,zfa 29 3 4,zld 30 29 1,zop 31 (.eqb true 28 30)]),(.cond 31 (zsq [(.reg [zmv 4 (zkb false)]),.ret]) .skip)]),(zsq [(.reg [zfa 32 2 5,zld 33 32 1,zfa 34 3 5,zld 35 34 1,zca 36 77 [33,35],zno 37 36]),(.cond 37 (zsq [(.reg [zmv 4 (zkb false)]),.ret]) .skip)]),(zsq [(.reg [zfa 38 2 6,zld 39 38 1,zfa 40 3 6,zld 41 40 1,zca 42 78 [39,41],zno 43 42]),(.cond 43 (zsq [(.reg [zmv 4 (zkb false)]),.ret]) .skip)]),(zsq [(.reg [zfa 44 2 7,zld 45 44 1,zfa 46 3 7,zld 47 46 1,zca 48 23 [45,47],zno 49 48]),(.cond 49 (zsq [(.reg [zmv 4 (zkb false)]),.ret]) .skip)]),(zsq [(.reg [zfa 50 2 8,zld 51 50 1,zfa 52 3 8,zld 53 52 1,zca 54 23 [51,53],zno 55 54]),(.cond 55 (zsq [(.reg [zmv 4 (zkb false)]),.ret]) .skip)]),(zsq [(.reg [zfa 56 2 9,zld 57 56 1,zfa 58 3 9,zld 59 58 1,zca 60 23 [57,59],zno 61 60]),(.cond 61 (zsq [(.reg [zmv 4 (zkb false)]),.ret]) .skip)]),(zsq [(.reg [zfa 62 2 10,zld 63 62 1,zfa 64 3 10,zld 65 64 1,zca 66 23 [63,65],zno 67 66]),(.cond 67 (zsq [(.reg [zmv 4 (zkb false)]),.ret]) .skip)]),(zsq [(.reg [zfa 68 2 11,zLd 69 68 3,zfa 70 3 11,zLd 71 70 3,zca 72 46 [69,71],zno 73 72]),(.cond 73 (zsq [(.reg [zmv 4 (zkb false)]),.ret]) .skip)]),(.reg [zmv 4 (zkb true)]),.ret])
def QFh:List (ARv × Md):=[(.t 4,.one .d)]
theorem QvU (a:Qc) (b:Qc) (h :
 (zif (a.1 != b.1) (K (Zx false)) (zif (!(m_eq (α:=List TIns) a.2.1 b.2.1)) (K (Zx false)) (zif (!(m_eq (α:=List TOp') a.2.2.1 b.2.2.1)) (K (Zx false)) (zif (!(a.2.2.2.1==b.2.2.2.1)) (K (Zx false)) (zif (!(a.2.2.2.2.1==b.2.2.2.2.1)) (K (Zx false)) (zif (!(m_eq (α:=List Qr) a.2.2.2.2.2.1 b.2.2.2.2.2.1)) (K (Zx false)) (zif (!(m_eq (α:=List (List Int)) a.2.2.2.2.2.2.1 b.2.2.2.2.2.2.1)) (K (Zx false)) (zif (!(m_eq (α:=List Int) a.2.2.2.2.2.2.2.1 b.2.2.2.2.2.2.2.1)) (K (Zx false)) (zif (!(m_eq (α:=List Int) a.2.2.2.2.2.2.2.2.1 b.2.2.2.2.2.2.2.2.1)) (K (Zx false)) (zif (!(m_eq (α:=List Int) a.2.2.2.2.2.2.2.2.2.1 b.2.2.2.2.2.2.2.2.2.1)) (K (Zx false)) (zif (!(m_eq (α:=List Int) a.2.2.2.2.2.2.2.2.2.2.1 b.2.2.2.2.2.2.2.2.2.2.1)) (K (Zx false)) (zif (!(m_eq (α:=QT) a.2.2.2.2.2.2.2.2.2.2.2 b.2.2.2.2.2.2.2.2.2.2.2)) (K (Zx false)) (K (Zx true))))))))))))))):Hold (tawp Qi8 (0+0) Qyp (TQ 0 0 QFh K) (Qg [(.a (Tup.cells Qo a)),(.a (Tup.cells Qo b))])) :=
 Hold.of (by kernel_rfl) h
theorem Qvu (a:Qc) (b:Qc):TCon Tryz.prog 16 [(.a (Tup.cells Qo a)),(.a (Tup.cells Qo b))] (Zx (m_eq (α:=Qc) a b)):=by
 refine Qk rfl fun hb=>tcg (Γ:=Qi8) (n:=74) (sg:=QiO.sg) Ql (TOkL.cons Qxq (TOkL.cons QuS (TOkL.cons Qto (TOkL.cons QfH (TOkL.cons Qa0 (TOkL.cons QDh TOkL.nil)))))) (by kernel_rfl) (by kernel_rfl) (QvU _ a b ?_)
 refine ⟨fun h=>R_eq (Eq.symm (decide_eq_false (by rintro rfl;simp [m_eq] at h))),fun h0=>?_⟩
 refine ⟨fun h=>R_eq (Eq.symm (decide_eq_false (by rintro rfl;simp [m_eq] at h))),fun h1=>?_⟩
 refine ⟨fun h=>R_eq (Eq.symm (decide_eq_false (by rintro rfl;simp [m_eq] at h))),fun h2=>?_⟩
 refine ⟨fun h=>R_eq (Eq.symm (decide_eq_false (by rintro rfl;simp [m_eq] at h))),fun h3=>?_⟩
 refine ⟨fun h=>R_eq (Eq.symm (decide_eq_false (by rintro rfl;simp [m_eq] at h))),fun h4=>?_⟩
 refine ⟨fun h=>R_eq (Eq.symm (decide_eq_false (by rintro rfl;simp [m_eq] at h))),fun h5=>?_⟩
 refine ⟨fun h=>R_eq (Eq.symm (decide_eq_false (by rintro rfl;simp [m_eq] at h))),fun h6=>?_⟩
 refine ⟨fun h=>R_eq (Eq.symm (decide_eq_false (by rintro rfl;simp [m_eq] at h))),fun h7=>?_⟩
 refine ⟨fun h=>R_eq (Eq.symm (decide_eq_false (by rintro rfl;simp [m_eq] at h))),fun h8=>?_⟩
 refine ⟨fun h=>R_eq (Eq.symm (decide_eq_false (by rintro rfl;simp [m_eq] at h))),fun h9=>?_⟩
 refine ⟨fun h=>R_eq (Eq.symm (decide_eq_false (by rintro rfl;simp [m_eq] at h))),fun h10=>?_⟩
 refine ⟨fun h=>R_eq (Eq.symm (decide_eq_false (by rintro rfl;simp [m_eq] at h))),fun h11=>?_⟩
 refine R_eq (Eq.symm (decide_eq_true ?_))
 simp [m_eq] at h0 h1 h2 h3 h4 h5 h6 h7 h8 h9 h10 h11
 simp [Prod.ext_iff, *]
theorem Qy8:Qj Tryz.prog QiO:=Qn fun x _=>Qvu x.1 x.2.1
def J2 (t:Bool):TRes:=zre (zcb t)
def Qhj:TRow:=Qi 93 [(.c (.sl Qo)),(.c (.sl Qo))] fun x=>(none,J2 (m_eq (α:=List Qc) x.1 x.2.1))
def QcP:TTab:=⟨[QiO],false⟩
def QkD:TCode :=
 (zsq [(zsq [(.reg [zmv 11 5,zmv 12 0,zle 13 12,zbi 14 .lss 11 13]),(.cond 14 .skip (.exit 0))]),(.block 1 (zsq [(.draw [zmv 17 0,zmv 18 5,zia 19 17 18 Qo,zLd 20 19 14,zmv 21 1,zmv 22 5,zia 23 21 22 Qo,zLd 24 23 14,zca 25 16 [20,24],zno 26 25] []),(.cond 26 (zsq [(.reg [zmv 4 (zkb false)]),.ret]) .skip)])),(.reg [zmv 15 5,zbi 16 .add 15 (zki 1),zmv 5 16])])
def Qj0:List (Nat × Md):=zdl [0,1,5]
def QlM:TCode :=
 (zsq [(.reg [zmv 4 (zkb true)]),.ret])
def QD4:TCode :=
 (zsq [(.reg [zmv 4 (zkb false)]),(zsq [(.reg [zmv 6 0,zle 7 6,zmv 8 1,zle 9 8,zbi 10 .neq 7 9]),(.cond 10 (zsq [(.reg [zmv 4 (zkb false)]),.ret]) .skip)]),(zsq [(.reg [zmv 5 (zki 0)]),(.block 0 (.loop Qj0 QkD))]),QlM])
def Qk9:List (ARv × Md):=[(.t 4,.one .d)]
def Qrg:Qb:=TQ 0 0 Qk9 K
def QBw:Qb:=Qseq (tawp QcP 0 QlM (Qrg K)) (Qrg K)
def QDV:Qb:=Qblk 0 (QBw K)
def QfQ (a:List Qc) (b:List Qc) (i:Int):Prop:=Loop QcP 0 Qj0 QkD (QDV K) ⟨[(0,(zcs Qo a)),(1,(zcs Qo b)),(5,(zci i))],[],0⟩
theorem QyT (a:List Qc) (b:List Qc) (i:Int) (h :
 (zif (decide (i<(a.length:Int))) ((((0:Int)≤i∧Int.toNat i<a.length)∧((0:Int)≤i∧Int.toNat i<b.length))∧(zif (!(m_eq (α:=Qc) (gtd Qv a (Int.toNat i)) (gtd Qv b (Int.toNat i)))) (K (J2 false)) (QfQ K a b (w64 (i+(1:Int)))))) (K (J2 true)))):QfQ K a b i :=
 Loop.of (by kernel_rfl) h
theorem QA6 (a:List Qc) (b:List Qc) (h :
 (zif ((a.length:Int) != (b.length:Int)) (K (J2 false)) (QfQ K a b 0))):Hold (tawp QcP (0+0) QD4 (TQ 0 0 Qk9 K) (Qg [(.c (.sl Qo) a),(.c (.sl Qo) b)])) :=
 Hold.of (by kernel_rfl) h
theorem Qss (a:List Qc) (b:List Qc):TCon Tryz.prog 93 [(.c (.sl Qo) a),(.c (.sl Qo) b)] (J2 (m_eq (α:=List Qc) a b)):=by
 refine Qk rfl fun hb=>tcg (Γ:=QcP) (n:=27) (sg:=Qhj.sg) Ql (TOkL.cons Qy8 TOkL.nil) (by kernel_rfl) (by kernel_rfl) (QA6 _ a b ?_)
 exact YH Qv (E:=m_eq) (fun _ _=>rfl) hb.1.1 (fun i h=>QyT _ a b i h) (Q:=fun x=>J2 x=J2 (m_eq (α:=List Qc) a b)) rfl
theorem QDO:Qj Tryz.prog Qhj:=Qn fun x _=>Qss x.1 x.2.1
end
end Go.Proofs.YtdplaepmjogjjaaGreat.Am

