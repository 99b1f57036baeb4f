/- -/
import Derived.Test.YtdplaepmjogjjaaGreatVCMK1
import Derived.Test.YtdplaepmjogjjaaGreatVCMK2
import Derived.Test.YtdplaepmjogjjaaGreatVCGF
namespace Go.Proofs.YtdplaepmjogjjaaGreat.Am
open Go Go.RowKit Go.Proofs.YtdplaepmjogjjaaGreat
set_option linter.all false
noncomputable section
variable (K:TRes→Prop)
def Qja (t:Int × Qc):TRes:=⟨(zci t.1),[],[],true,[(.sl 0 Qr (.dp 0 false []) t.2.2.1),(.sl 0 ctOp (.dp 0 false []) t.2.2.2.1),(.sl 0 Ql (.dp 0 false []) t.2.2.2.2.2.2.1),(.sl 0 [(.sl [TI])] (.dp 0 false []) t.2.2.2.2.2.2.2.1),(.sl 0 [TI] (.dp 0 false []) t.2.2.2.2.2.2.2.2.1),(.sl 0 [TI] (.dp 0 false []) t.2.2.2.2.2.2.2.2.2.1),(.sl 0 [TI] (.dp 0 false []) t.2.2.2.2.2.2.2.2.2.2.1),(.sl 0 [TI] (.dp 0 false []) t.2.2.2.2.2.2.2.2.2.2.2.1),(.sl 0 [(.sl [TI])] (.dp 0 false []) t.2.2.2.2.2.2.2.2.2.2.2.2.1)]⟩
def Qi1:TRow:=Qg 17 [(.s Qp),(.c TI)] fun x=>(none,Qja (QG (α:=Qc) x.1 x.2.1))
def Qs4:TTab:=⟨[QgC,QhX,QgV,QcL,Qbd,QiP],true⟩
def QBj:TCode :=
 (zsq [(.reg [zop 2 (.box 39 0 14),zmv 4 (zki 0)]),(.reg [zfa 5 2 1,zld 6 5 1,zmv 7 1,zca 8 79 [6,7],zmv 1 8]),(.reg [zfa 9 2 2,zld 10 9 1,zmv 11 1,zca 12 80 [10,11],zmv 1 12]),(.reg [zfa 13 2 5,zld 14 13 1,zmv 15 1,zca 16 81 [14,15],zmv 1 16]),(.reg [zfa 17 2 6,zld 18 17 1,zmv 19 1,zca 20 82 [18,19],zmv 1 20]),(.reg [zfa 21 2 7,zld 22 21 1,zmv 23 1,zca 24 26 [22,23],zmv 1 24]),(.reg [zfa 25 2 8,zld 26 25 1,zmv 27 1,zca 28 26 [26,27],zmv 1 28]),(.reg [zfa 29 2 9,zld 30 29 1,zmv 31 1,zca 32 26 [30,31],zmv 1 32]),(.reg [zfa 33 2 10,zld 34 33 1,zmv 35 1,zca 36 26 [34,35],zmv 1 36]),(.reg [zfa 37 2 11,zLd 38 37 3,zmv 39 1,zca 40 47 [38,39],zmv 1 40]),(.reg [zmv 41 1,zmv 4 41]),.ret])
def QBF:List (ARv × Md):=[(.t 4,.one .d)]
theorem QzF (a:Qc) (k:Int) (h :
 let z5:=Qz (α:=List TOp') a.2.2.1 ((Qz (α:=List TIns) a.2.1 k).1)
 let z3:=Qz (α:=List Qf) a.2.2.2.2.2.1 (z5.1)
 let z7:=Qz (α:=List (List Int)) a.2.2.2.2.2.2.1 (z3.1)
 let z1:=Qz (α:=List Int) a.2.2.2.2.2.2.2.1 (z7.1)
 let z8:=Qz (α:=List Int) a.2.2.2.2.2.2.2.2.1 (z1.1)
 let z4:=Qz (α:=List Int) a.2.2.2.2.2.2.2.2.2.1 (z8.1)
 let z2:=Qz (α:=List Int) a.2.2.2.2.2.2.2.2.2.2.1 (z4.1)
 let z6:=QG (α:=Qy) a.2.2.2.2.2.2.2.2.2.2.2 (z2.1)
 (((a.2.1).length=(a.2.1).length)∧(((a.2.2.1).length=(a.2.2.1).length)∧(((a.2.2.2.2.2.1).length=(a.2.2.2.2.2.1).length)∧(((a.2.2.2.2.2.2.1).length=(a.2.2.2.2.2.2.1).length)∧(((a.2.2.2.2.2.2.2.1).length=(a.2.2.2.2.2.2.2.1).length)∧(((a.2.2.2.2.2.2.2.2.1).length=(a.2.2.2.2.2.2.2.2.1).length)∧(((a.2.2.2.2.2.2.2.2.2.1).length=(a.2.2.2.2.2.2.2.2.2.1).length)∧(((a.2.2.2.2.2.2.2.2.2.2.1).length=(a.2.2.2.2.2.2.2.2.2.2.1).length)∧(((a.2.2.2.2.2.2.2.2.2.2.2.1).length=(a.2.2.2.2.2.2.2.2.2.2.2.1).length)∧K (Qja (z6.1,(a.1,(Qz (α:=List TIns) a.2.1 k).2,z5.2,a.2.2.2.1,a.2.2.2.2.1,z3.2,z7.2,z1.2,z8.2,z4.2,z2.2,(z6.2).1,a.2.2.2.2.2.2.2.2.2.2.2.2.1,a.2.2.2.2.2.2.2.2.2.2.2.2.2))))))))))))):Hold (tawp Qs4 (0+9) QBj (TQ 0 9 QBF K) (Qd [(.a [(.c TI a.1),(.ow 0 Qr dw a.2.1),(.ow 0 ctOp dw a.2.2.1),(.c .bool a.2.2.2.1),(.c .bool a.2.2.2.2.1),(.ow 0 Ql dw a.2.2.2.2.2.1),(.ow 0 [(.sl [TI])] dw a.2.2.2.2.2.2.1),(.ow 0 [TI] dw a.2.2.2.2.2.2.2.1),(.ow 0 [TI] dw a.2.2.2.2.2.2.2.2.1),(.ow 0 [TI] dw a.2.2.2.2.2.2.2.2.2.1),(.ow 0 [TI] dw a.2.2.2.2.2.2.2.2.2.2.1),(.ow 0 [(.sl [TI])] dw a.2.2.2.2.2.2.2.2.2.2.2.1),(.c TI a.2.2.2.2.2.2.2.2.2.2.2.2.1),(.c .bool a.2.2.2.2.2.2.2.2.2.2.2.2.2)]),(.c TI k)])) :=
 Hold.of (by kernel_rfl) h
theorem QIe (a:Qc) (k:Int):TCon Tryz.prog 17 [(.a [(.c TI a.1),(.ow 0 Qr dw a.2.1),(.ow 0 ctOp dw a.2.2.1),(.c .bool a.2.2.2.1),(.c .bool a.2.2.2.2.1),(.ow 0 Ql dw a.2.2.2.2.2.1),(.ow 0 [(.sl [TI])] dw a.2.2.2.2.2.2.1),(.ow 0 [TI] dw a.2.2.2.2.2.2.2.1),(.ow 0 [TI] dw a.2.2.2.2.2.2.2.2.1),(.ow 0 [TI] dw a.2.2.2.2.2.2.2.2.2.1),(.ow 0 [TI] dw a.2.2.2.2.2.2.2.2.2.2.1),(.ow 0 [(.sl [TI])] dw a.2.2.2.2.2.2.2.2.2.2.2.1),(.c TI a.2.2.2.2.2.2.2.2.2.2.2.2.1),(.c .bool a.2.2.2.2.2.2.2.2.2.2.2.2.2)]),(.c TI k)] (Qja (QG (α:=Qc) a k)):=by
 refine Qi rfl fun hb=>tcg (Γ:=Qs4) (n:=42) (sg:=Qi1.sg) Qj (TOkL.cons Qw6 (TOkL.cons QA6 (TOkL.cons Qzx (TOkL.cons QgQ (TOkL.cons Qfz (TOkL.cons QBT TOkL.nil)))))) (by kernel_rfl) (by kernel_rfl) (QzF _ a k ?_)
 have hl_a_1:(a.2.1).length≤9223372036854775807:=hb.1.2.1.1
 have hl_a_2:(a.2.2.1).length≤9223372036854775807:=hb.1.2.2.1.1
 have hl_a_5:(a.2.2.2.2.2.1).length≤9223372036854775807:=hb.1.2.2.2.2.2.1.1
 have hl_a_6:(a.2.2.2.2.2.2.1).length≤9223372036854775807:=hb.1.2.2.2.2.2.2.1.1
 have hl_a_7:(a.2.2.2.2.2.2.2.1).length≤9223372036854775807:=hb.1.2.2.2.2.2.2.2.1.1
 have hl_a_8:(a.2.2.2.2.2.2.2.2.1).length≤9223372036854775807:=hb.1.2.2.2.2.2.2.2.2.1.1
 have hl_a_9:(a.2.2.2.2.2.2.2.2.2.1).length≤9223372036854775807:=hb.1.2.2.2.2.2.2.2.2.2.1.1
 have hl_a_10:(a.2.2.2.2.2.2.2.2.2.2.1).length≤9223372036854775807:=hb.1.2.2.2.2.2.2.2.2.2.2.1.1
 have hl_a_11:(a.2.2.2.2.2.2.2.2.2.2.2.1).length≤9223372036854775807:=hb.1.2.2.2.2.2.2.2.2.2.2.2.1.1
 conv=>zeta
 repeat' apply And.intro
 all_goals first | rfl | exact R_eq rfl
theorem QBN:Qe Tryz.prog Qi1:=Qk fun x _=>QIe x.1 x.2.1
def Yk (t:Int):TRes:=zre (zci t)
def Qhn:TRow:=Qg 18 [(.a Qp),(.c TI)] fun x=>(some (ZI (α:=Qc) x.1 x.2.1),Yk (m_heldS (α:=Qc) x.1 x.2.1))
def Qn9:TTab:=⟨[Qi6,QiO,Qhg,QcH,Qc0,Qji],false⟩
def QvT:TCode :=
 (zsq [(.reg [zop 2 (.box 39 0 14),zmv 4 (zki 0)]),(.reg [zfa 5 2 1,zld 6 5 1,zmv 7 1,zca 8 83 [6,7],zmv 1 8]),(zsq [(.reg [zmv 9 1,zbi 10 .lss 9 (zki 0)]),(.cond 10 (zsq [(.reg [zmv 4 (zki (-1))]),.ret]) .skip)]),(.reg [zfa 11 2 2,zld 12 11 1,zmv 13 1,zca 14 84 [12,13],zmv 1 14]),(zsq [(.reg [zmv 15 1,zbi 16 .lss 15 (zki 0)]),(.cond 16 (zsq [(.reg [zmv 4 (zki (-1))]),.ret]) .skip)]),(.reg [zfa 17 2 5,zld 18 17 1,zmv 19 1,zca 20 85 [18,19],zmv 1 20]),(zsq [(.reg [zmv 21 1,zbi 22 .lss 21 (zki 0)]),(.cond 22 (zsq [(.reg [zmv 4 (zki (-1))]),.ret]) .skip)]),(.reg [zfa 23 2 6,zld 24 23 1,zmv 25 1,zca 26 86 [24,25],zmv 1 26]),(zsq [(.reg [zmv 27 1,zbi 28 .lss 27 (zki 0)]),(.cond 28 (zsq [(.reg [zmv 4 (zki (-1))]),.ret]) .skip)]),(.reg [zfa 29 2 7,zld 30 29 1,zmv 31 1,zca 32 27 [30,31],zmv 1 32]),(zsq [(.reg [zmv 33 1,zbi 34 .lss 33 (zki 0)]),(.cond 34 (zsq [(.reg [zmv 4 (zki (-1))]),.ret]) .skip)]),(.reg [zfa 35 2 8,zld 36 35 1,zmv 37 1,zca 38 27 [36,37],zmv 1 38]),(zsq [(.reg [zmv 39 1,zbi 40 .lss 39 (zki 0)]),(.cond 40 (zsq [(.reg [zmv 4 (zki (-1))]),.ret]) .skip)]),(.reg [zfa 41 2 9,zld 42 41 1,zmv 43 1,zca 44 27 [42,43],zmv 1 44]),(zsq [(.reg [zmv 45 1,zbi 46 .lss 45 (zki 0)]),(.cond 46 (zsq [(.reg [zmv 4 (zki (-1))]),.ret]) .skip)]),(.reg [zfa 47 2 10,zld 48 47 1,zmv 49 1,zca 50 27 [48,49],zmv 1 50]),(zsq [(.reg [zmv 51 1,zbi 52 .lss 51 (zki 0)]),(.cond 52 (zsq [(.reg [zmv 4 (zki (-1))]),.ret]) .skip)]),(.reg [zfa 53 2 11,zLd 54 53 3,zmv 55 1,zca 56 48 [54,55],zmv 1 56]),(zsq [(.reg [zmv 57 1,zbi 58 .lss 57 (zki 0)]),(.cond 58 (zsq [(.reg [zmv 4 (zki (-1))]),.ret]) .skip)]),(.reg [zmv 59 1,zmv 4 59]),.ret])
def Qxb:List (ARv × Md):=[(.t 4,.one .d)]
theorem QFS (a:Qc) (k:Int) (h :
 let z8:=m_held (α:=List TIns) a.2.1 k
 let z5:=m_held (α:=List TOp') a.2.2.1 z8
 let z3:=m_held (α:=List Qf) a.2.2.2.2.2.1 z5
 let z6:=m_held (α:=List (List Int)) a.2.2.2.2.2.2.1 z3
 let z1:=m_held (α:=List Int) a.2.2.2.2.2.2.2.1 z6
 let z7:=m_held (α:=List Int) a.2.2.2.2.2.2.2.2.1 z1
 let z2:=m_held (α:=List Int) a.2.2.2.2.2.2.2.2.2.1 z7
 let z4:=m_held (α:=List Int) a.2.2.2.2.2.2.2.2.2.2.1 z2
 let z9:=m_heldS (α:=Qy) a.2.2.2.2.2.2.2.2.2.2.2 z4
 ((QZ (α:=List TIns) a.2.1 k)∧(zif (decide (z8<(0:Int))) (K (Yk (-1:Int))) ((QZ (α:=List TOp') a.2.2.1 z8)∧(zif (decide (z5<(0:Int))) (K (Yk (-1:Int))) ((QZ (α:=List Qf) a.2.2.2.2.2.1 z5)∧(zif (decide (z3<(0:Int))) (K (Yk (-1:Int))) ((QZ (α:=List (List Int)) a.2.2.2.2.2.2.1 z3)∧(zif (decide (z6<(0:Int))) (K (Yk (-1:Int))) ((QZ (α:=List Int) a.2.2.2.2.2.2.2.1 z6)∧(zif (decide (z1<(0:Int))) (K (Yk (-1:Int))) ((QZ (α:=List Int) a.2.2.2.2.2.2.2.2.1 z1)∧(zif (decide (z7<(0:Int))) (K (Yk (-1:Int))) ((QZ (α:=List Int) a.2.2.2.2.2.2.2.2.2.1 z7)∧(zif (decide (z2<(0:Int))) (K (Yk (-1:Int))) ((QZ (α:=List Int) a.2.2.2.2.2.2.2.2.2.2.1 z2)∧(zif (decide (z4<(0:Int))) (K (Yk (-1:Int))) ((ZI (α:=Qy) a.2.2.2.2.2.2.2.2.2.2.2 z4)∧(zif (decide (z9<(0:Int))) (K (Yk (-1:Int))) (K (Yk z9))))))))))))))))))))):Hold (tawp Qn9 (0+0) QvT (TQ 0 0 Qxb K) (Qd [(.a (Tup.cells Qp a)),(.c TI k)])) :=
 Hold.of (by kernel_rfl) h
theorem QD0 (a:Qc) (k:Int) (hp:ZI (α:=Qc) a k):TCon Tryz.prog 18 [(.a (Tup.cells Qp a)),(.c TI k)] (Yk (m_heldS (α:=Qc) a k)):=by
 refine Qi rfl fun hb=>tcg (Γ:=Qn9) (n:=60) (sg:=Qhn.sg) Qj (TOkL.cons QzK (TOkL.cons Qxz (TOkL.cons Qz9 (TOkL.cons Qh1 (TOkL.cons Qj8 (TOkL.cons QHV TOkL.nil)))))) (by kernel_rfl) (by kernel_rfl) (QFS _ a k ?_)
 have hl_a_1:(a.2.1).length≤9223372036854775807:=hb.1.2.1.1
 have hl_a_2:(a.2.2.1).length≤9223372036854775807:=hb.1.2.2.1.1
 have hl_a_5:(a.2.2.2.2.2.1).length≤9223372036854775807:=hb.1.2.2.2.2.2.1.1
 have hl_a_6:(a.2.2.2.2.2.2.1).length≤9223372036854775807:=hb.1.2.2.2.2.2.2.1.1
 have hl_a_7:(a.2.2.2.2.2.2.2.1).length≤9223372036854775807:=hb.1.2.2.2.2.2.2.2.1.1
 have hl_a_8:(a.2.2.2.2.2.2.2.2.1).length≤9223372036854775807:=hb.1.2.2.2.2.2.2.2.2.1.1
 have hl_a_9:(a.2.2.2.2.2.2.2.2.2.1).length≤9223372036854775807:=hb.1.2.2.2.2.2.2.2.2.2.1.1
 have hl_a_10:(a.2.2.2.2.2.2.2.2.2.2.1).length≤9223372036854775807:=hb.1.2.2.2.2.2.2.2.2.2.2.1.1
 have hl_a_11:(a.2.2.2.2.2.2.2.2.2.2.2.1).length≤9223372036854775807:=hb.1.2.2.2.2.2.2.2.2.2.2.2.1.1
 conv=>zeta
 have hp0:=(Zd hp).1
 have hq0:=(Zd hp).2
 have hp1:=(Zd hq0).1
 have hq1:=(Zd hq0).2
 have hp2:=(Zd hq1).1
 have hq2:=(Zd hq1).2
 have hp3:=(Zd hq2).1
 have hq3:=(Zd hq2).2
 have hp4:=(Zd hq3).1
 have hq4:=(Zd hq3).2
 have hp5:=(Zd hq4).1
 have hq5:=(Zd hq4).2
 have hp6:=(Zd hq5).1
 have hq6:=(Zd hq5).2
 have hp7:=(Zd hq6).1
 have hq7:=(Zd hq6).2
 have hp8:=(Zd hq7).1
 have hq8:=(Zd hq7).2
 have hp9:=(Zd hq8).1
 have hq9:=(Zd hq8).2
 have hp10:=(Zd hq9).1
 have hq10:=(Zd hq9).2
 simp only [QmZ,Qlz,QtN,QnO] at hp0 hq0 hp1 hq1 hp2 hq2 hp3 hq3 hp4 hq4 hp5 hq5 hp6 hq6 hp7 hq7 hp8 hq8 hp9 hq9 hp10 hq10
 refine ⟨(ZC hp1),fun h=>R_eq (YB (fun e=>Yl (ZC hp1) (of_decide_eq_true h) (congrArg (fun z=>z.2.1) e))).symm,fun g0=>?_⟩
 obtain ⟨e0,h0⟩:=Yf (of_decide_eq_false g0)
 rw [h0]
 refine ⟨(ZC hp2),fun h=>R_eq (YB (fun e=>Yl (ZC hp2) (of_decide_eq_true h) (congrArg (fun z=>z.2.2.1) e))).symm,fun g1=>?_⟩
 obtain ⟨e1,h1⟩:=Yf (of_decide_eq_false g1)
 rw [h1]
 refine ⟨(ZC hp5),fun h=>R_eq (YB (fun e=>Yl (ZC hp5) (of_decide_eq_true h) (congrArg (fun z=>z.2.2.2.2.2.1) e))).symm,fun g2=>?_⟩
 obtain ⟨e2,h2⟩:=Yf (of_decide_eq_false g2)
 rw [h2]
 refine ⟨(ZC hp6),fun h=>R_eq (YB (fun e=>Yl (ZC hp6) (of_decide_eq_true h) (congrArg (fun z=>z.2.2.2.2.2.2.1) e))).symm,fun g3=>?_⟩
 obtain ⟨e3,h3⟩:=Yf (of_decide_eq_false g3)
 rw [h3]
 refine ⟨(ZC hp7),fun h=>R_eq (YB (fun e=>Yl (ZC hp7) (of_decide_eq_true h) (congrArg (fun z=>z.2.2.2.2.2.2.2.1) e))).symm,fun g4=>?_⟩
 obtain ⟨e4,h4⟩:=Yf (of_decide_eq_false g4)
 rw [h4]
 refine ⟨(ZC hp8),fun h=>R_eq (YB (fun e=>Yl (ZC hp8) (of_decide_eq_true h) (congrArg (fun z=>z.2.2.2.2.2.2.2.2.1) e))).symm,fun g5=>?_⟩
 obtain ⟨e5,h5⟩:=Yf (of_decide_eq_false g5)
 rw [h5]
 refine ⟨(ZC hp9),fun h=>R_eq (YB (fun e=>Yl (ZC hp9) (of_decide_eq_true h) (congrArg (fun z=>z.2.2.2.2.2.2.2.2.2.1) e))).symm,fun g6=>?_⟩
 obtain ⟨e6,h6⟩:=Yf (of_decide_eq_false g6)
 rw [h6]
 refine ⟨(ZC hp10),fun h=>R_eq (YB (fun e=>Yl (ZC hp10) (of_decide_eq_true h) (congrArg (fun z=>z.2.2.2.2.2.2.2.2.2.2.1) e))).symm,fun g7=>?_⟩
 obtain ⟨e7,h7⟩:=Yf (of_decide_eq_false g7)
 rw [h7]
 refine ⟨hq10,fun h=>R_eq (YB (fun e=>QwU hq10 (of_decide_eq_true h) (congrArg (fun z=>z.2.2.2.2.2.2.2.2.2.2.2) e))).symm,fun g8=>?_⟩
 obtain ⟨e8,h8⟩:=QAt (of_decide_eq_false g8)
 rw [h8]
 exact R_eq (Qcb (x:=a) (k:=k) (Prod.ext rfl (Prod.ext e0 (Prod.ext e1 (Prod.ext rfl (Prod.ext rfl (Prod.ext e2 (Prod.ext e3 (Prod.ext e4 (Prod.ext e5 (Prod.ext e6 (Prod.ext e7 e8)))))))))))).symm
theorem QAm:Qe Tryz.prog Qhn:=Qk fun x h=>QD0 x.1 x.2.1 h
end
end Go.Proofs.YtdplaepmjogjjaaGreat.Am

