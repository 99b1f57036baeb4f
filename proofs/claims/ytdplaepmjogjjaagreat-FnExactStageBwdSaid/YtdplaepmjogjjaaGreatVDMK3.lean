/- -/
import Derived.Test.YtdplaepmjogjjaaGreatVDMK1
import Derived.Test.YtdplaepmjogjjaaGreatVDMK2
import Derived.Test.YtdplaepmjogjjaaGreatVDGF
namespace Go.Proofs.YtdplaepmjogjjaaGreat.Am
open Go Go.RowKit Go.Proofs.YtdplaepmjogjjaaGreat
set_option linter.all false
noncomputable section
variable (K:TRes→Prop)
def Qj0 (t:Int × Qc):TRes:=⟨(zci t.1),[],[],true,[(.sl 0 Qt (.dp 0 false []) t.2.2.1),(.sl 0 ctOp (.dp 0 false []) t.2.2.2.1),(.sl 0 Ql (.dp 0 false []) t.2.2.2.2.2.2.1),(.sl 0 [(.sl [TI])] (.dp 0 false []) t.2.2.2.2.2.2.2.1),(.sl 0 [TI] (.dp 0 false []) t.2.2.2.2.2.2.2.2.1),(.sl 0 [TI] (.dp 0 false []) t.2.2.2.2.2.2.2.2.2.1),(.sl 0 [TI] (.dp 0 false []) t.2.2.2.2.2.2.2.2.2.2.1),(.sl 0 [TI] (.dp 0 false []) t.2.2.2.2.2.2.2.2.2.2.2.1),(.sl 0 [(.sl [TI])] (.dp 0 false []) t.2.2.2.2.2.2.2.2.2.2.2.2.1)]⟩
def Qhe:TRow:=Qg 17 [(.s Qs),(.c TI)] fun x=>(none,Qj0 (QL (α:=Qc) x.1 x.2.1))
def Quy:TTab:=⟨[Qh4,QjL,Qht,Qck,Qbl,QgT],true⟩
def QxV:TCode :=
 (zsq [(.reg [zop 2 (.box 39 0 14),zmv 4 (zki 0)]),(.reg [zfa 5 2 1,zld 6 5 1,zmv 7 1,zca 8 79 [6,7],zmv 1 8]),(.reg [zfa 9 2 2,zld 10 9 1,zmv 11 1,zca 12 80 [10,11],zmv 1 12]),(.reg [zfa 13 2 5,zld 14 13 1,zmv 15 1,zca 16 81 [14,15],zmv 1 16]),(.reg [zfa 17 2 6,zld 18 17 1,zmv 19 1,zca 20 82 [18,19],zmv 1 20]),(.reg [zfa 21 2 7,zld 22 21 1,zmv 23 1,zca 24 26 [22,23],zmv 1 24]),(.reg [zfa 25 2 8,zld 26 25 1,zmv 27 1,zca 28 26 [26,27],zmv 1 28]),(.reg [zfa 29 2 9,zld 30 29 1,zmv 31 1,zca 32 26 [30,31],zmv 1 32]),(.reg [zfa 33 2 10,zld 34 33 1,zmv 35 1,zca 36 26 [34,35],zmv 1 36]),(.reg [zfa 37 2 11,zLd 38 37 3,zmv 39 1,zca 40 47 [38,39],zmv 1 40]),(.reg [zmv 41 1,zmv 4 41]),.ret])
def QxY:List (ARv × Md):=[(.t 4,.one .d)]
theorem QHK (a:Qc) (k:Int) (h :
 let z5:=QD (α:=List TOp') a.2.2.1 ((QD (α:=List TIns) a.2.1 k).1)
 let z3:=QD (α:=List Qe) a.2.2.2.2.2.1 (z5.1)
 let z7:=QD (α:=List (List Int)) a.2.2.2.2.2.2.1 (z3.1)
 let z1:=QD (α:=List Int) a.2.2.2.2.2.2.2.1 (z7.1)
 let z8:=QD (α:=List Int) a.2.2.2.2.2.2.2.2.1 (z1.1)
 let z4:=QD (α:=List Int) a.2.2.2.2.2.2.2.2.2.1 (z8.1)
 let z2:=QD (α:=List Int) a.2.2.2.2.2.2.2.2.2.2.1 (z4.1)
 let z6:=QL (α:=Qm) a.2.2.2.2.2.2.2.2.2.2.2 (z2.1)
 (((a.2.1).length=(a.2.1).length)∧(((a.2.2.1).length=(a.2.2.1).length)∧(((a.2.2.2.2.2.1).length=(a.2.2.2.2.2.1).length)∧(((a.2.2.2.2.2.2.1).length=(a.2.2.2.2.2.2.1).length)∧(((a.2.2.2.2.2.2.2.1).length=(a.2.2.2.2.2.2.2.1).length)∧(((a.2.2.2.2.2.2.2.2.1).length=(a.2.2.2.2.2.2.2.2.1).length)∧(((a.2.2.2.2.2.2.2.2.2.1).length=(a.2.2.2.2.2.2.2.2.2.1).length)∧(((a.2.2.2.2.2.2.2.2.2.2.1).length=(a.2.2.2.2.2.2.2.2.2.2.1).length)∧(((a.2.2.2.2.2.2.2.2.2.2.2.1).length=(a.2.2.2.2.2.2.2.2.2.2.2.1).length)∧K (Qj0 (z6.1,(a.1,(QD (α:=List TIns) a.2.1 k).2,z5.2,a.2.2.2.1,a.2.2.2.2.1,z3.2,z7.2,z1.2,z8.2,z4.2,z2.2,(z6.2).1,a.2.2.2.2.2.2.2.2.2.2.2.2.1,a.2.2.2.2.2.2.2.2.2.2.2.2.2))))))))))))):Hold (tawp Quy (0+9) QxV (TQ 0 9 QxY K) (Qd [(.a [(.c TI a.1),(.ow 0 Qt dw a.2.1),(.ow 0 ctOp dw a.2.2.1),(.c .bool a.2.2.2.1),(.c .bool a.2.2.2.2.1),(.ow 0 Ql dw a.2.2.2.2.2.1),(.ow 0 [(.sl [TI])] dw a.2.2.2.2.2.2.1),(.ow 0 [TI] dw a.2.2.2.2.2.2.2.1),(.ow 0 [TI] dw a.2.2.2.2.2.2.2.2.1),(.ow 0 [TI] dw a.2.2.2.2.2.2.2.2.2.1),(.ow 0 [TI] dw a.2.2.2.2.2.2.2.2.2.2.1),(.ow 0 [(.sl [TI])] dw a.2.2.2.2.2.2.2.2.2.2.2.1),(.c TI a.2.2.2.2.2.2.2.2.2.2.2.2.1),(.c .bool a.2.2.2.2.2.2.2.2.2.2.2.2.2)]),(.c TI k)])) :=
 Hold.of (by kernel_rfl) h
theorem QDE (a:Qc) (k:Int):TCon Tryz.prog 17 [(.a [(.c TI a.1),(.ow 0 Qt dw a.2.1),(.ow 0 ctOp dw a.2.2.1),(.c .bool a.2.2.2.1),(.c .bool a.2.2.2.2.1),(.ow 0 Ql dw a.2.2.2.2.2.1),(.ow 0 [(.sl [TI])] dw a.2.2.2.2.2.2.1),(.ow 0 [TI] dw a.2.2.2.2.2.2.2.1),(.ow 0 [TI] dw a.2.2.2.2.2.2.2.2.1),(.ow 0 [TI] dw a.2.2.2.2.2.2.2.2.2.1),(.ow 0 [TI] dw a.2.2.2.2.2.2.2.2.2.2.1),(.ow 0 [(.sl [TI])] dw a.2.2.2.2.2.2.2.2.2.2.2.1),(.c TI a.2.2.2.2.2.2.2.2.2.2.2.2.1),(.c .bool a.2.2.2.2.2.2.2.2.2.2.2.2.2)]),(.c TI k)] (Qj0 (QL (α:=Qc) a k)):=by
 refine Qh rfl fun hb=>tcg (Γ:=Quy) (n:=42) (sg:=Qhe.sg) Qi (TOkL.cons QA9 (TOkL.cons Qwn (TOkL.cons QGY (TOkL.cons Qj1 (TOkL.cons Qgd (TOkL.cons QzT TOkL.nil)))))) (by kernel_rfl) (by kernel_rfl) (QHK _ a k ?_)
 have hl_a_1:(a.2.1).length≤9223372036854775807:=hb.1.2.1.1
 have hl_a_2:(a.2.2.1).length≤9223372036854775807:=hb.1.2.2.1.1
 have hl_a_5:(a.2.2.2.2.2.1).length≤9223372036854775807:=hb.1.2.2.2.2.2.1.1
 have hl_a_6:(a.2.2.2.2.2.2.1).length≤9223372036854775807:=hb.1.2.2.2.2.2.2.1.1
 have hl_a_7:(a.2.2.2.2.2.2.2.1).length≤9223372036854775807:=hb.1.2.2.2.2.2.2.2.1.1
 have hl_a_8:(a.2.2.2.2.2.2.2.2.1).length≤9223372036854775807:=hb.1.2.2.2.2.2.2.2.2.1.1
 have hl_a_9:(a.2.2.2.2.2.2.2.2.2.1).length≤9223372036854775807:=hb.1.2.2.2.2.2.2.2.2.2.1.1
 have hl_a_10:(a.2.2.2.2.2.2.2.2.2.2.1).length≤9223372036854775807:=hb.1.2.2.2.2.2.2.2.2.2.2.1.1
 have hl_a_11:(a.2.2.2.2.2.2.2.2.2.2.2.1).length≤9223372036854775807:=hb.1.2.2.2.2.2.2.2.2.2.2.2.1.1
 conv=>zeta
 repeat' apply And.intro
 all_goals first | rfl | exact R_eq rfl
theorem Qzk:Qf Tryz.prog Qhe:=Qj fun x _=>QDE x.1 x.2.1
def YC (t:Int):TRes:=zre (zci t)
def QiA:TRow:=Qg 18 [(.a Qs),(.c TI)] fun x=>(some (ZW (α:=Qc) x.1 x.2.1),YC (m_heldS (α:=Qc) x.1 x.2.1))
def Qpy:TTab:=⟨[Qhs,QgR,QhU,QcT,QdC,Qij],false⟩
def QAp:TCode :=
 (zsq [(.reg [zop 2 (.box 39 0 14),zmv 4 (zki 0)]),(.reg [zfa 5 2 1,zld 6 5 1,zmv 7 1,zca 8 83 [6,7],zmv 1 8]),(zsq [(.reg [zmv 9 1,zbi 10 .lss 9 (zki 0)]),(.cond 10 (zsq [(.reg [zmv 4 (zki (-1))]),.ret]) .skip)]),(.reg [zfa 11 2 2,zld 12 11 1,zmv 13 1,zca 14 84 [12,13],zmv 1 14]),(zsq [(.reg [zmv 15 1,zbi 16 .lss 15 (zki 0)]),(.cond 16 (zsq [(.reg [zmv 4 (zki (-1))]),.ret]) .skip)]),(.reg [zfa 17 2 5,zld 18 17 1,zmv 19 1,zca 20 85 [18,19],zmv 1 20]),(zsq [(.reg [zmv 21 1,zbi 22 .lss 21 (zki 0)]),(.cond 22 (zsq [(.reg [zmv 4 (zki (-1))]),.ret]) .skip)]),(.reg [zfa 23 2 6,zld 24 23 1,zmv 25 1,zca 26 86 [24,25],zmv 1 26]),(zsq [(.reg [zmv 27 1,zbi 28 .lss 27 (zki 0)]),(.cond 28 (zsq [(.reg [zmv 4 (zki (-1))]),.ret]) .skip)]),(.reg [zfa 29 2 7,zld 30 29 1,zmv 31 1,zca 32 27 [30,31],zmv 1 32]),(zsq [(.reg [zmv 33 1,zbi 34 .lss 33 (zki 0)]),(.cond 34 (zsq [(.reg [zmv 4 (zki (-1))]),.ret]) .skip)]),(.reg [zfa 35 2 8,zld 36 35 1,zmv 37 1,zca 38 27 [36,37],zmv 1 38]),(zsq [(.reg [zmv 39 1,zbi 40 .lss 39 (zki 0)]),(.cond 40 (zsq [(.reg [zmv 4 (zki (-1))]),.ret]) .skip)]),(.reg [zfa 41 2 9,zld 42 41 1,zmv 43 1,zca 44 27 [42,43],zmv 1 44]),(zsq [(.reg [zmv 45 1,zbi 46 .lss 45 (zki 0)]),(.cond 46 (zsq [(.reg [zmv 4 (zki (-1))]),.ret]) .skip)]),(.reg [zfa 47 2 10,zld 48 47 1,zmv 49 1,zca 50 27 [48,49],zmv 1 50]),(zsq [(.reg [zmv 51 1,zbi 52 .lss 51 (zki 0)]),(.cond 52 (zsq [(.reg [zmv 4 (zki (-1))]),.ret]) .skip)]),(.reg [zfa 53 2 11,zLd 54 53 3,zmv 55 1,zca 56 48 [54,55],zmv 1 56]),(zsq [(.reg [zmv 57 1,zbi 58 .lss 57 (zki 0)]),(.cond 58 (zsq [(.reg [zmv 4 (zki (-1))]),.ret]) .skip)]),(.reg [zmv 59 1,zmv 4 59]),.ret])
def QAS:List (ARv × Md):=[(.t 4,.one .d)]
theorem QDg (a:Qc) (k:Int) (h :
 let z8:=m_held (α:=List TIns) a.2.1 k
 let z5:=m_held (α:=List TOp') a.2.2.1 z8
 let z3:=m_held (α:=List Qe) a.2.2.2.2.2.1 z5
 let z6:=m_held (α:=List (List Int)) a.2.2.2.2.2.2.1 z3
 let z1:=m_held (α:=List Int) a.2.2.2.2.2.2.2.1 z6
 let z7:=m_held (α:=List Int) a.2.2.2.2.2.2.2.2.1 z1
 let z2:=m_held (α:=List Int) a.2.2.2.2.2.2.2.2.2.1 z7
 let z4:=m_held (α:=List Int) a.2.2.2.2.2.2.2.2.2.2.1 z2
 let z9:=m_heldS (α:=Qm) a.2.2.2.2.2.2.2.2.2.2.2 z4
 ((Q5 (α:=List TIns) a.2.1 k)∧(zif (decide (z8<(0:Int))) (K (YC (-1:Int))) ((Q5 (α:=List TOp') a.2.2.1 z8)∧(zif (decide (z5<(0:Int))) (K (YC (-1:Int))) ((Q5 (α:=List Qe) a.2.2.2.2.2.1 z5)∧(zif (decide (z3<(0:Int))) (K (YC (-1:Int))) ((Q5 (α:=List (List Int)) a.2.2.2.2.2.2.1 z3)∧(zif (decide (z6<(0:Int))) (K (YC (-1:Int))) ((Q5 (α:=List Int) a.2.2.2.2.2.2.2.1 z6)∧(zif (decide (z1<(0:Int))) (K (YC (-1:Int))) ((Q5 (α:=List Int) a.2.2.2.2.2.2.2.2.1 z1)∧(zif (decide (z7<(0:Int))) (K (YC (-1:Int))) ((Q5 (α:=List Int) a.2.2.2.2.2.2.2.2.2.1 z7)∧(zif (decide (z2<(0:Int))) (K (YC (-1:Int))) ((Q5 (α:=List Int) a.2.2.2.2.2.2.2.2.2.2.1 z2)∧(zif (decide (z4<(0:Int))) (K (YC (-1:Int))) ((ZW (α:=Qm) a.2.2.2.2.2.2.2.2.2.2.2 z4)∧(zif (decide (z9<(0:Int))) (K (YC (-1:Int))) (K (YC z9))))))))))))))))))))):Hold (tawp Qpy (0+0) QAp (TQ 0 0 QAS K) (Qd [(.a (Tup.cells Qs a)),(.c TI k)])) :=
 Hold.of (by kernel_rfl) h
theorem QzZ (a:Qc) (k:Int) (hp:ZW (α:=Qc) a k):TCon Tryz.prog 18 [(.a (Tup.cells Qs a)),(.c TI k)] (YC (m_heldS (α:=Qc) a k)):=by
 refine Qh rfl fun hb=>tcg (Γ:=Qpy) (n:=60) (sg:=QiA.sg) Qi (TOkL.cons Qx3 (TOkL.cons Qxt (TOkL.cons QyX (TOkL.cons QhI (TOkL.cons QiL (TOkL.cons QKg TOkL.nil)))))) (by kernel_rfl) (by kernel_rfl) (QDg _ a k ?_)
 have hl_a_1:(a.2.1).length≤9223372036854775807:=hb.1.2.1.1
 have hl_a_2:(a.2.2.1).length≤9223372036854775807:=hb.1.2.2.1.1
 have hl_a_5:(a.2.2.2.2.2.1).length≤9223372036854775807:=hb.1.2.2.2.2.2.1.1
 have hl_a_6:(a.2.2.2.2.2.2.1).length≤9223372036854775807:=hb.1.2.2.2.2.2.2.1.1
 have hl_a_7:(a.2.2.2.2.2.2.2.1).length≤9223372036854775807:=hb.1.2.2.2.2.2.2.2.1.1
 have hl_a_8:(a.2.2.2.2.2.2.2.2.1).length≤9223372036854775807:=hb.1.2.2.2.2.2.2.2.2.1.1
 have hl_a_9:(a.2.2.2.2.2.2.2.2.2.1).length≤9223372036854775807:=hb.1.2.2.2.2.2.2.2.2.2.1.1
 have hl_a_10:(a.2.2.2.2.2.2.2.2.2.2.1).length≤9223372036854775807:=hb.1.2.2.2.2.2.2.2.2.2.2.1.1
 have hl_a_11:(a.2.2.2.2.2.2.2.2.2.2.2.1).length≤9223372036854775807:=hb.1.2.2.2.2.2.2.2.2.2.2.2.1.1
 conv=>zeta
 have hp0:=(Zp hp).1
 have hq0:=(Zp hp).2
 have hp1:=(Zp hq0).1
 have hq1:=(Zp hq0).2
 have hp2:=(Zp hq1).1
 have hq2:=(Zp hq1).2
 have hp3:=(Zp hq2).1
 have hq3:=(Zp hq2).2
 have hp4:=(Zp hq3).1
 have hq4:=(Zp hq3).2
 have hp5:=(Zp hq4).1
 have hq5:=(Zp hq4).2
 have hp6:=(Zp hq5).1
 have hq6:=(Zp hq5).2
 have hp7:=(Zp hq6).1
 have hq7:=(Zp hq6).2
 have hp8:=(Zp hq7).1
 have hq8:=(Zp hq7).2
 have hp9:=(Zp hq8).1
 have hq9:=(Zp hq8).2
 have hp10:=(Zp hq9).1
 have hq10:=(Zp hq9).2
 simp only [QtK,QpG,Qq2,Qqa] at hp0 hq0 hp1 hq1 hp2 hq2 hp3 hq3 hp4 hq4 hp5 hq5 hp6 hq6 hp7 hq7 hp8 hq8 hp9 hq9 hp10 hq10
 refine ⟨(ZM hp1),fun h=>R_eq (YN (fun e=>YG (ZM hp1) (of_decide_eq_true h) (congrArg (fun z=>z.2.1) e))).symm,fun g0=>?_⟩
 obtain ⟨e0,h0⟩:=Yz (of_decide_eq_false g0)
 rw [h0]
 refine ⟨(ZM hp2),fun h=>R_eq (YN (fun e=>YG (ZM hp2) (of_decide_eq_true h) (congrArg (fun z=>z.2.2.1) e))).symm,fun g1=>?_⟩
 obtain ⟨e1,h1⟩:=Yz (of_decide_eq_false g1)
 rw [h1]
 refine ⟨(ZM hp5),fun h=>R_eq (YN (fun e=>YG (ZM hp5) (of_decide_eq_true h) (congrArg (fun z=>z.2.2.2.2.2.1) e))).symm,fun g2=>?_⟩
 obtain ⟨e2,h2⟩:=Yz (of_decide_eq_false g2)
 rw [h2]
 refine ⟨(ZM hp6),fun h=>R_eq (YN (fun e=>YG (ZM hp6) (of_decide_eq_true h) (congrArg (fun z=>z.2.2.2.2.2.2.1) e))).symm,fun g3=>?_⟩
 obtain ⟨e3,h3⟩:=Yz (of_decide_eq_false g3)
 rw [h3]
 refine ⟨(ZM hp7),fun h=>R_eq (YN (fun e=>YG (ZM hp7) (of_decide_eq_true h) (congrArg (fun z=>z.2.2.2.2.2.2.2.1) e))).symm,fun g4=>?_⟩
 obtain ⟨e4,h4⟩:=Yz (of_decide_eq_false g4)
 rw [h4]
 refine ⟨(ZM hp8),fun h=>R_eq (YN (fun e=>YG (ZM hp8) (of_decide_eq_true h) (congrArg (fun z=>z.2.2.2.2.2.2.2.2.1) e))).symm,fun g5=>?_⟩
 obtain ⟨e5,h5⟩:=Yz (of_decide_eq_false g5)
 rw [h5]
 refine ⟨(ZM hp9),fun h=>R_eq (YN (fun e=>YG (ZM hp9) (of_decide_eq_true h) (congrArg (fun z=>z.2.2.2.2.2.2.2.2.2.1) e))).symm,fun g6=>?_⟩
 obtain ⟨e6,h6⟩:=Yz (of_decide_eq_false g6)
 rw [h6]
 refine ⟨(ZM hp10),fun h=>R_eq (YN (fun e=>YG (ZM hp10) (of_decide_eq_true h) (congrArg (fun z=>z.2.2.2.2.2.2.2.2.2.2.1) e))).symm,fun g7=>?_⟩
 obtain ⟨e7,h7⟩:=Yz (of_decide_eq_false g7)
 rw [h7]
 refine ⟨hq10,fun h=>R_eq (YN (fun e=>QFj hq10 (of_decide_eq_true h) (congrArg (fun z=>z.2.2.2.2.2.2.2.2.2.2.2) e))).symm,fun g8=>?_⟩
 obtain ⟨e8,h8⟩:=QED (of_decide_eq_false g8)
 rw [h8]
 exact R_eq (Qcp (x:=a) (k:=k) (Prod.ext rfl (Prod.ext e0 (Prod.ext e1 (Prod.ext rfl (Prod.ext rfl (Prod.ext e2 (Prod.ext e3 (Prod.ext e4 (Prod.ext e5 (Prod.ext e6 (Prod.ext e7 e8)))))))))))).symm
theorem QCd:Qf Tryz.prog QiA:=Qj fun x h=>QzZ x.1 x.2.1 h
end
end Go.Proofs.YtdplaepmjogjjaaGreat.Am

