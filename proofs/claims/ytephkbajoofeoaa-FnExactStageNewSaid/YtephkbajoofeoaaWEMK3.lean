/- -/
import Derived.Test.YtephkbajoofeoaaWEMK1
import Derived.Test.YtephkbajoofeoaaWEMK2
import Derived.Test.YtephkbajoofeoaaWEGF
namespace Go.Proofs.Ytephkbajoofeoaa.Am
open Go Go.RowKit Go.Proofs.Ytephkbajoofeoaa
set_option linter.all false
noncomputable section
variable (K:TRes→Prop)
def QeU (t:Int × Qq):TRes:=⟨(zci t.1),[],[],true,[(.sl 0 Qf (.dp 0 false []) t.2.2.1),(.sl 0 ctOp (.dp 0 false []) t.2.2.2.1),(.sl 0 QB (.dp 0 false []) t.2.2.2.2.2.2.1),(.sl 0 [(.sl [TI])] (.dp 0 false []) t.2.2.2.2.2.2.2.1),(.sl 0 [TI] (.dp 0 false []) t.2.2.2.2.2.2.2.2.1),(.sl 0 [TI] (.dp 0 false []) t.2.2.2.2.2.2.2.2.2.1),(.sl 0 [TI] (.dp 0 false []) t.2.2.2.2.2.2.2.2.2.2.1),(.sl 0 [TI] (.dp 0 false []) t.2.2.2.2.2.2.2.2.2.2.2.1),(.sl 0 [(.sl [TI])] (.dp 0 false []) t.2.2.2.2.2.2.2.2.2.2.2.2.1)]⟩
def Qc4:TRow:=Ql 89 [(.s QO),(.c TI)] fun x=>(none,QeU (Qs (α:=Qq) x.1 x.2.1))
def QlR:TTab:=⟨[QbA,Qcf,QeM,QaC,Qao,Qdx],true⟩
def Qsf:TCode :=
 (zsq [(.reg [zop 2 (.box 121 0 14),zmv 4 (zki 0)]),(.reg [zfa 5 2 1,zld 6 5 1,zmv 7 1,zca 8 20 [6,7],zmv 1 8]),(.reg [zfa 9 2 2,zld 10 9 1,zmv 11 1,zca 12 88 [10,11],zmv 1 12]),(.reg [zfa 13 2 5,zld 14 13 1,zmv 15 1,zca 16 160 [14,15],zmv 1 16]),(.reg [zfa 17 2 6,zld 18 17 1,zmv 19 1,zca 20 161 [18,19],zmv 1 20]),(.reg [zfa 21 2 7,zld 22 21 1,zmv 23 1,zca 24 69 [22,23],zmv 1 24]),(.reg [zfa 25 2 8,zld 26 25 1,zmv 27 1,zca 28 69 [26,27],zmv 1 28]),(.reg [zfa 29 2 9,zld 30 29 1,zmv 31 1,zca 32 69 [30,31],zmv 1 32]),(.reg [zfa 33 2 10,zld 34 33 1,zmv 35 1,zca 36 69 [34,35],zmv 1 36]),(.reg [zfa 37 2 11,zLd 38 37 3,zmv 39 1,zca 40 100 [38,39],zmv 1 40]),(.reg [zmv 41 1,zmv 4 41]),.ret])
def Qq1:List (ARv × Md):=[(.t 4,.one .d)]
theorem Qov (a:Qq) (k:Int) (h :
 let z5:=Qk (α:=List TOp') a.2.2.1 ((Qk (α:=List TIns) a.2.1 k).1)
 let z3:=Qk (α:=List Qj) a.2.2.2.2.2.1 (z5.1)
 let z7:=Qk (α:=List (List Int)) a.2.2.2.2.2.2.1 (z3.1)
 let z1:=Qk (α:=List Int) a.2.2.2.2.2.2.2.1 (z7.1)
 let z8:=Qk (α:=List Int) a.2.2.2.2.2.2.2.2.1 (z1.1)
 let z4:=Qk (α:=List Int) a.2.2.2.2.2.2.2.2.2.1 (z8.1)
 let z2:=Qk (α:=List Int) a.2.2.2.2.2.2.2.2.2.2.1 (z4.1)
 let z6:=Qs (α:=QE) a.2.2.2.2.2.2.2.2.2.2.2 (z2.1)
 (((a.2.1).length=(a.2.1).length)∧(((a.2.2.1).length=(a.2.2.1).length)∧(((a.2.2.2.2.2.1).length=(a.2.2.2.2.2.1).length)∧(((a.2.2.2.2.2.2.1).length=(a.2.2.2.2.2.2.1).length)∧(((a.2.2.2.2.2.2.2.1).length=(a.2.2.2.2.2.2.2.1).length)∧(((a.2.2.2.2.2.2.2.2.1).length=(a.2.2.2.2.2.2.2.2.1).length)∧(((a.2.2.2.2.2.2.2.2.2.1).length=(a.2.2.2.2.2.2.2.2.2.1).length)∧(((a.2.2.2.2.2.2.2.2.2.2.1).length=(a.2.2.2.2.2.2.2.2.2.2.1).length)∧(((a.2.2.2.2.2.2.2.2.2.2.2.1).length=(a.2.2.2.2.2.2.2.2.2.2.2.1).length)∧K (QeU (z6.1,(a.1,(Qk (α:=List TIns) a.2.1 k).2,z5.2,a.2.2.2.1,a.2.2.2.2.1,z3.2,z7.2,z1.2,z8.2,z4.2,z2.2,(z6.2).1,a.2.2.2.2.2.2.2.2.2.2.2.2.1,a.2.2.2.2.2.2.2.2.2.2.2.2.2))))))))))))):Hold (tawp QlR (0+9) Qsf (TQ 0 9 Qq1 K) (Qh [(.a [(.c TI a.1),(.ow 0 Qf dw a.2.1),(.ow 0 ctOp dw a.2.2.1),(.c .bool a.2.2.2.1),(.c .bool a.2.2.2.2.1),(.ow 0 QB dw a.2.2.2.2.2.1),(.ow 0 [(.sl [TI])] dw a.2.2.2.2.2.2.1),(.ow 0 [TI] dw a.2.2.2.2.2.2.2.1),(.ow 0 [TI] dw a.2.2.2.2.2.2.2.2.1),(.ow 0 [TI] dw a.2.2.2.2.2.2.2.2.2.1),(.ow 0 [TI] dw a.2.2.2.2.2.2.2.2.2.2.1),(.ow 0 [(.sl [TI])] dw a.2.2.2.2.2.2.2.2.2.2.2.1),(.c TI a.2.2.2.2.2.2.2.2.2.2.2.2.1),(.c .bool a.2.2.2.2.2.2.2.2.2.2.2.2.2)]),(.c TI k)])) :=
 Hold.of (by kernel_rfl) h
theorem Qpy (a:Qq) (k:Int):TCon Try.prog 89 [(.a [(.c TI a.1),(.ow 0 Qf dw a.2.1),(.ow 0 ctOp dw a.2.2.1),(.c .bool a.2.2.2.1),(.c .bool a.2.2.2.2.1),(.ow 0 QB dw a.2.2.2.2.2.1),(.ow 0 [(.sl [TI])] dw a.2.2.2.2.2.2.1),(.ow 0 [TI] dw a.2.2.2.2.2.2.2.1),(.ow 0 [TI] dw a.2.2.2.2.2.2.2.2.1),(.ow 0 [TI] dw a.2.2.2.2.2.2.2.2.2.1),(.ow 0 [TI] dw a.2.2.2.2.2.2.2.2.2.2.1),(.ow 0 [(.sl [TI])] dw a.2.2.2.2.2.2.2.2.2.2.2.1),(.c TI a.2.2.2.2.2.2.2.2.2.2.2.2.1),(.c .bool a.2.2.2.2.2.2.2.2.2.2.2.2.2)]),(.c TI k)] (QeU (Qs (α:=Qq) a k)):=by
 refine Qn rfl fun hb=>tcg (Γ:=QlR) (n:=42) (sg:=Qc4.sg) Qo (TOkL.cons QkY (TOkL.cons Qir (TOkL.cons Qqc (TOkL.cons Qez (TOkL.cons Qfo (TOkL.cons Qoe TOkL.nil)))))) (by kernel_rfl) (by kernel_rfl) (Qov _ a k ?_)
 have hl_a_1:(a.2.1).length≤9223372036854775807:=hb.1.2.1.1
 have hl_a_2:(a.2.2.1).length≤9223372036854775807:=hb.1.2.2.1.1
 have hl_a_5:(a.2.2.2.2.2.1).length≤9223372036854775807:=hb.1.2.2.2.2.2.1.1
 have hl_a_6:(a.2.2.2.2.2.2.1).length≤9223372036854775807:=hb.1.2.2.2.2.2.2.1.1
 have hl_a_7:(a.2.2.2.2.2.2.2.1).length≤9223372036854775807:=hb.1.2.2.2.2.2.2.2.1.1
 have hl_a_8:(a.2.2.2.2.2.2.2.2.1).length≤9223372036854775807:=hb.1.2.2.2.2.2.2.2.2.1.1
 have hl_a_9:(a.2.2.2.2.2.2.2.2.2.1).length≤9223372036854775807:=hb.1.2.2.2.2.2.2.2.2.2.1.1
 have hl_a_10:(a.2.2.2.2.2.2.2.2.2.2.1).length≤9223372036854775807:=hb.1.2.2.2.2.2.2.2.2.2.2.1.1
 have hl_a_11:(a.2.2.2.2.2.2.2.2.2.2.2.1).length≤9223372036854775807:=hb.1.2.2.2.2.2.2.2.2.2.2.2.1.1
 conv=>zeta
 repeat' apply And.intro
 all_goals first | rfl | exact R_eq rfl
theorem Qs0:Qm Try.prog Qc4:=Qp fun x _=>Qpy x.1 x.2.1
def Zt (t:Int):TRes:=zre (zci t)
def Qc9:TRow:=Ql 90 [(.a QO),(.c TI)] fun x=>(some (Q1 (α:=Qq) x.1 x.2.1),Zt (m_heldS (α:=Qq) x.1 x.2.1))
def Qja:TTab:=⟨[Qeo,Qe8,Qfg,Qa3,Qal,QeY],false⟩
def Qne:TCode :=
 (zsq [(.reg [zop 2 (.box 121 0 14),zmv 4 (zki 0)]),(.reg [zfa 5 2 1,zld 6 5 1,zmv 7 1,zca 8 21 [6,7],zmv 1 8]),(zsq [(.reg [zmv 9 1,zbi 10 .lss 9 (zki 0)]),(.cond 10 (zsq [(.reg [zmv 4 (zki (-1))]),.ret]) .skip)]),(.reg [zfa 11 2 2,zld 12 11 1,zmv 13 1,zca 14 162 [12,13],zmv 1 14]),(zsq [(.reg [zmv 15 1,zbi 16 .lss 15 (zki 0)]),(.cond 16 (zsq [(.reg [zmv 4 (zki (-1))]),.ret]) .skip)]),(.reg [zfa 17 2 5,zld 18 17 1,zmv 19 1,zca 20 163 [18,19],zmv 1 20]),(zsq [(.reg [zmv 21 1,zbi 22 .lss 21 (zki 0)]),(.cond 22 (zsq [(.reg [zmv 4 (zki (-1))]),.ret]) .skip)]),(.reg [zfa 23 2 6,zld 24 23 1,zmv 25 1,zca 26 164 [24,25],zmv 1 26]),(zsq [(.reg [zmv 27 1,zbi 28 .lss 27 (zki 0)]),(.cond 28 (zsq [(.reg [zmv 4 (zki (-1))]),.ret]) .skip)]),(.reg [zfa 29 2 7,zld 30 29 1,zmv 31 1,zca 32 70 [30,31],zmv 1 32]),(zsq [(.reg [zmv 33 1,zbi 34 .lss 33 (zki 0)]),(.cond 34 (zsq [(.reg [zmv 4 (zki (-1))]),.ret]) .skip)]),(.reg [zfa 35 2 8,zld 36 35 1,zmv 37 1,zca 38 70 [36,37],zmv 1 38]),(zsq [(.reg [zmv 39 1,zbi 40 .lss 39 (zki 0)]),(.cond 40 (zsq [(.reg [zmv 4 (zki (-1))]),.ret]) .skip)]),(.reg [zfa 41 2 9,zld 42 41 1,zmv 43 1,zca 44 70 [42,43],zmv 1 44]),(zsq [(.reg [zmv 45 1,zbi 46 .lss 45 (zki 0)]),(.cond 46 (zsq [(.reg [zmv 4 (zki (-1))]),.ret]) .skip)]),(.reg [zfa 47 2 10,zld 48 47 1,zmv 49 1,zca 50 70 [48,49],zmv 1 50]),(zsq [(.reg [zmv 51 1,zbi 52 .lss 51 (zki 0)]),(.cond 52 (zsq [(.reg [zmv 4 (zki (-1))]),.ret]) .skip)]),(.reg [zfa 53 2 11,zLd 54 53 3,zmv 55 1,zca 56 101 [54,55],zmv 1 56]),(zsq [(.reg [zmv 57 1,zbi 58 .lss 57 (zki 0)]),(.cond 58 (zsq [(.reg [zmv 4 (zki (-1))]),.ret]) .skip)]),(.reg [zmv 59 1,zmv 4 59]),.ret])
def QrI:List (ARv × Md):=[(.t 4,.one .d)]
theorem Qtn (a:Qq) (k:Int) (h :
 let z8:=m_held (α:=List TIns) a.2.1 k
 let z5:=m_held (α:=List TOp') a.2.2.1 z8
 let z3:=m_held (α:=List Qj) a.2.2.2.2.2.1 z5
 let z6:=m_held (α:=List (List Int)) a.2.2.2.2.2.2.1 z3
 let z1:=m_held (α:=List Int) a.2.2.2.2.2.2.2.1 z6
 let z7:=m_held (α:=List Int) a.2.2.2.2.2.2.2.2.1 z1
 let z2:=m_held (α:=List Int) a.2.2.2.2.2.2.2.2.2.1 z7
 let z4:=m_held (α:=List Int) a.2.2.2.2.2.2.2.2.2.2.1 z2
 let z9:=m_heldS (α:=QE) a.2.2.2.2.2.2.2.2.2.2.2 z4
 ((Qw (α:=List TIns) a.2.1 k)∧(zif (decide (z8<(0:Int))) (K (Zt (-1:Int))) ((Qw (α:=List TOp') a.2.2.1 z8)∧(zif (decide (z5<(0:Int))) (K (Zt (-1:Int))) ((Qw (α:=List Qj) a.2.2.2.2.2.1 z5)∧(zif (decide (z3<(0:Int))) (K (Zt (-1:Int))) ((Qw (α:=List (List Int)) a.2.2.2.2.2.2.1 z3)∧(zif (decide (z6<(0:Int))) (K (Zt (-1:Int))) ((Qw (α:=List Int) a.2.2.2.2.2.2.2.1 z6)∧(zif (decide (z1<(0:Int))) (K (Zt (-1:Int))) ((Qw (α:=List Int) a.2.2.2.2.2.2.2.2.1 z1)∧(zif (decide (z7<(0:Int))) (K (Zt (-1:Int))) ((Qw (α:=List Int) a.2.2.2.2.2.2.2.2.2.1 z7)∧(zif (decide (z2<(0:Int))) (K (Zt (-1:Int))) ((Qw (α:=List Int) a.2.2.2.2.2.2.2.2.2.2.1 z2)∧(zif (decide (z4<(0:Int))) (K (Zt (-1:Int))) ((Q1 (α:=QE) a.2.2.2.2.2.2.2.2.2.2.2 z4)∧(zif (decide (z9<(0:Int))) (K (Zt (-1:Int))) (K (Zt z9))))))))))))))))))))):Hold (tawp Qja (0+0) Qne (TQ 0 0 QrI K) (Qh [(.a (Tup.cells QO a)),(.c TI k)])) :=
 Hold.of (by kernel_rfl) h
theorem Ql1 (a:Qq) (k:Int) (hp:Q1 (α:=Qq) a k):TCon Try.prog 90 [(.a (Tup.cells QO a)),(.c TI k)] (Zt (m_heldS (α:=Qq) a k)):=by
 refine Qn rfl fun hb=>tcg (Γ:=Qja) (n:=60) (sg:=Qc9.sg) Qo (TOkL.cons QtH (TOkL.cons QsX (TOkL.cons QnR (TOkL.cons Qdi (TOkL.cons QeG (TOkL.cons Qt0 TOkL.nil)))))) (by kernel_rfl) (by kernel_rfl) (Qtn _ a k ?_)
 have hl_a_1:(a.2.1).length≤9223372036854775807:=hb.1.2.1.1
 have hl_a_2:(a.2.2.1).length≤9223372036854775807:=hb.1.2.2.1.1
 have hl_a_5:(a.2.2.2.2.2.1).length≤9223372036854775807:=hb.1.2.2.2.2.2.1.1
 have hl_a_6:(a.2.2.2.2.2.2.1).length≤9223372036854775807:=hb.1.2.2.2.2.2.2.1.1
 have hl_a_7:(a.2.2.2.2.2.2.2.1).length≤9223372036854775807:=hb.1.2.2.2.2.2.2.2.1.1
 have hl_a_8:(a.2.2.2.2.2.2.2.2.1).length≤9223372036854775807:=hb.1.2.2.2.2.2.2.2.2.1.1
 have hl_a_9:(a.2.2.2.2.2.2.2.2.2.1).length≤9223372036854775807:=hb.1.2.2.2.2.2.2.2.2.2.1.1
 have hl_a_10:(a.2.2.2.2.2.2.2.2.2.2.1).length≤9223372036854775807:=hb.1.2.2.2.2.2.2.2.2.2.2.1.1
 have hl_a_11:(a.2.2.2.2.2.2.2.2.2.2.2.1).length≤9223372036854775807:=hb.1.2.2.2.2.2.2.2.2.2.2.2.1.1
 conv=>zeta
 have hp0:=(QI hp).1
 have hq0:=(QI hp).2
 have hp1:=(QI hq0).1
 have hq1:=(QI hq0).2
 have hp2:=(QI hq1).1
 have hq2:=(QI hq1).2
 have hp3:=(QI hq2).1
 have hq3:=(QI hq2).2
 have hp4:=(QI hq3).1
 have hq4:=(QI hq3).2
 have hp5:=(QI hq4).1
 have hq5:=(QI hq4).2
 have hp6:=(QI hq5).1
 have hq6:=(QI hq5).2
 have hp7:=(QI hq6).1
 have hq7:=(QI hq6).2
 have hp8:=(QI hq7).1
 have hq8:=(QI hq7).2
 have hp9:=(QI hq8).1
 have hq9:=(QI hq8).2
 have hp10:=(QI hq9).1
 have hq10:=(QI hq9).2
 simp only [Qgh,Qgs,QiB,QfF] at hp0 hq0 hp1 hq1 hp2 hq2 hp3 hq3 hp4 hq4 hp5 hq5 hp6 hq6 hp7 hq7 hp8 hq8 hp9 hq9 hp10 hq10
 refine ⟨(QV hp1),fun h=>R_eq (ZC (fun e=>Zz (QV hp1) (of_decide_eq_true h) (congrArg (fun z=>z.2.1) e))).symm,fun g0=>?_⟩
 obtain ⟨e0,h0⟩:=Zp (of_decide_eq_false g0)
 rw [h0]
 refine ⟨(QV hp2),fun h=>R_eq (ZC (fun e=>Zz (QV hp2) (of_decide_eq_true h) (congrArg (fun z=>z.2.2.1) e))).symm,fun g1=>?_⟩
 obtain ⟨e1,h1⟩:=Zp (of_decide_eq_false g1)
 rw [h1]
 refine ⟨(QV hp5),fun h=>R_eq (ZC (fun e=>Zz (QV hp5) (of_decide_eq_true h) (congrArg (fun z=>z.2.2.2.2.2.1) e))).symm,fun g2=>?_⟩
 obtain ⟨e2,h2⟩:=Zp (of_decide_eq_false g2)
 rw [h2]
 refine ⟨(QV hp6),fun h=>R_eq (ZC (fun e=>Zz (QV hp6) (of_decide_eq_true h) (congrArg (fun z=>z.2.2.2.2.2.2.1) e))).symm,fun g3=>?_⟩
 obtain ⟨e3,h3⟩:=Zp (of_decide_eq_false g3)
 rw [h3]
 refine ⟨(QV hp7),fun h=>R_eq (ZC (fun e=>Zz (QV hp7) (of_decide_eq_true h) (congrArg (fun z=>z.2.2.2.2.2.2.2.1) e))).symm,fun g4=>?_⟩
 obtain ⟨e4,h4⟩:=Zp (of_decide_eq_false g4)
 rw [h4]
 refine ⟨(QV hp8),fun h=>R_eq (ZC (fun e=>Zz (QV hp8) (of_decide_eq_true h) (congrArg (fun z=>z.2.2.2.2.2.2.2.2.1) e))).symm,fun g5=>?_⟩
 obtain ⟨e5,h5⟩:=Zp (of_decide_eq_false g5)
 rw [h5]
 refine ⟨(QV hp9),fun h=>R_eq (ZC (fun e=>Zz (QV hp9) (of_decide_eq_true h) (congrArg (fun z=>z.2.2.2.2.2.2.2.2.2.1) e))).symm,fun g6=>?_⟩
 obtain ⟨e6,h6⟩:=Zp (of_decide_eq_false g6)
 rw [h6]
 refine ⟨(QV hp10),fun h=>R_eq (ZC (fun e=>Zz (QV hp10) (of_decide_eq_true h) (congrArg (fun z=>z.2.2.2.2.2.2.2.2.2.2.1) e))).symm,fun g7=>?_⟩
 obtain ⟨e7,h7⟩:=Zp (of_decide_eq_false g7)
 rw [h7]
 refine ⟨hq10,fun h=>R_eq (ZC (fun e=>Qo8 hq10 (of_decide_eq_true h) (congrArg (fun z=>z.2.2.2.2.2.2.2.2.2.2.2) e))).symm,fun g8=>?_⟩
 obtain ⟨e8,h8⟩:=Qqt (of_decide_eq_false g8)
 rw [h8]
 exact R_eq (Qaf (x:=a) (k:=k) (Prod.ext rfl (Prod.ext e0 (Prod.ext e1 (Prod.ext rfl (Prod.ext rfl (Prod.ext e2 (Prod.ext e3 (Prod.ext e4 (Prod.ext e5 (Prod.ext e6 (Prod.ext e7 e8)))))))))))).symm
theorem QtO:Qm Try.prog Qc9:=Qp fun x h=>Ql1 x.1 x.2.1 h
end
end Go.Proofs.Ytephkbajoofeoaa.Am

