/- -/
import Derived.Test.YtdplaepmjogjjaaGreatVEMK1
import Derived.Test.YtdplaepmjogjjaaGreatVEMK3
import Derived.Test.YtdplaepmjogjjaaGreatVEMK2
import Derived.Test.YtdplaepmjogjjaaGreatVEGF
namespace Go.Proofs.YtdplaepmjogjjaaGreat.Am
open Go Go.RowKit Go.Proofs.YtdplaepmjogjjaaGreat
set_option linter.all false
noncomputable section
variable (K:TRes→Prop)
def Qib (t:Int × QO):TRes:=⟨(zci t.1),[],[],true,[(.sl 0 Qj (.dp 0 false []) t.2.1),(.sl 0 Qt (.dp 0 false []) t.2.2.1),(.sl 0 Qw (.dp 0 false []) t.2.2.2.1),(.sl 0 Qw (.dp 0 false []) t.2.2.2.2)]⟩
def Qil:TRow:=Qg 25 [(.s Zd),(.c TI)] fun x=>(none,Qib (QX (α:=QO) x.1 x.2.1))
def QtY:TTab:=⟨[Qez,Qg3,Qjw],true⟩
def QFg:TCode :=
 (zsq [(.reg [zop 2 (.box 56 0 4),zmv 4 (zki 0)]),(.reg [zfa 5 2 0,zld 6 5 1,zmv 7 1,zca 8 42 [6,7],zmv 1 8]),(.reg [zfa 9 2 1,zld 10 9 1,zmv 11 1,zca 12 95 [10,11],zmv 1 12]),(.reg [zfa 13 2 2,zld 14 13 1,zmv 15 1,zca 16 96 [14,15],zmv 1 16]),(.reg [zfa 17 2 3,zld 18 17 1,zmv 19 1,zca 20 96 [18,19],zmv 1 20]),(.reg [zmv 21 1,zmv 4 21]),.ret])
def Qvj:List (ARv × Md):=[(.t 4,.one .d)]
theorem QFw (a:QO) (k:Int) (h :
 (((a.1).length=(a.1).length)∧(((a.2.1).length=(a.2.1).length)∧(((a.2.2.1).length=(a.2.2.1).length)∧(((a.2.2.2).length=(a.2.2.2).length)∧K (Qib ((Qn (α:=List Qp) a.2.2.2 ((Qn (α:=List Qp) a.2.2.1 ((Qn (α:=List Qr) a.2.1 ((Qn (α:=List Qc) a.1 k).1)).1)).1)).1,((Qn (α:=List Qc) a.1 k).2,(Qn (α:=List Qr) a.2.1 ((Qn (α:=List Qc) a.1 k).1)).2,(Qn (α:=List Qp) a.2.2.1 ((Qn (α:=List Qr) a.2.1 ((Qn (α:=List Qc) a.1 k).1)).1)).2,(Qn (α:=List Qp) a.2.2.2 ((Qn (α:=List Qp) a.2.2.1 ((Qn (α:=List Qr) a.2.1 ((Qn (α:=List Qc) a.1 k).1)).1)).1)).2)))))))):Hold (tawp QtY (0+4) QFg (TQ 0 4 Qvj K) (Qe [(.a [(.ow 0 Qj dw a.1),(.ow 0 Qt dw a.2.1),(.ow 0 Qw dw a.2.2.1),(.ow 0 Qw dw a.2.2.2)]),(.c TI k)])) :=
 Hold.of (by kernel_rfl) h
theorem QDs (a:QO) (k:Int):TCon Tryz.prog 25 [(.a [(.ow 0 Qj dw a.1),(.ow 0 Qt dw a.2.1),(.ow 0 Qw dw a.2.2.1),(.ow 0 Qw dw a.2.2.2)]),(.c TI k)] (Qib (QX (α:=QO) a k)):=by
 refine Ql rfl fun hb=>tcg (Γ:=QtY) (n:=22) (sg:=Qil.sg) Qk (TOkL.cons QsP (TOkL.cons Qzd (TOkL.cons QyP TOkL.nil))) (by kernel_rfl) (by kernel_rfl) (QFw _ a k ?_)
 have hl_a_0:(a.1).length≤9223372036854775807:=hb.1.1.1
 have hl_a_1:(a.2.1).length≤9223372036854775807:=hb.1.2.1.1
 have hl_a_2:(a.2.2.1).length≤9223372036854775807:=hb.1.2.2.1.1
 have hl_a_3:(a.2.2.2).length≤9223372036854775807:=hb.1.2.2.2.1.1
 repeat' apply And.intro
 all_goals first | rfl | exact R_eq rfl
theorem QxP:Qi Tryz.prog Qil:=Qm fun x _=>QDs x.1 x.2.1
def QaL (t:Int):TRes:=zre (zci t)
def Qhf:TRow:=Qg 43 [(.a Zd),(.c TI)] fun x=>(some (Yn (α:=QO) x.1 x.2.1),QaL (m_heldS (α:=QO) x.1 x.2.1))
def Quq:TTab:=⟨[QgV,Qgy,Qij],false⟩
def QCM:TCode :=
 (zsq [(.reg [zop 2 (.box 56 0 4),zmv 4 (zki 0)]),(.reg [zfa 5 2 0,zld 6 5 1,zmv 7 1,zca 8 136 [6,7],zmv 1 8]),(zsq [(.reg [zmv 9 1,zbi 10 .lss 9 (zki 0)]),(.cond 10 (zsq [(.reg [zmv 4 (zki (-1))]),.ret]) .skip)]),(.reg [zfa 11 2 1,zld 12 11 1,zmv 13 1,zca 14 137 [12,13],zmv 1 14]),(zsq [(.reg [zmv 15 1,zbi 16 .lss 15 (zki 0)]),(.cond 16 (zsq [(.reg [zmv 4 (zki (-1))]),.ret]) .skip)]),(.reg [zfa 17 2 2,zld 18 17 1,zmv 19 1,zca 20 138 [18,19],zmv 1 20]),(zsq [(.reg [zmv 21 1,zbi 22 .lss 21 (zki 0)]),(.cond 22 (zsq [(.reg [zmv 4 (zki (-1))]),.ret]) .skip)]),(.reg [zfa 23 2 3,zld 24 23 1,zmv 25 1,zca 26 138 [24,25],zmv 1 26]),(zsq [(.reg [zmv 27 1,zbi 28 .lss 27 (zki 0)]),(.cond 28 (zsq [(.reg [zmv 4 (zki (-1))]),.ret]) .skip)]),(.reg [zmv 29 1,zmv 4 29]),.ret])
def QwY:List (ARv × Md):=[(.t 4,.one .d)]
theorem QIg (a:QO) (k:Int) (h :
 let z3:=m_held (α:=List Qc) a.1 k
 let z1:=m_held (α:=List Qr) a.2.1 z3
 let z2:=m_held (α:=List Qp) a.2.2.1 z1
 ((QD (α:=List Qc) a.1 k)∧(zif (decide (z3<(0:Int))) (K (QaL (-1:Int))) ((QD (α:=List Qr) a.2.1 z3)∧(zif (decide (z1<(0:Int))) (K (QaL (-1:Int))) ((QD (α:=List Qp) a.2.2.1 z1)∧(zif (decide (z2<(0:Int))) (K (QaL (-1:Int))) ((QD (α:=List Qp) a.2.2.2 z2)∧(zif (decide ((m_held (α:=List Qp) a.2.2.2 z2)<(0:Int))) (K (QaL (-1:Int))) (K (QaL (m_held (α:=List Qp) a.2.2.2 z2)))))))))))):Hold (tawp Quq (0+0) QCM (TQ 0 0 QwY K) (Qe [(.a (Tup.cells Zd a)),(.c TI k)])) :=
 Hold.of (by kernel_rfl) h
theorem QIq (a:QO) (k:Int) (hp:Yn (α:=QO) a k):TCon Tryz.prog 43 [(.a (Tup.cells Zd a)),(.c TI k)] (QaL (m_heldS (α:=QO) a k)):=by
 refine Ql rfl fun hb=>tcg (Γ:=Quq) (n:=30) (sg:=Qhf.sg) Qk (TOkL.cons QHq (TOkL.cons QCB (TOkL.cons QE9 TOkL.nil))) (by kernel_rfl) (by kernel_rfl) (QIg _ a k ?_)
 have hl_a_0:(a.1).length≤9223372036854775807:=hb.1.1.1
 have hl_a_1:(a.2.1).length≤9223372036854775807:=hb.1.2.1.1
 have hl_a_2:(a.2.2.1).length≤9223372036854775807:=hb.1.2.2.1.1
 have hl_a_3:(a.2.2.2).length≤9223372036854775807:=hb.1.2.2.2.1.1
 conv=>zeta
 have hp0:=(QbW hp).1
 have hq0:=(QbW hp).2
 have hp1:=(QbW hq0).1
 have hq1:=(QbW hq0).2
 have hp2:=(QbW hq1).1
 have hq2:=(QbW hq1).2
 simp only [Qva,Qv3,QvF,QIj] at hp0 hq0 hp1 hq1 hp2 hq2
 refine ⟨(JX hp0),fun h=>R_eq (Qgm (fun e=>Zl (JX hp0) (of_decide_eq_true h) (congrArg (fun z=>z.1) e))).symm,fun g0=>?_⟩
 obtain ⟨e0,h0⟩:=Zn (of_decide_eq_false g0)
 rw [h0]
 refine ⟨(JX hp1),fun h=>R_eq (Qgm (fun e=>Zl (JX hp1) (of_decide_eq_true h) (congrArg (fun z=>z.2.1) e))).symm,fun g1=>?_⟩
 obtain ⟨e1,h1⟩:=Zn (of_decide_eq_false g1)
 rw [h1]
 refine ⟨(JX hp2),fun h=>R_eq (Qgm (fun e=>Zl (JX hp2) (of_decide_eq_true h) (congrArg (fun z=>z.2.2.1) e))).symm,fun g2=>?_⟩
 obtain ⟨e2,h2⟩:=Zn (of_decide_eq_false g2)
 rw [h2]
 refine ⟨(JX hq2),fun h=>R_eq (Qgm (fun e=>Zl (JX hq2) (of_decide_eq_true h) (congrArg (fun z=>z.2.2.2) e))).symm,fun g3=>?_⟩
 obtain ⟨e3,h3⟩:=Zn (of_decide_eq_false g3)
 rw [h3]
 exact R_eq (Qrl (x:=a) (k:=k) (Prod.ext e0 (Prod.ext e1 (Prod.ext e2 e3)))).symm
theorem QFY:Qi Tryz.prog Qhf:=Qm fun x h=>QIq x.1 x.2.1 h
def Qkn (t:Int × Qf):TRes:=⟨(zci t.1),[],[],true,[(.sl 0 ctOp (.dp 0 false []) t.2.1),(.sl 0 [TI] (.dp 0 false []) t.2.2.1),(.sl 0 [.bool] (.dp 0 false []) t.2.2.2.2.1),(.sl 0 [TI] (.dp 0 false []) t.2.2.2.2.2.1),(.sl 0 [TI] (.dp 0 false []) t.2.2.2.2.2.2)]⟩
def QkL:TRow:=Qg 41 [(.s Qv),(.c TI)] fun x=>(none,Qkn (QX (α:=Qf) x.1 x.2.1))
def QuF:TTab:=⟨[QjN,J3,Qkq],true⟩
def QB6:TCode :=
 (zsq [(.reg [zop 2 (.box 79 0 6),zmv 4 (zki 0)]),(.reg [zfa 5 2 0,zLd 6 5 1,zmv 7 1,zca 8 134 [6,7],zmv 1 8]),(.reg [zfa 9 2 1,zld 10 9 1,zmv 11 1,zca 12 26 [10,11],zmv 1 12]),(.reg [zfa 13 2 3,zld 14 13 1,zmv 15 1,zca 16 135 [14,15],zmv 1 16]),(.reg [zfa 17 2 4,zld 18 17 1,zmv 19 1,zca 20 26 [18,19],zmv 1 20]),(.reg [zfa 21 2 5,zld 22 21 1,zmv 23 1,zca 24 26 [22,23],zmv 1 24]),(.reg [zmv 25 1,zmv 4 25]),.ret])
def QDZ:List (ARv × Md):=[(.t 4,.one .d)]
theorem QJr (a:Qf) (k:Int) (h :
 let z3:=Qn (α:=List Int) a.2.1 ((QX (α:=List TOp') a.1 k).1)
 let z1:=Qn (α:=List Bool) a.2.2.2.1 (z3.1)
 let z4:=Qn (α:=List Int) a.2.2.2.2.1 (z1.1)
 let z2:=Qn (α:=List Int) a.2.2.2.2.2 (z4.1)
 (((a.1).length=(a.1).length)∧(((a.2.1).length=(a.2.1).length)∧(((a.2.2.2.1).length=(a.2.2.2.1).length)∧(((a.2.2.2.2.1).length=(a.2.2.2.2.1).length)∧(((a.2.2.2.2.2).length=(a.2.2.2.2.2).length)∧K (Qkn (z2.1,((QX (α:=List TOp') a.1 k).2,z3.2,a.2.2.1,z1.2,z4.2,z2.2))))))))):Hold (tawp QuF (0+5) QB6 (TQ 0 5 QDZ K) (Qe [(.a [(.ow 0 ctOp dw a.1),(.ow 0 [TI] dw a.2.1),(.c TI a.2.2.1),(.ow 0 [.bool] dw a.2.2.2.1),(.ow 0 [TI] dw a.2.2.2.2.1),(.ow 0 [TI] dw a.2.2.2.2.2)]),(.c TI k)])) :=
 Hold.of (by kernel_rfl) h
theorem QyV (a:Qf) (k:Int):TCon Tryz.prog 41 [(.a [(.ow 0 ctOp dw a.1),(.ow 0 [TI] dw a.2.1),(.c TI a.2.2.1),(.ow 0 [.bool] dw a.2.2.2.1),(.ow 0 [TI] dw a.2.2.2.2.1),(.ow 0 [TI] dw a.2.2.2.2.2)]),(.c TI k)] (Qkn (QX (α:=Qf) a k)):=by
 refine Ql rfl fun hb=>tcg (Γ:=QuF) (n:=26) (sg:=QkL.sg) Qk (TOkL.cons Qu9 (TOkL.cons Qbw (TOkL.cons QvQ TOkL.nil))) (by kernel_rfl) (by kernel_rfl) (QJr _ a k ?_)
 have hl_a_0:(a.1).length≤9223372036854775807:=hb.1.1.1
 have hl_a_1:(a.2.1).length≤9223372036854775807:=hb.1.2.1.1
 have hl_a_3:(a.2.2.2.1).length≤9223372036854775807:=hb.1.2.2.2.1.1
 have hl_a_4:(a.2.2.2.2.1).length≤9223372036854775807:=hb.1.2.2.2.2.1.1
 have hl_a_5:(a.2.2.2.2.2).length≤9223372036854775807:=hb.1.2.2.2.2.2.1.1
 conv=>zeta
 repeat' apply And.intro
 all_goals first | rfl | exact R_eq rfl
theorem QGx:Qi Tryz.prog QkL:=Qm fun x _=>QyV x.1 x.2.1
end
end Go.Proofs.YtdplaepmjogjjaaGreat.Am

