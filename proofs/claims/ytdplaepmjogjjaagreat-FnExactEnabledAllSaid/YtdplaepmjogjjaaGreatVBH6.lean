/- -/
import Derived.Test.YtdplaepmjogjjaaGreatVBH1
import Derived.Test.YtdplaepmjogjjaaGreatVBH5
import Derived.Test.YtdplaepmjogjjaaGreatVBH3
import Derived.Test.YtdplaepmjogjjaaGreatVBGF
namespace Go.Proofs.YtdplaepmjogjjaaGreat.Am
open Go Go.RowKit Go.Proofs.YtdplaepmjogjjaaGreat
set_option linter.all false
noncomputable section
variable (K:TRes→Prop)
def J9 (t:Int):TRes:=zre (zci t)
def Qim:TRow:=Qi 19 [(.a Qx),(.c TI)] fun x=>(some (p_sz (α:=Qp) x.1 x.2.1),J9 (m_sz (α:=Qp) x.1 x.2.1))
def Qlb:TTab:=⟨[Qg1,Qe3,Qfw],false⟩
def QAF:TCode :=
 (zsq [(.reg [zop 2 (.box 49 0 4),zmv 4 (zki 0)]),(.reg [zfa 5 2 0,zld 6 5 1,zmv 7 1,zca 8 34 [6,7],zmv 1 8]),(zsq [(.reg [zmv 9 1,zbi 10 .lss 9 (zki 0)]),(.cond 10 (zsq [(.reg [zmv 4 (zki (-1))]),.ret]) .skip)]),(.reg [zfa 11 2 1,zld 12 11 1,zmv 13 1,zca 14 87 [12,13],zmv 1 14]),(zsq [(.reg [zmv 15 1,zbi 16 .lss 15 (zki 0)]),(.cond 16 (zsq [(.reg [zmv 4 (zki (-1))]),.ret]) .skip)]),(.reg [zfa 17 2 2,zld 18 17 1,zmv 19 1,zca 20 88 [18,19],zmv 1 20]),(zsq [(.reg [zmv 21 1,zbi 22 .lss 21 (zki 0)]),(.cond 22 (zsq [(.reg [zmv 4 (zki (-1))]),.ret]) .skip)]),(.reg [zfa 23 2 3,zld 24 23 1,zmv 25 1,zca 26 88 [24,25],zmv 1 26]),(zsq [(.reg [zmv 27 1,zbi 28 .lss 27 (zki 0)]),(.cond 28 (zsq [(.reg [zmv 4 (zki (-1))]),.ret]) .skip)]),(.reg [zmv 29 1,zmv 4 29]),.ret])
def QvS:List (ARv × Md):=[(.t 4,.one .d)]
theorem QtJ (a:Qp) (left:Int) (h :
 let z3:=m_sz (α:=List Qh) a.1 left
 let z1:=m_sz (α:=List Qc) a.2.1 z3
 let z2:=m_sz (α:=List Qf) a.2.2.1 z1
 ((p_sz (α:=List Qh) a.1 left)∧(zif (decide (z3<(0:Int))) (K (J9 (-1:Int))) ((p_sz (α:=List Qc) a.2.1 z3)∧(zif (decide (z1<(0:Int))) (K (J9 (-1:Int))) ((p_sz (α:=List Qf) a.2.2.1 z1)∧(zif (decide (z2<(0:Int))) (K (J9 (-1:Int))) ((p_sz (α:=List Qf) a.2.2.2 z2)∧(zif (decide ((m_sz (α:=List Qf) a.2.2.2 z2)<(0:Int))) (K (J9 (-1:Int))) (K (J9 (m_sz (α:=List Qf) a.2.2.2 z2)))))))))))):Hold (tawp Qlb (0+0) QAF (TQ 0 0 QvS K) (Qg [(.a (Tup.cells Qx a)),(.c TI left)])) :=
 Hold.of (by kernel_rfl) h
theorem QDj (a:Qp) (left:Int) (hp:p_sz (α:=Qp) a left):TCon Tryz.prog 19 [(.a (Tup.cells Qx a)),(.c TI left)] (J9 (m_sz (α:=Qp) a left)):=by
 refine Qk rfl fun hb=>tcg (Γ:=Qlb) (n:=30) (sg:=Qim.sg) Ql (TOkL.cons QzV (TOkL.cons QB7 (TOkL.cons QyQ TOkL.nil))) (by kernel_rfl) (by kernel_rfl) (QtJ _ a left ?_)
 refine ⟨hp,fun h=>R_eq (Q6 (of_decide_eq_true h) (by first | omega | (simp only [QD,QE,QK];omega)) hp.1),fun h=>?_⟩
 rw [ZW (Int.not_lt.1 (of_decide_eq_false h))]
 refine ⟨ZU hp,fun h=>R_eq (Q6 (of_decide_eq_true h) (by first | omega | (simp only [QD,QE,QK];omega)) hp.1),fun h=>?_⟩
 rw [ZW (Int.not_lt.1 (of_decide_eq_false h))]
 refine ⟨ZU hp,fun h=>R_eq (Q6 (of_decide_eq_true h) (by first | omega | (simp only [QD,QE,QK];omega)) hp.1),fun h=>?_⟩
 rw [ZW (Int.not_lt.1 (of_decide_eq_false h))]
 refine ⟨ZU hp,fun h=>R_eq (Q6 (of_decide_eq_true h) (by first | omega | (simp only [QD,QE,QK];omega)) hp.1),fun h=>?_⟩
 exact R_eq (congrArg (Za · _) (by first | rfl | omega | (simp only [QD,QE,QK];omega)))
theorem QwR:Qj Tryz.prog Qim:=Qn fun x h=>QDj x.1 x.2.1 h
def QhX (t:Qp):TRes:=⟨(.a [(.r QA 0 0 ((t.1).length)),(.r Qo 1 0 ((t.2.1).length)),(.r Qt 2 0 ((t.2.2.1).length)),(.r Qt 3 0 ((t.2.2.2).length))]),[(.sl 154 QA (.dp 0 true []) t.1),(.sl 39 Qo (.dp 0 true []) t.2.1),(.sl 161 Qt (.dp 0 true []) t.2.2.1),(.sl 161 Qt (.dp 0 true []) t.2.2.2)],[],false,[]⟩
def QfZ:TRow:=Qi 21 [(.a Qx)] fun x=>(some (p_to (α:=Qp) x.1),QhX (id (α:=Qp) x.1))
def Qmd:TTab:=⟨[QhH,QgQ,Qhl],true⟩
def QCv:TCode :=
 (zsq [(.reg [zop 1 (.box 49 0 4),zop 2 (.new 56 (z0s Qx))]),(.reg [zop 3 (.new 56 (z0s Qx))]),(.reg [zfa 4 1 0,zld 5 4 1,zca 6 37 [5],zfa 7 3 0,zst 7 6 1]),(.reg [zfa 8 1 1,zld 9 8 1,zca 10 90 [9],zfa 11 3 1,zst 11 10 1]),(.reg [zfa 12 1 2,zld 13 12 1,zca 14 91 [13],zfa 15 3 2,zst 15 14 1]),(.reg [zfa 16 1 3,zld 17 16 1,zca 18 91 [17],zfa 19 3 3,zst 19 18 1]),(.reg [zLd 20 3 4,zst 2 20 4]),.ret])
def QAY:List (ARv × Md):=[(.l 2 4 true,.b [.p 154,.p 39,.p 161,.p 161])]
theorem QwJ (a:Qp) (h :
 ((p_to (α:=List Qh) a.1)∧((p_to (α:=List Qc) a.2.1)∧((p_to (α:=List Qf) a.2.2.1)∧((p_to (α:=List Qf) a.2.2.2)∧K (QhX ((List.take ((id (α:=List Qh) a.1).length) (id (α:=List Qh) a.1)),(List.take ((id (α:=List Qc) a.2.1).length) (id (α:=List Qc) a.2.1)),(List.take ((id (α:=List Qf) a.2.2.1).length) (id (α:=List Qf) a.2.2.1)),(List.take ((id (α:=List Qf) a.2.2.2).length) (id (α:=List Qf) a.2.2.2))))))))):Hold (tawp Qmd (0+0) QCv (TQ 0 0 QAY K) (Qg [(.a (Tup.cells Qx a))])) :=
 Hold.of (by kernel_rfl) h
theorem Qzz (a:Qp) (hp:p_to (α:=Qp) a):TCon Tryz.prog 21 [(.a (Tup.cells Qx a))] (QhX (id (α:=Qp) a)):=by
 refine Qk rfl fun hb=>tcg (Γ:=Qmd) (n:=21) (sg:=QfZ.sg) Ql (TOkL.cons QBB (TOkL.cons Qt1 (TOkL.cons QFa TOkL.nil))) (by kernel_rfl) (by kernel_rfl) (QwJ _ a ?_)
 repeat' (first | refine And.intro ?_ ?_ | exact R_eq (by simp))
 all_goals (simp only [p_to,QD,QE,QK,List.drop_zero,List.take_length,id_eq] at hp ⊢;omega)
theorem QtO:Qj Tryz.prog QfZ:=Qn fun x h=>Qzz x.1 h
def Qap (t:Bool):TRes:=zre (zcb t)
def QhN:TRow:=Qi 24 [(.a Qx),(.a Qx)] fun x=>(none,Qap (m_eq (α:=Qp) x.1 x.2.1))
def QrB:TTab:=⟨[QfC,Qhj,Qff],false⟩
def QDU:TCode :=
 (zsq [(.reg [zop 2 (.box 56 0 4),zop 3 (.box 56 1 4),zmv 4 (zkb false)]),(zsq [(.reg [zfa 5 2 0,zld 6 5 1,zfa 7 3 0,zld 8 7 1,zca 9 40 [6,8],zno 10 9]),(.cond 10 (zsq [(.reg [zmv 4 (zkb false)]),.ret]) .skip)]),(zsq [(.reg [zfa 11 2 1,zld 12 11 1,zfa 13 3 1,zld 14 13 1,zca 15 93 [12,14],zno 16 15]),(.cond 16 (zsq [(.reg [zmv 4 (zkb false)]),.ret]) .skip)]),(zsq [(.reg [zfa 17 2 2,zld 18 17 1,zfa 19 3 2,zld 20 19 1,zca 21 94 [18,20],zno 22 21]),(.cond 22 (zsq [(.reg [zmv 4 (zkb false)]),.ret]) .skip)]),(zsq [(.reg [zfa 23 2 3,zld 24 23 1,zfa 25 3 3,zld 26 25 1,zca 27 94 [24,26],zno 28 27]),(.cond 28 (zsq [(.reg [zmv 4 (zkb false)]),.ret]) .skip)]),(.reg [zmv 4 (zkb true)]),.ret])
def Qvo:List (ARv × Md):=[(.t 4,.one .d)]
theorem QEF (a:Qp) (b:Qp) (h :
 (zif (!(m_eq (α:=List Qh) a.1 b.1)) (K (Qap false)) (zif (!(m_eq (α:=List Qc) a.2.1 b.2.1)) (K (Qap false)) (zif (!(m_eq (α:=List Qf) a.2.2.1 b.2.2.1)) (K (Qap false)) (zif (!(m_eq (α:=List Qf) a.2.2.2 b.2.2.2)) (K (Qap false)) (K (Qap true))))))):Hold (tawp QrB (0+0) QDU (TQ 0 0 Qvo K) (Qg [(.a (Tup.cells Qx a)),(.a (Tup.cells Qx b))])) :=
 Hold.of (by kernel_rfl) h
theorem QD0 (a:Qp) (b:Qp):TCon Tryz.prog 24 [(.a (Tup.cells Qx a)),(.a (Tup.cells Qx b))] (Qap (m_eq (α:=Qp) a b)):=by
 refine Qk rfl fun hb=>tcg (Γ:=QrB) (n:=29) (sg:=QhN.sg) Ql (TOkL.cons Qui (TOkL.cons QDO (TOkL.cons QzU TOkL.nil))) (by kernel_rfl) (by kernel_rfl) (QEF _ a b ?_)
 refine ⟨fun h=>R_eq (Eq.symm (decide_eq_false (by rintro rfl;simp [m_eq] at h))),fun h0=>?_⟩
 refine ⟨fun h=>R_eq (Eq.symm (decide_eq_false (by rintro rfl;simp [m_eq] at h))),fun h1=>?_⟩
 refine ⟨fun h=>R_eq (Eq.symm (decide_eq_false (by rintro rfl;simp [m_eq] at h))),fun h2=>?_⟩
 refine ⟨fun h=>R_eq (Eq.symm (decide_eq_false (by rintro rfl;simp [m_eq] at h))),fun h3=>?_⟩
 refine R_eq (Eq.symm (decide_eq_true ?_))
 simp [m_eq] at h0 h1 h2 h3
 simp [Prod.ext_iff, *]
theorem QCc:Qj Tryz.prog QhN:=Qn fun x _=>QD0 x.1 x.2.1
end
end Go.Proofs.YtdplaepmjogjjaaGreat.Am

