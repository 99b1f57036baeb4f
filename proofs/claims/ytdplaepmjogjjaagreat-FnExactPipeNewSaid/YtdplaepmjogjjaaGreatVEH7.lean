/- -/
import Derived.Test.YtdplaepmjogjjaaGreatVEH2
import Derived.Test.YtdplaepmjogjjaaGreatVEH1
import Derived.Test.YtdplaepmjogjjaaGreatVEGF
namespace Go.Proofs.YtdplaepmjogjjaaGreat.Am
open Go Go.RowKit Go.Proofs.YtdplaepmjogjjaaGreat
set_option linter.all false
noncomputable section
variable (K:TRes→Prop)
def JQ (t:Int):TRes:=zre (zci t)
def Qjh:TRow:=Qg 33 [(.a Qv),(.c TI)] fun x=>(some (p_sz (α:=Qf) x.1 x.2.1),JQ (m_sz (α:=Qf) x.1 x.2.1))
def Qqz:TTab:=⟨[Qjb,Qb2,Qg5],false⟩
def QEQ:TCode :=
 (zsq [(.reg [zop 2 (.box 72 0 6),zmv 4 (zki 0)]),(.reg [zfa 5 2 0,zLd 6 5 1,zmv 7 1,zca 8 114 [6,7],zmv 1 8]),(zsq [(.reg [zmv 9 1,zbi 10 .lss 9 (zki 0)]),(.cond 10 (zsq [(.reg [zmv 4 (zki (-1))]),.ret]) .skip)]),(.reg [zfa 11 2 1,zld 12 11 1,zmv 13 1,zca 14 59 [12,13],zmv 1 14]),(zsq [(.reg [zmv 15 1,zbi 16 .lss 15 (zki 0)]),(.cond 16 (zsq [(.reg [zmv 4 (zki (-1))]),.ret]) .skip)]),(.reg [zfa 17 2 3,zld 18 17 1,zmv 19 1,zca 20 115 [18,19],zmv 1 20]),(zsq [(.reg [zmv 21 1,zbi 22 .lss 21 (zki 0)]),(.cond 22 (zsq [(.reg [zmv 4 (zki (-1))]),.ret]) .skip)]),(.reg [zfa 23 2 4,zld 24 23 1,zmv 25 1,zca 26 59 [24,25],zmv 1 26]),(zsq [(.reg [zmv 27 1,zbi 28 .lss 27 (zki 0)]),(.cond 28 (zsq [(.reg [zmv 4 (zki (-1))]),.ret]) .skip)]),(.reg [zfa 29 2 5,zld 30 29 1,zmv 31 1,zca 32 59 [30,31],zmv 1 32]),(zsq [(.reg [zmv 33 1,zbi 34 .lss 33 (zki 0)]),(.cond 34 (zsq [(.reg [zmv 4 (zki (-1))]),.ret]) .skip)]),(.reg [zmv 35 1,zmv 4 35]),.ret])
def QI8:List (ARv × Md):=[(.t 4,.one .d)]
theorem QxY (a:Qf) (left:Int) (h :
 let z2:=m_sz (α:=List TOp') a.1 left
 let z4:=m_sz (α:=List Int) a.2.1 z2
 let z1:=m_sz (α:=List Bool) a.2.2.2.1 z4
 let z3:=m_sz (α:=List Int) a.2.2.2.2.1 z1
 ((p_sz (α:=List TOp') a.1 left)∧(zif (decide (z2<(0:Int))) (K (JQ (-1:Int))) ((p_sz (α:=List Int) a.2.1 z2)∧(zif (decide (z4<(0:Int))) (K (JQ (-1:Int))) ((p_sz (α:=List Bool) a.2.2.2.1 z4)∧(zif (decide (z1<(0:Int))) (K (JQ (-1:Int))) ((p_sz (α:=List Int) a.2.2.2.2.1 z1)∧(zif (decide (z3<(0:Int))) (K (JQ (-1:Int))) ((p_sz (α:=List Int) a.2.2.2.2.2 z3)∧(zif (decide ((m_sz (α:=List Int) a.2.2.2.2.2 z3)<(0:Int))) (K (JQ (-1:Int))) (K (JQ (m_sz (α:=List Int) a.2.2.2.2.2 z3)))))))))))))):Hold (tawp Qqz (0+0) QEQ (TQ 0 0 QI8 K) (Qe [(.a (Tup.cells Qv a)),(.c TI left)])) :=
 Hold.of (by kernel_rfl) h
theorem Qvh (a:Qf) (left:Int) (hp:p_sz (α:=Qf) a left):TCon Tryz.prog 33 [(.a (Tup.cells Qv a)),(.c TI left)] (JQ (m_sz (α:=Qf) a left)):=by
 refine Ql rfl fun hb=>tcg (Γ:=Qqz) (n:=36) (sg:=Qjh.sg) Qk (TOkL.cons QIw (TOkL.cons QhG (TOkL.cons QFT TOkL.nil))) (by kernel_rfl) (by kernel_rfl) (QxY _ a left ?_)
 refine ⟨hp,fun h=>R_eq (Y6 (of_decide_eq_true h) (by first | omega | (simp only [QM,QS,Za];omega)) hp.1),fun h=>?_⟩
 rw [Qdh (Int.not_lt.1 (of_decide_eq_false h))]
 refine ⟨QbJ hp,fun h=>R_eq (Y6 (of_decide_eq_true h) (by first | omega | (simp only [QM,QS,Za];omega)) hp.1),fun h=>?_⟩
 rw [Qdh (Int.not_lt.1 (of_decide_eq_false h))]
 refine ⟨QbJ hp,fun h=>R_eq (Y6 (of_decide_eq_true h) (by first | omega | (simp only [QM,QS,Za];omega)) hp.1),fun h=>?_⟩
 rw [Qdh (Int.not_lt.1 (of_decide_eq_false h))]
 refine ⟨QbJ hp,fun h=>R_eq (Y6 (of_decide_eq_true h) (by first | omega | (simp only [QM,QS,Za];omega)) hp.1),fun h=>?_⟩
 rw [Qdh (Int.not_lt.1 (of_decide_eq_false h))]
 refine ⟨QbJ hp,fun h=>R_eq (Y6 (of_decide_eq_true h) (by first | omega | (simp only [QM,QS,Za];omega)) hp.1),fun h=>?_⟩
 exact R_eq (congrArg (ZG · _) (by first | rfl | omega | (simp only [QM,QS,Za];omega)))
theorem QCI:Qi Tryz.prog Qjh:=Qm fun x h=>Qvh x.1 x.2.1 h
def QhZ (t:Qf):TRes:=⟨(.a [(.r ctOp 0 0 ((t.1).length)),(.r [TI] 1 0 ((t.2.1).length)),(zci t.2.2.1),(.r [.bool] 2 0 ((t.2.2.2.1).length)),(.r [TI] 3 0 ((t.2.2.2.2.1).length)),(.r [TI] 4 0 ((t.2.2.2.2.2).length))]),[(.sl 134 ctOp (.dp 0 true []) t.1),(.sl 3 [TI] (.dp 0 true []) t.2.1),(.sl 4 [.bool] (.dp 0 true []) t.2.2.2.1),(.sl 3 [TI] (.dp 0 true []) t.2.2.2.2.1),(.sl 3 [TI] (.dp 0 true []) t.2.2.2.2.2)],[],false,[]⟩
def QhD:TRow:=Qg 36 [(.a Qv)] fun x=>(some (p_to (α:=Qf) x.1),QhZ (id (α:=Qf) x.1))
def Qmi:TTab:=⟨[Qkr,Qcu,Qig],true⟩
def Qwj:TCode :=
 (zsq [(.reg [zop 1 (.box 72 0 6),zop 2 (.new 79 (z0s Qv))]),(.reg [zop 3 (.new 79 (z0s Qv))]),(.reg [zfa 4 1 0,zLd 5 4 1,zca 6 122 [5],zfa 7 3 0,zst 7 6 1]),(.reg [zfa 8 1 1,zld 9 8 1,zca 10 29 [9],zfa 11 3 1,zst 11 10 1]),(.reg [zfa 12 1 2,zld 13 12 1,zfa 14 3 2,zst 14 13 1]),(.reg [zfa 15 1 3,zld 16 15 1,zca 17 123 [16],zfa 18 3 3,zst 18 17 1]),(.reg [zfa 19 1 4,zld 20 19 1,zca 21 29 [20],zfa 22 3 4,zst 22 21 1]),(.reg [zfa 23 1 5,zld 24 23 1,zca 25 29 [24],zfa 26 3 5,zst 26 25 1]),(.reg [zLd 27 3 6,zst 2 27 6]),.ret])
def QIn:List (ARv × Md):=[(.l 2 6 true,.b [.p 134,.p 3,.d,.p 4,.p 3,.p 3])]
theorem Qxt (a:Qf) (h :
 ((p_to (α:=List TOp') a.1)∧((p_to (α:=List Int) a.2.1)∧((p_to (α:=List Bool) a.2.2.2.1)∧((p_to (α:=List Int) a.2.2.2.2.1)∧((p_to (α:=List Int) a.2.2.2.2.2)∧K (QhZ ((List.take ((id (α:=List TOp') a.1).length) (id (α:=List TOp') a.1)),(List.take ((id (α:=List Int) a.2.1).length) (id (α:=List Int) a.2.1)),a.2.2.1,(List.take ((id (α:=List Bool) a.2.2.2.1).length) (id (α:=List Bool) a.2.2.2.1)),(List.take ((id (α:=List Int) a.2.2.2.2.1).length) (id (α:=List Int) a.2.2.2.2.1)),(List.take ((id (α:=List Int) a.2.2.2.2.2).length) (id (α:=List Int) a.2.2.2.2.2)))))))))):Hold (tawp Qmi (0+0) Qwj (TQ 0 0 QIn K) (Qe [(.a (Tup.cells Qv a))])) :=
 Hold.of (by kernel_rfl) h
theorem QBi (a:Qf) (hp:p_to (α:=Qf) a):TCon Tryz.prog 36 [(.a (Tup.cells Qv a))] (QhZ (id (α:=Qf) a)):=by
 refine Ql rfl fun hb=>tcg (Γ:=Qmi) (n:=28) (sg:=QhD.sg) Qk (TOkL.cons QGE (TOkL.cons QiZ (TOkL.cons QCF TOkL.nil))) (by kernel_rfl) (by kernel_rfl) (Qxt _ a ?_)
 repeat' (first | refine And.intro ?_ ?_ | exact R_eq (by simp))
 all_goals (simp only [p_to,QM,QS,Za,List.drop_zero,List.take_length,id_eq] at hp ⊢;omega)
theorem QGZ:Qi Tryz.prog QhD:=Qm fun x h=>QBi x.1 h
def Jk (t:Bool):TRes:=zre (zcb t)
def QhW:TRow:=Qg 39 [(.a Qv),(.a Qv)] fun x=>(none,Jk (m_eq (α:=Qf) x.1 x.2.1))
def QoZ:TTab:=⟨[Qhd,JD,Qj9],false⟩
def QFk:TCode :=
 (zsq [(.reg [zop 2 (.box 79 0 6),zop 3 (.box 79 1 6),zmv 4 (zkb false)]),(zsq [(.reg [zfa 5 2 0,zLd 6 5 1,zfa 7 3 0,zLd 8 7 1,zca 9 131 [6,8],zno 10 9]),(.cond 10 (zsq [(.reg [zmv 4 (zkb false)]),.ret]) .skip)]),(zsq [(.reg [zfa 11 2 1,zld 12 11 1,zfa 13 3 1,zld 14 13 1,zca 15 23 [12,14],zno 16 15]),(.cond 16 (zsq [(.reg [zmv 4 (zkb false)]),.ret]) .skip)]),(zsq [(.reg [zfa 17 2 2,zld 18 17 1,zfa 19 3 2,zld 20 19 1,zbi 21 .neq 18 20]),(.cond 21 (zsq [(.reg [zmv 4 (zkb false)]),.ret]) .skip)]),(zsq [(.reg [zfa 22 2 3,zld 23 22 1,zfa 24 3 3,zld 25 24 1,zca 26 132 [23,25],zno 27 26]),(.cond 27 (zsq [(.reg [zmv 4 (zkb false)]),.ret]) .skip)]),(zsq [(.reg [zfa 28 2 4,zld 29 28 1,zfa 30 3 4,zld 31 30 1,zca 32 23 [29,31],zno 33 32]),(.cond 33 (zsq [(.reg [zmv 4 (zkb false)]),.ret]) .skip)]),(zsq [(.reg [zfa 34 2 5,zld 35 34 1,zfa 36 3 5,zld 37 36 1,zca 38 23 [35,37],zno 39 38]),(.cond 39 (zsq [(.reg [zmv 4 (zkb false)]),.ret]) .skip)]),(.reg [zmv 4 (zkb true)]),.ret])
def QAI:List (ARv × Md):=[(.t 4,.one .d)]
theorem QEs (a:Qf) (b:Qf) (h :
 (zif (!(m_eq (α:=List TOp') a.1 b.1)) (K (Jk false)) (zif (!(m_eq (α:=List Int) a.2.1 b.2.1)) (K (Jk false)) (zif (a.2.2.1 != b.2.2.1) (K (Jk false)) (zif (!(m_eq (α:=List Bool) a.2.2.2.1 b.2.2.2.1)) (K (Jk false)) (zif (!(m_eq (α:=List Int) a.2.2.2.2.1 b.2.2.2.2.1)) (K (Jk false)) (zif (!(m_eq (α:=List Int) a.2.2.2.2.2 b.2.2.2.2.2)) (K (Jk false)) (K (Jk true))))))))):Hold (tawp QoZ (0+0) QFk (TQ 0 0 QAI K) (Qe [(.a (Tup.cells Qv a)),(.a (Tup.cells Qv b))])) :=
 Hold.of (by kernel_rfl) h
theorem QGB (a:Qf) (b:Qf):TCon Tryz.prog 39 [(.a (Tup.cells Qv a)),(.a (Tup.cells Qv b))] (Jk (m_eq (α:=Qf) a b)):=by
 refine Ql rfl fun hb=>tcg (Γ:=QoZ) (n:=40) (sg:=QhW.sg) Qk (TOkL.cons QAU (TOkL.cons Qbh (TOkL.cons QCP TOkL.nil))) (by kernel_rfl) (by kernel_rfl) (QEs _ a b ?_)
 refine ⟨fun h=>R_eq (Eq.symm (decide_eq_false (by rintro rfl;simp [m_eq] at h))),fun h0=>?_⟩
 refine ⟨fun h=>R_eq (Eq.symm (decide_eq_false (by rintro rfl;simp [m_eq] at h))),fun h1=>?_⟩
 refine ⟨fun h=>R_eq (Eq.symm (decide_eq_false (by rintro rfl;simp [m_eq] at h))),fun h2=>?_⟩
 refine ⟨fun h=>R_eq (Eq.symm (decide_eq_false (by rintro rfl;simp [m_eq] at h))),fun h3=>?_⟩
 refine ⟨fun h=>R_eq (Eq.symm (decide_eq_false (by rintro rfl;simp [m_eq] at h))),fun h4=>?_⟩
 refine ⟨fun h=>R_eq (Eq.symm (decide_eq_false (by rintro rfl;simp [m_eq] at h))),fun h5=>?_⟩
 refine R_eq (Eq.symm (decide_eq_true ?_))
 simp [m_eq] at h0 h1 h2 h3 h4 h5
 simp [Prod.ext_iff, *]
theorem QGn:Qi Tryz.prog QhW:=Qm fun x _=>QGB x.1 x.2.1
end
end Go.Proofs.YtdplaepmjogjjaaGreat.Am

