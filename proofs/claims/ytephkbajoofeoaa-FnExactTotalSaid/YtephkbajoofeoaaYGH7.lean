/- -/
import Derived.Test.YtephkbajoofeoaaYGH2
import Derived.Test.YtephkbajoofeoaaYGH1
namespace Go.Proofs.Ytephkbajoofeoaa.Am
open Go Go.RowKit Go.Proofs.Ytephkbajoofeoaa
set_option linter.all false
noncomputable section
variable (K:TRes→Prop)
def ZS (t:Int):TRes:=zre (zci t)
def QcU:TRow:=Qj 77 [(.a Qq),(.c TI)] fun x=>(some (p_sz (α:=Qg) x.1 x.2.1),ZS (m_sz (α:=Qg) x.1 x.2.1))
def Qkd:List TRow:=[QcC,JC,Qch]
def Qmq:TCode :=
 (zsq [(.reg [zop 2 (.box 111 0 6),zmv 4 (zki 0)]),(.reg [zfa 5 2 0,zLd 6 5 1,zmv 7 1,zca 8 63 [6,7],zmv 1 8]),(zsq [(.reg [zmv 9 1,zbi 10 .lss 9 (zki 0)]),(.cond 10 (zsq [(.reg [zmv 4 (zki (-1))]),.ret]) .skip)]),(.reg [zfa 11 2 1,zld 12 11 1,zmv 13 1,zca 14 124 [12,13],zmv 1 14]),(zsq [(.reg [zmv 15 1,zbi 16 .lss 15 (zki 0)]),(.cond 16 (zsq [(.reg [zmv 4 (zki (-1))]),.ret]) .skip)]),(.reg [zfa 17 2 3,zld 18 17 1,zmv 19 1,zca 20 147 [18,19],zmv 1 20]),(zsq [(.reg [zmv 21 1,zbi 22 .lss 21 (zki 0)]),(.cond 22 (zsq [(.reg [zmv 4 (zki (-1))]),.ret]) .skip)]),(.reg [zfa 23 2 4,zld 24 23 1,zmv 25 1,zca 26 124 [24,25],zmv 1 26]),(zsq [(.reg [zmv 27 1,zbi 28 .lss 27 (zki 0)]),(.cond 28 (zsq [(.reg [zmv 4 (zki (-1))]),.ret]) .skip)]),(.reg [zfa 29 2 5,zld 30 29 1,zmv 31 1,zca 32 124 [30,31],zmv 1 32]),(zsq [(.reg [zmv 33 1,zbi 34 .lss 33 (zki 0)]),(.cond 34 (zsq [(.reg [zmv 4 (zki (-1))]),.ret]) .skip)]),(.reg [zmv 35 1,zmv 4 35]),.ret])
def Qns:List (ARv × Md):=[(.t 4,.one .d)]
theorem QmU (a:Qg) (left:Int) (h :
 let z2:=m_sz (α:=List TOp') a.1 left
 let z4:=m_sz (α:=List Int) a.2.1 z2
 let z1:=m_sz (α:=List Bool) a.2.2.2.1 z4
 let z3:=m_sz (α:=List Int) a.2.2.2.2.1 z1
 ((p_sz (α:=List TOp') a.1 left)∧(zif (decide (z2<(0:Int))) (K (ZS (-1:Int))) ((p_sz (α:=List Int) a.2.1 z2)∧(zif (decide (z4<(0:Int))) (K (ZS (-1:Int))) ((p_sz (α:=List Bool) a.2.2.2.1 z4)∧(zif (decide (z1<(0:Int))) (K (ZS (-1:Int))) ((p_sz (α:=List Int) a.2.2.2.2.1 z1)∧(zif (decide (z3<(0:Int))) (K (ZS (-1:Int))) ((p_sz (α:=List Int) a.2.2.2.2.2 z3)∧(zif (decide ((m_sz (α:=List Int) a.2.2.2.2.2 z3)<(0:Int))) (K (ZS (-1:Int))) (K (ZS (m_sz (α:=List Int) a.2.2.2.2.2 z3)))))))))))))):Hold (tawp Qkd (0+0) Qmq (TQ 0 0 Qns K) (Qh [(.a (Tup.cells Qq a)),(.c TI left)])) :=
 Hold.of (by kernel_rfl) h
theorem Qjq (a:Qg) (left:Int) (hp:p_sz (α:=Qg) a left):TCon Try.prog 77 [(.a (Tup.cells Qq a)),(.c TI left)] (ZS (m_sz (α:=Qg) a left)):=by
 refine Ql rfl fun hb=>tcg (n:=36) (sg:=QcU.sg) Qm (TOk.cons Qmo (TOk.cons QfM (TOk.cons QlA TOk.nil))) (by kernel_rfl) (by kernel_rfl) (QmU _ a left ?_)
 refine ⟨hp,fun h=>R_eq (Ya (of_decide_eq_true h) (by first | omega | (simp only [Q1,Q5,Q4];omega)) hp.1),fun h=>?_⟩
 rw [JR (Int.not_lt.1 (of_decide_eq_false h))]
 refine ⟨JD hp,fun h=>R_eq (Ya (of_decide_eq_true h) (by first | omega | (simp only [Q1,Q5,Q4];omega)) hp.1),fun h=>?_⟩
 rw [JR (Int.not_lt.1 (of_decide_eq_false h))]
 refine ⟨JD hp,fun h=>R_eq (Ya (of_decide_eq_true h) (by first | omega | (simp only [Q1,Q5,Q4];omega)) hp.1),fun h=>?_⟩
 rw [JR (Int.not_lt.1 (of_decide_eq_false h))]
 refine ⟨JD hp,fun h=>R_eq (Ya (of_decide_eq_true h) (by first | omega | (simp only [Q1,Q5,Q4];omega)) hp.1),fun h=>?_⟩
 rw [JR (Int.not_lt.1 (of_decide_eq_false h))]
 refine ⟨JD hp,fun h=>R_eq (Ya (of_decide_eq_true h) (by first | omega | (simp only [Q1,Q5,Q4];omega)) hp.1),fun h=>?_⟩
 exact R_eq (congrArg (QU · _) (by first | rfl | omega | (simp only [Q1,Q5,Q4];omega)))
theorem Qk6:Qi Try.prog QcU:=Qn fun x h=>Qjq x.1 x.2.1 h
def Qc8 (t:Qg):TRes:=zra (.a (Tup.cells Qq t))
def Qc6:TRow:=Qj 79 [(.a Qq)] fun x=>(some (p_to (α:=Qg) x.1),Qc8 (id (α:=Qg) x.1))
def Qi9:List TRow:=[Qbn,JK,Qa3]
def Qh9:TCode :=
 (zsq [(.reg [zop 1 (.box 111 0 6),zop 2 (.new 103 (z0s Qq))]),(.reg [zop 3 (.new 103 (z0s Qq))]),(.reg [zfa 4 1 0,zLd 5 4 1,zca 6 65 [5],zfa 7 3 0,zst 7 6 1]),(.reg [zfa 8 1 1,zld 9 8 1,zca 10 127 [9],zfa 11 3 1,zst 11 10 1]),(.reg [zfa 12 1 2,zld 13 12 1,zfa 14 3 2,zst 14 13 1]),(.reg [zfa 15 1 3,zld 16 15 1,zca 17 149 [16],zfa 18 3 3,zst 18 17 1]),(.reg [zfa 19 1 4,zld 20 19 1,zca 21 127 [20],zfa 22 3 4,zst 22 21 1]),(.reg [zfa 23 1 5,zld 24 23 1,zca 25 127 [24],zfa 26 3 5,zst 26 25 1]),(.reg [zLd 27 3 6,zst 2 27 6]),.ret])
def Qhm:List (ARv × Md):=[(.l 2 6 true,.b (zds 6))]
theorem QhU (a:Qg) (h :
 ((p_to (α:=List TOp') a.1)∧((p_to (α:=List Int) a.2.1)∧((p_to (α:=List Bool) a.2.2.2.1)∧((p_to (α:=List Int) a.2.2.2.2.1)∧((p_to (α:=List Int) a.2.2.2.2.2)∧K (Qc8 ((id (α:=List TOp') a.1),(id (α:=List Int) a.2.1),a.2.2.1,(id (α:=List Bool) a.2.2.2.1),(id (α:=List Int) a.2.2.2.2.1),(id (α:=List Int) a.2.2.2.2.2))))))))):Hold (tawp Qi9 (0+0) Qh9 (TQ 0 0 Qhm K) (Qh [(.a (Tup.cells Qq a))])) :=
 Hold.of (by kernel_rfl) h
theorem Qml (a:Qg) (hp:p_to (α:=Qg) a):TCon Try.prog 79 [(.a (Tup.cells Qq a))] (Qc8 (id (α:=Qg) a)):=by
 refine Ql rfl fun hb=>tcg (n:=28) (sg:=Qc6.sg) Qm (TOk.cons QhW (TOk.cons Qe8 (TOk.cons QlG TOk.nil))) (by kernel_rfl) (by kernel_rfl) (QhU _ a ?_)
 repeat' (first | exact rfl | refine And.intro ?_ ?_)
 all_goals (simp only [p_to,Q1,Q5,Q4] at hp ⊢;omega)
theorem Qks:Qi Try.prog Qc6:=Qn fun x h=>Qml x.1 h
def ZF (t:Bool):TRes:=zre (zcb t)
def Qc2:TRow:=Qj 81 [(.a Qq),(.a Qq)] fun x=>(none,ZF (m_eq (α:=Qg) x.1 x.2.1))
def Qih:List TRow:=[QcM,Jw,Qca]
def QlU:TCode :=
 (zsq [(.reg [zop 2 (.box 103 0 6),zop 3 (.box 103 1 6),zmv 4 (zkb false)]),(zsq [(.reg [zfa 5 2 0,zLd 6 5 1,zfa 7 3 0,zLd 8 7 1,zca 9 67 [6,8],zno 10 9]),(.cond 10 (zsq [(.reg [zmv 4 (zkb false)]),.ret]) .skip)]),(zsq [(.reg [zfa 11 2 1,zld 12 11 1,zfa 13 3 1,zld 14 13 1,zca 15 66 [12,14],zno 16 15]),(.cond 16 (zsq [(.reg [zmv 4 (zkb false)]),.ret]) .skip)]),(zsq [(.reg [zfa 17 2 2,zld 18 17 1,zfa 19 3 2,zld 20 19 1,zbi 21 .neq 18 20]),(.cond 21 (zsq [(.reg [zmv 4 (zkb false)]),.ret]) .skip)]),(zsq [(.reg [zfa 22 2 3,zld 23 22 1,zfa 24 3 3,zld 25 24 1,zca 26 150 [23,25],zno 27 26]),(.cond 27 (zsq [(.reg [zmv 4 (zkb false)]),.ret]) .skip)]),(zsq [(.reg [zfa 28 2 4,zld 29 28 1,zfa 30 3 4,zld 31 30 1,zca 32 66 [29,31],zno 33 32]),(.cond 33 (zsq [(.reg [zmv 4 (zkb false)]),.ret]) .skip)]),(zsq [(.reg [zfa 34 2 5,zld 35 34 1,zfa 36 3 5,zld 37 36 1,zca 38 66 [35,37],zno 39 38]),(.cond 39 (zsq [(.reg [zmv 4 (zkb false)]),.ret]) .skip)]),(.reg [zmv 4 (zkb true)]),.ret])
def QnD:List (ARv × Md):=[(.t 4,.one .d)]
theorem QmE (a:Qg) (b:Qg) (h :
 (zif (!(m_eq (α:=List TOp') a.1 b.1)) (K (ZF false)) (zif (!(m_eq (α:=List Int) a.2.1 b.2.1)) (K (ZF false)) (zif (a.2.2.1 != b.2.2.1) (K (ZF false)) (zif (!(m_eq (α:=List Bool) a.2.2.2.1 b.2.2.2.1)) (K (ZF false)) (zif (!(m_eq (α:=List Int) a.2.2.2.2.1 b.2.2.2.2.1)) (K (ZF false)) (zif (!(m_eq (α:=List Int) a.2.2.2.2.2 b.2.2.2.2.2)) (K (ZF false)) (K (ZF true))))))))):Hold (tawp Qih (0+0) QlU (TQ 0 0 QnD K) (Qh [(.a (Tup.cells Qq a)),(.a (Tup.cells Qq b))])) :=
 Hold.of (by kernel_rfl) h
theorem Qnr (a:Qg) (b:Qg):TCon Try.prog 81 [(.a (Tup.cells Qq a)),(.a (Tup.cells Qq b))] (ZF (m_eq (α:=Qg) a b)):=by
 refine Ql rfl fun hb=>tcg (n:=40) (sg:=Qc2.sg) Qm (TOk.cons Qhz (TOk.cons Qf4 (TOk.cons QiM TOk.nil))) (by kernel_rfl) (by kernel_rfl) (QmE _ a b ?_)
 refine ⟨fun h=>R_eq (Eq.symm (decide_eq_false (by rintro rfl;simp [m_eq] at h))),fun h0=>?_⟩
 refine ⟨fun h=>R_eq (Eq.symm (decide_eq_false (by rintro rfl;simp [m_eq] at h))),fun h1=>?_⟩
 refine ⟨fun h=>R_eq (Eq.symm (decide_eq_false (by rintro rfl;simp [m_eq] at h))),fun h2=>?_⟩
 refine ⟨fun h=>R_eq (Eq.symm (decide_eq_false (by rintro rfl;simp [m_eq] at h))),fun h3=>?_⟩
 refine ⟨fun h=>R_eq (Eq.symm (decide_eq_false (by rintro rfl;simp [m_eq] at h))),fun h4=>?_⟩
 refine ⟨fun h=>R_eq (Eq.symm (decide_eq_false (by rintro rfl;simp [m_eq] at h))),fun h5=>?_⟩
 refine R_eq (Eq.symm (decide_eq_true ?_))
 simp [m_eq] at h0 h1 h2 h3 h4 h5
 simp [Prod.ext_iff, *]
theorem Qkf:Qi Try.prog Qc2:=Qn fun x _=>Qnr x.1 x.2.1
end
end Go.Proofs.Ytephkbajoofeoaa.Am

