/- -/
import Derived.Test.YtephkbajoofeoaaWEH4
import Derived.Test.YtephkbajoofeoaaWEH2
import Derived.Test.YtephkbajoofeoaaWEH1
import Derived.Test.YtephkbajoofeoaaWEGF
namespace Go.Proofs.Ytephkbajoofeoaa.Am
open Go Go.RowKit Go.Proofs.Ytephkbajoofeoaa
set_option linter.all false
noncomputable section
variable (K:TRes→Prop)
def Q4 (t:Bool):TRes:=zre (zcb t)
def QfA:TRow:=Ql 86 [(.a QO),(.a QO)] fun x=>(none,Q4 (m_eq (α:=Qq) x.1 x.2.1))
def Qjp:TTab:=⟨[QcK,QcF,QeD,Qa8,J8,Qd6],false⟩
def Qnm:TCode :=
 (zsq [(.reg [zop 2 (.box 121 0 14),zop 3 (.box 121 1 14),zmv 4 (zkb false)]),(zsq [(.reg [zfa 5 2 0,zld 6 5 1,zfa 7 3 0,zld 8 7 1,zbi 9 .neq 6 8]),(.cond 9 (zsq [(.reg [zmv 4 (zkb false)]),.ret]) .skip)]),(zsq [(.reg [zfa 10 2 1,zld 11 10 1,zfa 12 3 1,zld 13 12 1,zca 14 19 [11,13],zno 15 14]),(.cond 15 (zsq [(.reg [zmv 4 (zkb false)]),.ret]) .skip)]),(zsq [(.reg [zfa 16 2 2,zld 17 16 1,zfa 18 3 2,zld 19 18 1,zca 20 87 [17,19],zno 21 20]),(.cond 21 (zsq [(.reg [zmv 4 (zkb false)]),.ret]) .skip)]),(zsq [(.reg [zfa 22 2 3,zld 23 22 1,zfa 24 3 3,zld 25 24 1,zop 26 (.eqb true 23 25)]),(.cond 26 (zsq [(.reg [zmv 4 (zkb false)]),.ret]) .skip)]),(zsq [(.reg [zfa 27 2 4,zld 28 27 1,zfa 29 3 4,zld 30 29 1,zop 31 (.eqb true 28 30)]),(.cond 31 (zsq [(.reg [zmv 4 (zkb false)]),.ret]) .skip)]),(zsq [(.reg [zfa 32 2 5,zld 33 32 1,zfa 34 3 5,zld 35 34 1,zca 36 157 [33,35],zno 37 36]),(.cond 37 (zsq [(.reg [zmv 4 (zkb false)]),.ret]) .skip)]),(zsq [(.reg [zfa 38 2 6,zld 39 38 1,zfa 40 3 6,zld 41 40 1,zca 42 158 [39,41],zno 43 42]),(.cond 43 (zsq [(.reg [zmv 4 (zkb false)]),.ret]) .skip)]),(zsq [(.reg [zfa 44 2 7,zld 45 44 1,zfa 46 3 7,zld 47 46 1,zca 48 66 [45,47],zno 49 48]),(.cond 49 (zsq [(.reg [zmv 4 (zkb false)]),.ret]) .skip)]),(zsq [(.reg [zfa 50 2 8,zld 51 50 1,zfa 52 3 8,zld 53 52 1,zca 54 66 [51,53],zno 55 54]),(.cond 55 (zsq [(.reg [zmv 4 (zkb false)]),.ret]) .skip)]),(zsq [(.reg [zfa 56 2 9,zld 57 56 1,zfa 58 3 9,zld 59 58 1,zca 60 66 [57,59],zno 61 60]),(.cond 61 (zsq [(.reg [zmv 4 (zkb false)]),.ret]) .skip)]),(zsq [(.reg [zfa 62 2 10,zld 63 62 1,zfa 64 3 10,zld 65 64 1,zca 66 66 [63,65],zno 67 66]),(.cond 67 (zsq [(.reg [zmv 4 (zkb false)]),.ret]) .skip)]),(zsq [(.reg [zfa 68 2 11,zLd 69 68 3,zfa 70 3 11,zLd 71 70 3,zca 72 99 [69,71],zno 73 72]),(.cond 73 (zsq [(.reg [zmv 4 (zkb false)]),.ret]) .skip)]),(.reg [zmv 4 (zkb true)]),.ret])
def QnJ:List (ARv × Md):=[(.t 4,.one .d)]
theorem Qp1 (a:Qq) (b:Qq) (h :
 (zif (a.1 != b.1) (K (Q4 false)) (zif (!(m_eq (α:=List TIns) a.2.1 b.2.1)) (K (Q4 false)) (zif (!(m_eq (α:=List TOp') a.2.2.1 b.2.2.1)) (K (Q4 false)) (zif (!(a.2.2.2.1==b.2.2.2.1)) (K (Q4 false)) (zif (!(a.2.2.2.2.1==b.2.2.2.2.1)) (K (Q4 false)) (zif (!(m_eq (α:=List Qj) a.2.2.2.2.2.1 b.2.2.2.2.2.1)) (K (Q4 false)) (zif (!(m_eq (α:=List (List Int)) a.2.2.2.2.2.2.1 b.2.2.2.2.2.2.1)) (K (Q4 false)) (zif (!(m_eq (α:=List Int) a.2.2.2.2.2.2.2.1 b.2.2.2.2.2.2.2.1)) (K (Q4 false)) (zif (!(m_eq (α:=List Int) a.2.2.2.2.2.2.2.2.1 b.2.2.2.2.2.2.2.2.1)) (K (Q4 false)) (zif (!(m_eq (α:=List Int) a.2.2.2.2.2.2.2.2.2.1 b.2.2.2.2.2.2.2.2.2.1)) (K (Q4 false)) (zif (!(m_eq (α:=List Int) a.2.2.2.2.2.2.2.2.2.2.1 b.2.2.2.2.2.2.2.2.2.2.1)) (K (Q4 false)) (zif (!(m_eq (α:=QE) a.2.2.2.2.2.2.2.2.2.2.2 b.2.2.2.2.2.2.2.2.2.2.2)) (K (Q4 false)) (K (Q4 true))))))))))))))):Hold (tawp Qjp (0+0) Qnm (TQ 0 0 QnJ K) (Qh [(.a (Tup.cells QO a)),(.a (Tup.cells QO b))])) :=
 Hold.of (by kernel_rfl) h
theorem Qn2 (a:Qq) (b:Qq):TCon Try.prog 86 [(.a (Tup.cells QO a)),(.a (Tup.cells QO b))] (Q4 (m_eq (α:=Qq) a b)):=by
 refine Qn rfl fun hb=>tcg (Γ:=Qjp) (n:=74) (sg:=QfA.sg) Qo (TOkL.cons QgN (TOkL.cons Qiv (TOkL.cons Qs8 (TOkL.cons Qfs (TOkL.cons Qe7 (TOkL.cons Qno TOkL.nil)))))) (by kernel_rfl) (by kernel_rfl) (Qp1 _ a b ?_)
 refine ⟨fun h=>R_eq (Eq.symm (decide_eq_false (by rintro rfl;simp [m_eq] at h))),fun h0=>?_⟩
 refine ⟨fun h=>R_eq (Eq.symm (decide_eq_false (by rintro rfl;simp [m_eq] at h))),fun h1=>?_⟩
 refine ⟨fun h=>R_eq (Eq.symm (decide_eq_false (by rintro rfl;simp [m_eq] at h))),fun h2=>?_⟩
 refine ⟨fun h=>R_eq (Eq.symm (decide_eq_false (by rintro rfl;simp [m_eq] at h))),fun h3=>?_⟩
 refine ⟨fun h=>R_eq (Eq.symm (decide_eq_false (by rintro rfl;simp [m_eq] at h))),fun h4=>?_⟩
 refine ⟨fun h=>R_eq (Eq.symm (decide_eq_false (by rintro rfl;simp [m_eq] at h))),fun h5=>?_⟩
 refine ⟨fun h=>R_eq (Eq.symm (decide_eq_false (by rintro rfl;simp [m_eq] at h))),fun h6=>?_⟩
 refine ⟨fun h=>R_eq (Eq.symm (decide_eq_false (by rintro rfl;simp [m_eq] at h))),fun h7=>?_⟩
 refine ⟨fun h=>R_eq (Eq.symm (decide_eq_false (by rintro rfl;simp [m_eq] at h))),fun h8=>?_⟩
 refine ⟨fun h=>R_eq (Eq.symm (decide_eq_false (by rintro rfl;simp [m_eq] at h))),fun h9=>?_⟩
 refine ⟨fun h=>R_eq (Eq.symm (decide_eq_false (by rintro rfl;simp [m_eq] at h))),fun h10=>?_⟩
 refine ⟨fun h=>R_eq (Eq.symm (decide_eq_false (by rintro rfl;simp [m_eq] at h))),fun h11=>?_⟩
 refine R_eq (Eq.symm (decide_eq_true ?_))
 simp [m_eq] at h0 h1 h2 h3 h4 h5 h6 h7 h8 h9 h10 h11
 simp [Prod.ext_iff, *]
theorem Qqh:Qm Try.prog QfA:=Qp fun x _=>Qn2 x.1 x.2.1
end
end Go.Proofs.Ytephkbajoofeoaa.Am

