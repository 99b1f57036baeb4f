/- -/
import Derived.Test.YtdplaepmjogjjaaGreatVEH1
import Derived.Test.YtdplaepmjogjjaaGreatVEH5
import Derived.Test.YtdplaepmjogjjaaGreatVEH3
import Derived.Test.YtdplaepmjogjjaaGreatVEGF
namespace Go.Proofs.YtdplaepmjogjjaaGreat.Am
open Go Go.RowKit Go.Proofs.YtdplaepmjogjjaaGreat
set_option linter.all false
noncomputable section
variable (K:TRes→Prop)
def Qa5 (t:Bool):TRes:=zre (zcb t)
def Qhq:TRow:=Qg 24 [(.a Zd),(.a Zd)] fun x=>(none,Qa5 (m_eq (α:=QO) x.1 x.2.1))
def QpS:TTab:=⟨[QdU,Qjc,QiU],false⟩
def QAE:TCode :=
 (zsq [(.reg [zop 2 (.box 56 0 4),zop 3 (.box 56 1 4),zmv 4 (zkb false)]),(zsq [(.reg [zfa 5 2 0,zld 6 5 1,zfa 7 3 0,zld 8 7 1,zca 9 40 [6,8],zno 10 9]),(.cond 10 (zsq [(.reg [zmv 4 (zkb false)]),.ret]) .skip)]),(zsq [(.reg [zfa 11 2 1,zld 12 11 1,zfa 13 3 1,zld 14 13 1,zca 15 93 [12,14],zno 16 15]),(.cond 16 (zsq [(.reg [zmv 4 (zkb false)]),.ret]) .skip)]),(zsq [(.reg [zfa 17 2 2,zld 18 17 1,zfa 19 3 2,zld 20 19 1,zca 21 94 [18,20],zno 22 21]),(.cond 22 (zsq [(.reg [zmv 4 (zkb false)]),.ret]) .skip)]),(zsq [(.reg [zfa 23 2 3,zld 24 23 1,zfa 25 3 3,zld 26 25 1,zca 27 94 [24,26],zno 28 27]),(.cond 28 (zsq [(.reg [zmv 4 (zkb false)]),.ret]) .skip)]),(.reg [zmv 4 (zkb true)]),.ret])
def Qwl:List (ARv × Md):=[(.t 4,.one .d)]
theorem QHb (a:QO) (b:QO) (h :
 (zif (!(m_eq (α:=List Qc) a.1 b.1)) (K (Qa5 false)) (zif (!(m_eq (α:=List Qr) a.2.1 b.2.1)) (K (Qa5 false)) (zif (!(m_eq (α:=List Qp) a.2.2.1 b.2.2.1)) (K (Qa5 false)) (zif (!(m_eq (α:=List Qp) a.2.2.2 b.2.2.2)) (K (Qa5 false)) (K (Qa5 true))))))):Hold (tawp QpS (0+0) QAE (TQ 0 0 Qwl K) (Qe [(.a (Tup.cells Zd a)),(.a (Tup.cells Zd b))])) :=
 Hold.of (by kernel_rfl) h
theorem QHw (a:QO) (b:QO):TCon Tryz.prog 24 [(.a (Tup.cells Zd a)),(.a (Tup.cells Zd b))] (Qa5 (m_eq (α:=QO) a b)):=by
 refine Ql rfl fun hb=>tcg (Γ:=QpS) (n:=29) (sg:=Qhq.sg) Qk (TOkL.cons Qml (TOkL.cons Qys (TOkL.cons QFc TOkL.nil))) (by kernel_rfl) (by kernel_rfl) (QHb _ a b ?_)
 refine ⟨fun h=>R_eq (Eq.symm (decide_eq_false (by rintro rfl;simp [m_eq] at h))),fun h0=>?_⟩
 refine ⟨fun h=>R_eq (Eq.symm (decide_eq_false (by rintro rfl;simp [m_eq] at h))),fun h1=>?_⟩
 refine ⟨fun h=>R_eq (Eq.symm (decide_eq_false (by rintro rfl;simp [m_eq] at h))),fun h2=>?_⟩
 refine ⟨fun h=>R_eq (Eq.symm (decide_eq_false (by rintro rfl;simp [m_eq] at h))),fun h3=>?_⟩
 refine R_eq (Eq.symm (decide_eq_true ?_))
 simp [m_eq] at h0 h1 h2 h3
 simp [Prod.ext_iff, *]
theorem QDi:Qi Tryz.prog Qhq:=Qm fun x _=>QHw x.1 x.2.1
end
end Go.Proofs.YtdplaepmjogjjaaGreat.Am

