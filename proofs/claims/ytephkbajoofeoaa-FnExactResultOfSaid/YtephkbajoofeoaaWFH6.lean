/- -/
import Derived.Test.YtephkbajoofeoaaWFH1
import Derived.Test.YtephkbajoofeoaaWFH5
import Derived.Test.YtephkbajoofeoaaWFH3
import Derived.Test.YtephkbajoofeoaaWFGF
namespace Go.Proofs.Ytephkbajoofeoaa.Am
open Go Go.RowKit Go.Proofs.Ytephkbajoofeoaa
set_option linter.all false
noncomputable section
variable (K:TRes→Prop)
def Jr (t:Int):TRes:=zre (zci t)
def Qfa:TRow:=Ql 91 [(.a QG),(.c TI)] fun x=>(some (p_sz (α:=Qs) x.1 x.2.1),Jr (m_sz (α:=Qs) x.1 x.2.1))
def QiR:TTab:=⟨[QdR,QeB,Qe2],false⟩
def Qsk:TCode :=
 (zsq [(.reg [zop 2 (.box 133 0 4),zmv 4 (zki 0)]),(.reg [zfa 5 2 0,zld 6 5 1,zmv 7 1,zca 8 165 [6,7],zmv 1 8]),(zsq [(.reg [zmv 9 1,zbi 10 .lss 9 (zki 0)]),(.cond 10 (zsq [(.reg [zmv 4 (zki (-1))]),.ret]) .skip)]),(.reg [zfa 11 2 1,zld 12 11 1,zmv 13 1,zca 14 166 [12,13],zmv 1 14]),(zsq [(.reg [zmv 15 1,zbi 16 .lss 15 (zki 0)]),(.cond 16 (zsq [(.reg [zmv 4 (zki (-1))]),.ret]) .skip)]),(.reg [zfa 17 2 2,zld 18 17 1,zmv 19 1,zca 20 167 [18,19],zmv 1 20]),(zsq [(.reg [zmv 21 1,zbi 22 .lss 21 (zki 0)]),(.cond 22 (zsq [(.reg [zmv 4 (zki (-1))]),.ret]) .skip)]),(.reg [zfa 23 2 3,zld 24 23 1,zmv 25 1,zca 26 167 [24,25],zmv 1 26]),(zsq [(.reg [zmv 27 1,zbi 28 .lss 27 (zki 0)]),(.cond 28 (zsq [(.reg [zmv 4 (zki (-1))]),.ret]) .skip)]),(.reg [zmv 29 1,zmv 4 29]),.ret])
def Qu2:List (ARv × Md):=[(.t 4,.one .d)]
theorem Qys (a:Qs) (left:Int) (h :
 let z3:=m_sz (α:=List Qe) a.1 left
 let z1:=m_sz (α:=List Qd) a.2.1 z3
 let z2:=m_sz (α:=List Qg) a.2.2.1 z1
 ((p_sz (α:=List Qe) a.1 left)∧(zif (decide (z3<(0:Int))) (K (Jr (-1:Int))) ((p_sz (α:=List Qd) a.2.1 z3)∧(zif (decide (z1<(0:Int))) (K (Jr (-1:Int))) ((p_sz (α:=List Qg) a.2.2.1 z1)∧(zif (decide (z2<(0:Int))) (K (Jr (-1:Int))) ((p_sz (α:=List Qg) a.2.2.2 z2)∧(zif (decide ((m_sz (α:=List Qg) a.2.2.2 z2)<(0:Int))) (K (Jr (-1:Int))) (K (Jr (m_sz (α:=List Qg) a.2.2.2 z2)))))))))))):Hold (tawp QiR (0+0) Qsk (TQ 0 0 Qu2 K) (Qk [(.a (Tup.cells QG a)),(.c TI left)])) :=
 Hold.of (by kernel_rfl) h
theorem Qw5 (a:Qs) (left:Int) (hp:p_sz (α:=Qs) a left):TCon Try.prog 91 [(.a (Tup.cells QG a)),(.c TI left)] (Jr (m_sz (α:=Qs) a left)):=by
 refine Qp rfl fun hb=>tcg (Γ:=QiR) (n:=30) (sg:=Qfa.sg) Qo (TOkL.cons Qxo (TOkL.cons Qy0 (TOkL.cons QqS TOkL.nil))) (by kernel_rfl) (by kernel_rfl) (Qys _ a left ?_)
 refine ⟨hp,fun h=>R_eq (QU (of_decide_eq_true h) (by first | omega | (simp only [Qw,Qy,QD];omega)) hp.1),fun h=>?_⟩
 rw [ZE (Int.not_lt.1 (of_decide_eq_false h))]
 refine ⟨ZF hp,fun h=>R_eq (QU (of_decide_eq_true h) (by first | omega | (simp only [Qw,Qy,QD];omega)) hp.1),fun h=>?_⟩
 rw [ZE (Int.not_lt.1 (of_decide_eq_false h))]
 refine ⟨ZF hp,fun h=>R_eq (QU (of_decide_eq_true h) (by first | omega | (simp only [Qw,Qy,QD];omega)) hp.1),fun h=>?_⟩
 rw [ZE (Int.not_lt.1 (of_decide_eq_false h))]
 refine ⟨ZF hp,fun h=>R_eq (QU (of_decide_eq_true h) (by first | omega | (simp only [Qw,Qy,QD];omega)) hp.1),fun h=>?_⟩
 exact R_eq (congrArg (QZ · _) (by first | rfl | omega | (simp only [Qw,Qy,QD];omega)))
theorem QvX:Qm Try.prog Qfa:=Qr fun x h=>Qw5 x.1 x.2.1 h
def Qgp (t:Qs):TRes:=⟨(.a [(.r Qz 0 0 ((t.1).length)),(.r Qq 1 0 ((t.2.1).length)),(.r Qu 2 0 ((t.2.2.1).length)),(.r Qu 3 0 ((t.2.2.2).length))]),[(.sl 230 Qz (.dp 0 true []) t.1),(.sl 121 Qq (.dp 0 true []) t.2.1),(.sl 36 Qu (.dp 0 true []) t.2.2.1),(.sl 36 Qu (.dp 0 true []) t.2.2.2)],[],false,[]⟩
def Qfx:TRow:=Ql 93 [(.a QG)] fun x=>(some (p_to (α:=Qs) x.1),Qgp (id (α:=Qs) x.1))
def QhL:TTab:=⟨[Qey,Qe0,Qfc],true⟩
def Qsp:TCode :=
 (zsq [(.reg [zop 1 (.box 133 0 4),zop 2 (.new 139 (z0s QG))]),(.reg [zop 3 (.new 139 (z0s QG))]),(.reg [zfa 4 1 0,zld 5 4 1,zca 6 168 [5],zfa 7 3 0,zst 7 6 1]),(.reg [zfa 8 1 1,zld 9 8 1,zca 10 169 [9],zfa 11 3 1,zst 11 10 1]),(.reg [zfa 12 1 2,zld 13 12 1,zca 14 170 [13],zfa 15 3 2,zst 15 14 1]),(.reg [zfa 16 1 3,zld 17 16 1,zca 18 170 [17],zfa 19 3 3,zst 19 18 1]),(.reg [zLd 20 3 4,zst 2 20 4]),.ret])
def Qzq:List (ARv × Md):=[(.l 2 4 true,.b [.p 230,.p 121,.p 36,.p 36])]
theorem Qxx (a:Qs) (h :
 ((p_to (α:=List Qe) a.1)∧((p_to (α:=List Qd) a.2.1)∧((p_to (α:=List Qg) a.2.2.1)∧((p_to (α:=List Qg) a.2.2.2)∧K (Qgp ((List.take ((id (α:=List Qe) a.1).length) (id (α:=List Qe) a.1)),(List.take ((id (α:=List Qd) a.2.1).length) (id (α:=List Qd) a.2.1)),(List.take ((id (α:=List Qg) a.2.2.1).length) (id (α:=List Qg) a.2.2.1)),(List.take ((id (α:=List Qg) a.2.2.2).length) (id (α:=List Qg) a.2.2.2))))))))):Hold (tawp QhL (0+0) Qsp (TQ 0 0 Qzq K) (Qk [(.a (Tup.cells QG a))])) :=
 Hold.of (by kernel_rfl) h
theorem Qo0 (a:Qs) (hp:p_to (α:=Qs) a):TCon Try.prog 93 [(.a (Tup.cells QG a))] (Qgp (id (α:=Qs) a)):=by
 refine Qp rfl fun hb=>tcg (Γ:=QhL) (n:=21) (sg:=Qfx.sg) Qo (TOkL.cons QuC (TOkL.cons Qx3 (TOkL.cons Qzz TOkL.nil))) (by kernel_rfl) (by kernel_rfl) (Qxx _ a ?_)
 repeat' (first | refine And.intro ?_ ?_ | exact R_eq (by simp))
 all_goals (simp only [p_to,Qw,Qy,QD,List.drop_zero,List.take_length,id_eq] at hp ⊢;omega)
theorem Qyl:Qm Try.prog Qfx:=Qr fun x h=>Qo0 x.1 h
def Ji (t:Bool):TRes:=zre (zcb t)
def QdW:TRow:=Ql 95 [(.a QG),(.a QG)] fun x=>(none,Ji (m_eq (α:=Qs) x.1 x.2.1))
def QkW:TTab:=⟨[Qel,Qgu,Qgn],false⟩
def Qq7:TCode :=
 (zsq [(.reg [zop 2 (.box 139 0 4),zop 3 (.box 139 1 4),zmv 4 (zkb false)]),(zsq [(.reg [zfa 5 2 0,zld 6 5 1,zfa 7 3 0,zld 8 7 1,zca 9 171 [6,8],zno 10 9]),(.cond 10 (zsq [(.reg [zmv 4 (zkb false)]),.ret]) .skip)]),(zsq [(.reg [zfa 11 2 1,zld 12 11 1,zfa 13 3 1,zld 14 13 1,zca 15 172 [12,14],zno 16 15]),(.cond 16 (zsq [(.reg [zmv 4 (zkb false)]),.ret]) .skip)]),(zsq [(.reg [zfa 17 2 2,zld 18 17 1,zfa 19 3 2,zld 20 19 1,zca 21 173 [18,20],zno 22 21]),(.cond 22 (zsq [(.reg [zmv 4 (zkb false)]),.ret]) .skip)]),(zsq [(.reg [zfa 23 2 3,zld 24 23 1,zfa 25 3 3,zld 26 25 1,zca 27 173 [24,26],zno 28 27]),(.cond 28 (zsq [(.reg [zmv 4 (zkb false)]),.ret]) .skip)]),(.reg [zmv 4 (zkb true)]),.ret])
def Qsd:List (ARv × Md):=[(.t 4,.one .d)]
theorem QtI (a:Qs) (b:Qs) (h :
 (zif (!(m_eq (α:=List Qe) a.1 b.1)) (K (Ji false)) (zif (!(m_eq (α:=List Qd) a.2.1 b.2.1)) (K (Ji false)) (zif (!(m_eq (α:=List Qg) a.2.2.1 b.2.2.1)) (K (Ji false)) (zif (!(m_eq (α:=List Qg) a.2.2.2 b.2.2.2)) (K (Ji false)) (K (Ji true))))))):Hold (tawp QkW (0+0) Qq7 (TQ 0 0 Qsd K) (Qk [(.a (Tup.cells QG a)),(.a (Tup.cells QG b))])) :=
 Hold.of (by kernel_rfl) h
theorem QyY (a:Qs) (b:Qs):TCon Try.prog 95 [(.a (Tup.cells QG a)),(.a (Tup.cells QG b))] (Ji (m_eq (α:=Qs) a b)):=by
 refine Qp rfl fun hb=>tcg (Γ:=QkW) (n:=29) (sg:=QdW.sg) Qo (TOkL.cons Qql (TOkL.cons QqH (TOkL.cons Qw4 TOkL.nil))) (by kernel_rfl) (by kernel_rfl) (QtI _ a b ?_)
 refine ⟨fun h=>R_eq (Eq.symm (decide_eq_false (by rintro rfl;simp [m_eq] at h))),fun h0=>?_⟩
 refine ⟨fun h=>R_eq (Eq.symm (decide_eq_false (by rintro rfl;simp [m_eq] at h))),fun h1=>?_⟩
 refine ⟨fun h=>R_eq (Eq.symm (decide_eq_false (by rintro rfl;simp [m_eq] at h))),fun h2=>?_⟩
 refine ⟨fun h=>R_eq (Eq.symm (decide_eq_false (by rintro rfl;simp [m_eq] at h))),fun h3=>?_⟩
 refine R_eq (Eq.symm (decide_eq_true ?_))
 simp [m_eq] at h0 h1 h2 h3
 simp [Prod.ext_iff, *]
theorem Qq2:Qm Try.prog QdW:=Qr fun x _=>QyY x.1 x.2.1
end
end Go.Proofs.Ytephkbajoofeoaa.Am

