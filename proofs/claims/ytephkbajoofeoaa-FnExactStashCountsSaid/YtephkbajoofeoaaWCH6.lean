/- -/
import Derived.Test.YtephkbajoofeoaaWCH1
import Derived.Test.YtephkbajoofeoaaWCH5
import Derived.Test.YtephkbajoofeoaaWCH3
import Derived.Test.YtephkbajoofeoaaWCGF
namespace Go.Proofs.Ytephkbajoofeoaa.Am
open Go Go.RowKit Go.Proofs.Ytephkbajoofeoaa
set_option linter.all false
noncomputable section
variable (K:TRes→Prop)
def Jb (t:Int):TRes:=zre (zci t)
def Qes:TRow:=Qm 91 [(.a QM),(.c TI)] fun x=>(some (p_sz (α:=Qt) x.1 x.2.1),Jb (m_sz (α:=Qt) x.1 x.2.1))
def QkG:TTab:=⟨[QdZ,Qfl,Qft],false⟩
def Qq8:TCode :=
 (zsq [(.reg [zop 2 (.box 133 0 4),zmv 4 (zki 0)]),(.reg [zfa 5 2 0,zld 6 5 1,zmv 7 1,zca 8 165 [6,7],zmv 1 8]),(zsq [(.reg [zmv 9 1,zbi 10 .lss 9 (zki 0)]),(.cond 10 (zsq [(.reg [zmv 4 (zki (-1))]),.ret]) .skip)]),(.reg [zfa 11 2 1,zld 12 11 1,zmv 13 1,zca 14 166 [12,13],zmv 1 14]),(zsq [(.reg [zmv 15 1,zbi 16 .lss 15 (zki 0)]),(.cond 16 (zsq [(.reg [zmv 4 (zki (-1))]),.ret]) .skip)]),(.reg [zfa 17 2 2,zld 18 17 1,zmv 19 1,zca 20 167 [18,19],zmv 1 20]),(zsq [(.reg [zmv 21 1,zbi 22 .lss 21 (zki 0)]),(.cond 22 (zsq [(.reg [zmv 4 (zki (-1))]),.ret]) .skip)]),(.reg [zfa 23 2 3,zld 24 23 1,zmv 25 1,zca 26 167 [24,25],zmv 1 26]),(zsq [(.reg [zmv 27 1,zbi 28 .lss 27 (zki 0)]),(.cond 28 (zsq [(.reg [zmv 4 (zki (-1))]),.ret]) .skip)]),(.reg [zmv 29 1,zmv 4 29]),.ret])
def Qn2:List (ARv × Md):=[(.t 4,.one .d)]
theorem QuK (a:Qt) (left:Int) (h :
 let z3:=m_sz (α:=List Qd) a.1 left
 let z1:=m_sz (α:=List Qf) a.2.1 z3
 let z2:=m_sz (α:=List Qh) a.2.2.1 z1
 ((p_sz (α:=List Qd) a.1 left)∧(zif (decide (z3<(0:Int))) (K (Jb (-1:Int))) ((p_sz (α:=List Qf) a.2.1 z3)∧(zif (decide (z1<(0:Int))) (K (Jb (-1:Int))) ((p_sz (α:=List Qh) a.2.2.1 z1)∧(zif (decide (z2<(0:Int))) (K (Jb (-1:Int))) ((p_sz (α:=List Qh) a.2.2.2 z2)∧(zif (decide ((m_sz (α:=List Qh) a.2.2.2 z2)<(0:Int))) (K (Jb (-1:Int))) (K (Jb (m_sz (α:=List Qh) a.2.2.2 z2)))))))))))):Hold (tawp QkG (0+0) Qq8 (TQ 0 0 Qn2 K) (Ql [(.a (Tup.cells QM a)),(.c TI left)])) :=
 Hold.of (by kernel_rfl) h
theorem QtC (a:Qt) (left:Int) (hp:p_sz (α:=Qt) a left):TCon Try.prog 91 [(.a (Tup.cells QM a)),(.c TI left)] (Jb (m_sz (α:=Qt) a left)):=by
 refine Qq rfl fun hb=>tcg (Γ:=QkG) (n:=30) (sg:=Qes.sg) Qp (TOkL.cons QnQ (TOkL.cons QwD (TOkL.cons QoI TOkL.nil))) (by kernel_rfl) (by kernel_rfl) (QuK _ a left ?_)
 refine ⟨hp,fun h=>R_eq (QT (of_decide_eq_true h) (by first | omega | (simp only [Qx,Qy,QC];omega)) hp.1),fun h=>?_⟩
 rw [Zz (Int.not_lt.1 (of_decide_eq_false h))]
 refine ⟨Zs hp,fun h=>R_eq (QT (of_decide_eq_true h) (by first | omega | (simp only [Qx,Qy,QC];omega)) hp.1),fun h=>?_⟩
 rw [Zz (Int.not_lt.1 (of_decide_eq_false h))]
 refine ⟨Zs hp,fun h=>R_eq (QT (of_decide_eq_true h) (by first | omega | (simp only [Qx,Qy,QC];omega)) hp.1),fun h=>?_⟩
 rw [Zz (Int.not_lt.1 (of_decide_eq_false h))]
 refine ⟨Zs hp,fun h=>R_eq (QT (of_decide_eq_true h) (by first | omega | (simp only [Qx,Qy,QC];omega)) hp.1),fun h=>?_⟩
 exact R_eq (congrArg (QX · _) (by first | rfl | omega | (simp only [Qx,Qy,QC];omega)))
theorem QtA:Qo Try.prog Qes:=Qr fun x h=>QtC x.1 x.2.1 h
def Qe3 (t:Qt):TRes:=⟨(.a [(.r Qw 0 0 ((t.1).length)),(.r Qn 1 0 ((t.2.1).length)),(.r Qu 2 0 ((t.2.2.1).length)),(.r Qu 3 0 ((t.2.2.2).length))]),[(.sl 230 Qw (.dp 0 true []) t.1),(.sl 121 Qn (.dp 0 true []) t.2.1),(.sl 36 Qu (.dp 0 true []) t.2.2.1),(.sl 36 Qu (.dp 0 true []) t.2.2.2)],[],false,[]⟩
def Qdx:TRow:=Qm 93 [(.a QM)] fun x=>(some (p_to (α:=Qt) x.1),Qe3 (id (α:=Qt) x.1))
def Qhy:TTab:=⟨[Qe6,QfB,Qe7],true⟩
def Qrv:TCode :=
 (zsq [(.reg [zop 1 (.box 133 0 4),zop 2 (.new 139 (z0s QM))]),(.reg [zop 3 (.new 139 (z0s QM))]),(.reg [zfa 4 1 0,zld 5 4 1,zca 6 168 [5],zfa 7 3 0,zst 7 6 1]),(.reg [zfa 8 1 1,zld 9 8 1,zca 10 169 [9],zfa 11 3 1,zst 11 10 1]),(.reg [zfa 12 1 2,zld 13 12 1,zca 14 170 [13],zfa 15 3 2,zst 15 14 1]),(.reg [zfa 16 1 3,zld 17 16 1,zca 18 170 [17],zfa 19 3 3,zst 19 18 1]),(.reg [zLd 20 3 4,zst 2 20 4]),.ret])
def QtV:List (ARv × Md):=[(.l 2 4 true,.b [.p 230,.p 121,.p 36,.p 36])]
theorem QoB (a:Qt) (h :
 ((p_to (α:=List Qd) a.1)∧((p_to (α:=List Qf) a.2.1)∧((p_to (α:=List Qh) a.2.2.1)∧((p_to (α:=List Qh) a.2.2.2)∧K (Qe3 ((List.take ((id (α:=List Qd) a.1).length) (id (α:=List Qd) a.1)),(List.take ((id (α:=List Qf) a.2.1).length) (id (α:=List Qf) a.2.1)),(List.take ((id (α:=List Qh) a.2.2.1).length) (id (α:=List Qh) a.2.2.1)),(List.take ((id (α:=List Qh) a.2.2.2).length) (id (α:=List Qh) a.2.2.2))))))))):Hold (tawp Qhy (0+0) Qrv (TQ 0 0 QtV K) (Ql [(.a (Tup.cells QM a))])) :=
 Hold.of (by kernel_rfl) h
theorem Qsi (a:Qt) (hp:p_to (α:=Qt) a):TCon Try.prog 93 [(.a (Tup.cells QM a))] (Qe3 (id (α:=Qt) a)):=by
 refine Qq rfl fun hb=>tcg (Γ:=Qhy) (n:=21) (sg:=Qdx.sg) Qp (TOkL.cons QsS (TOkL.cons Qnw (TOkL.cons Qqy TOkL.nil))) (by kernel_rfl) (by kernel_rfl) (QoB _ a ?_)
 repeat' (first | refine And.intro ?_ ?_ | exact R_eq (by simp))
 all_goals (simp only [p_to,Qx,Qy,QC,List.drop_zero,List.take_length,id_eq] at hp ⊢;omega)
theorem Qst:Qo Try.prog Qdx:=Qr fun x h=>Qsi x.1 h
def Jo (t:Bool):TRes:=zre (zcb t)
def QeZ:TRow:=Qm 95 [(.a QM),(.a QM)] fun x=>(none,Jo (m_eq (α:=Qt) x.1 x.2.1))
def Qh0:TTab:=⟨[QeB,QfR,Qd5],false⟩
def Qto:TCode :=
 (zsq [(.reg [zop 2 (.box 139 0 4),zop 3 (.box 139 1 4),zmv 4 (zkb false)]),(zsq [(.reg [zfa 5 2 0,zld 6 5 1,zfa 7 3 0,zld 8 7 1,zca 9 171 [6,8],zno 10 9]),(.cond 10 (zsq [(.reg [zmv 4 (zkb false)]),.ret]) .skip)]),(zsq [(.reg [zfa 11 2 1,zld 12 11 1,zfa 13 3 1,zld 14 13 1,zca 15 172 [12,14],zno 16 15]),(.cond 16 (zsq [(.reg [zmv 4 (zkb false)]),.ret]) .skip)]),(zsq [(.reg [zfa 17 2 2,zld 18 17 1,zfa 19 3 2,zld 20 19 1,zca 21 173 [18,20],zno 22 21]),(.cond 22 (zsq [(.reg [zmv 4 (zkb false)]),.ret]) .skip)]),(zsq [(.reg [zfa 23 2 3,zld 24 23 1,zfa 25 3 3,zld 26 25 1,zca 27 173 [24,26],zno 28 27]),(.cond 28 (zsq [(.reg [zmv 4 (zkb false)]),.ret]) .skip)]),(.reg [zmv 4 (zkb true)]),.ret])
def Qp1:List (ARv × Md):=[(.t 4,.one .d)]
theorem QvG (a:Qt) (b:Qt) (h :
 (zif (!(m_eq (α:=List Qd) a.1 b.1)) (K (Jo false)) (zif (!(m_eq (α:=List Qf) a.2.1 b.2.1)) (K (Jo false)) (zif (!(m_eq (α:=List Qh) a.2.2.1 b.2.2.1)) (K (Jo false)) (zif (!(m_eq (α:=List Qh) a.2.2.2 b.2.2.2)) (K (Jo false)) (K (Jo true))))))):Hold (tawp Qh0 (0+0) Qto (TQ 0 0 Qp1 K) (Ql [(.a (Tup.cells QM a)),(.a (Tup.cells QM b))])) :=
 Hold.of (by kernel_rfl) h
theorem QuM (a:Qt) (b:Qt):TCon Try.prog 95 [(.a (Tup.cells QM a)),(.a (Tup.cells QM b))] (Jo (m_eq (α:=Qt) a b)):=by
 refine Qq rfl fun hb=>tcg (Γ:=Qh0) (n:=29) (sg:=QeZ.sg) Qp (TOkL.cons QsC (TOkL.cons Qsy (TOkL.cons QqE TOkL.nil))) (by kernel_rfl) (by kernel_rfl) (QvG _ a b ?_)
 refine ⟨fun h=>R_eq (Eq.symm (decide_eq_false (by rintro rfl;simp [m_eq] at h))),fun h0=>?_⟩
 refine ⟨fun h=>R_eq (Eq.symm (decide_eq_false (by rintro rfl;simp [m_eq] at h))),fun h1=>?_⟩
 refine ⟨fun h=>R_eq (Eq.symm (decide_eq_false (by rintro rfl;simp [m_eq] at h))),fun h2=>?_⟩
 refine ⟨fun h=>R_eq (Eq.symm (decide_eq_false (by rintro rfl;simp [m_eq] at h))),fun h3=>?_⟩
 refine R_eq (Eq.symm (decide_eq_true ?_))
 simp [m_eq] at h0 h1 h2 h3
 simp [Prod.ext_iff, *]
theorem Qny:Qo Try.prog QeZ:=Qr fun x _=>QuM x.1 x.2.1
end
end Go.Proofs.Ytephkbajoofeoaa.Am

