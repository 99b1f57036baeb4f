/- -/
import Derived.Test.YtephkbajoofeoaaWCH4
import Derived.Test.YtephkbajoofeoaaWCH2
import Derived.Test.YtephkbajoofeoaaWCH1
import Derived.Test.YtephkbajoofeoaaWCGF
namespace Go.Proofs.Ytephkbajoofeoaa.Am
open Go Go.RowKit Go.Proofs.Ytephkbajoofeoaa
set_option linter.all false
noncomputable section
variable (K:TRes→Prop)
def Zt (t:Int):TRes:=zre (zci t)
def Qdu:TRow:=Qm 198 [(.a Qn),(.c TI)] fun x=>(some (p_sz (α:=Qf) x.1 x.2.1),Zt (m_sz (α:=Qf) x.1 x.2.1))
def QkQ:TTab:=⟨[Qf8,Qfc,Qe5,QaM,YS,QfM],false⟩
def Qtf:TCode :=
 (zsq [(.reg [zop 2 (.box 229 0 14),zmv 4 (zki 0)]),(.reg [zfa 5 2 1,zld 6 5 1,zmv 7 1,zca 8 22 [6,7],zmv 1 8]),(zsq [(.reg [zmv 9 1,zbi 10 .lss 9 (zki 0)]),(.cond 10 (zsq [(.reg [zmv 4 (zki (-1))]),.ret]) .skip)]),(.reg [zfa 11 2 2,zld 12 11 1,zmv 13 1,zca 14 82 [12,13],zmv 1 14]),(zsq [(.reg [zmv 15 1,zbi 16 .lss 15 (zki 0)]),(.cond 16 (zsq [(.reg [zmv 4 (zki (-1))]),.ret]) .skip)]),(.reg [zfa 17 2 5,zld 18 17 1,zmv 19 1,zca 20 208 [18,19],zmv 1 20]),(zsq [(.reg [zmv 21 1,zbi 22 .lss 21 (zki 0)]),(.cond 22 (zsq [(.reg [zmv 4 (zki (-1))]),.ret]) .skip)]),(.reg [zfa 23 2 6,zld 24 23 1,zmv 25 1,zca 26 209 [24,25],zmv 1 26]),(zsq [(.reg [zmv 27 1,zbi 28 .lss 27 (zki 0)]),(.cond 28 (zsq [(.reg [zmv 4 (zki (-1))]),.ret]) .skip)]),(.reg [zfa 29 2 7,zld 30 29 1,zmv 31 1,zca 32 124 [30,31],zmv 1 32]),(zsq [(.reg [zmv 33 1,zbi 34 .lss 33 (zki 0)]),(.cond 34 (zsq [(.reg [zmv 4 (zki (-1))]),.ret]) .skip)]),(.reg [zfa 35 2 8,zld 36 35 1,zmv 37 1,zca 38 124 [36,37],zmv 1 38]),(zsq [(.reg [zmv 39 1,zbi 40 .lss 39 (zki 0)]),(.cond 40 (zsq [(.reg [zmv 4 (zki (-1))]),.ret]) .skip)]),(.reg [zfa 41 2 9,zld 42 41 1,zmv 43 1,zca 44 124 [42,43],zmv 1 44]),(zsq [(.reg [zmv 45 1,zbi 46 .lss 45 (zki 0)]),(.cond 46 (zsq [(.reg [zmv 4 (zki (-1))]),.ret]) .skip)]),(.reg [zfa 47 2 10,zld 48 47 1,zmv 49 1,zca 50 124 [48,49],zmv 1 50]),(zsq [(.reg [zmv 51 1,zbi 52 .lss 51 (zki 0)]),(.cond 52 (zsq [(.reg [zmv 4 (zki (-1))]),.ret]) .skip)]),(.reg [zfa 53 2 11,zLd 54 53 3,zmv 55 1,zca 56 210 [54,55],zmv 1 56]),(zsq [(.reg [zmv 57 1,zbi 58 .lss 57 (zki 0)]),(.cond 58 (zsq [(.reg [zmv 4 (zki (-1))]),.ret]) .skip)]),(.reg [zmv 59 1,zmv 4 59]),.ret])
def QtU:List (ARv × Md):=[(.t 4,.one .d)]
theorem QnX (a:Qf) (left:Int) (h :
 let z8:=m_sz (α:=List TIns) a.2.1 left
 let z5:=m_sz (α:=List TOp') a.2.2.1 z8
 let z3:=m_sz (α:=List Qj) a.2.2.2.2.2.1 z5
 let z6:=m_sz (α:=List (List Int)) a.2.2.2.2.2.2.1 z3
 let z1:=m_sz (α:=List Int) a.2.2.2.2.2.2.2.1 z6
 let z7:=m_sz (α:=List Int) a.2.2.2.2.2.2.2.2.1 z1
 let z2:=m_sz (α:=List Int) a.2.2.2.2.2.2.2.2.2.1 z7
 let z4:=m_sz (α:=List Int) a.2.2.2.2.2.2.2.2.2.2.1 z2
 let z9:=m_sz (α:=QI) a.2.2.2.2.2.2.2.2.2.2.2 z4
 ((p_sz (α:=List TIns) a.2.1 left)∧(zif (decide (z8<(0:Int))) (K (Zt (-1:Int))) ((p_sz (α:=List TOp') a.2.2.1 z8)∧(zif (decide (z5<(0:Int))) (K (Zt (-1:Int))) ((p_sz (α:=List Qj) a.2.2.2.2.2.1 z5)∧(zif (decide (z3<(0:Int))) (K (Zt (-1:Int))) ((p_sz (α:=List (List Int)) a.2.2.2.2.2.2.1 z3)∧(zif (decide (z6<(0:Int))) (K (Zt (-1:Int))) ((p_sz (α:=List Int) a.2.2.2.2.2.2.2.1 z6)∧(zif (decide (z1<(0:Int))) (K (Zt (-1:Int))) ((p_sz (α:=List Int) a.2.2.2.2.2.2.2.2.1 z1)∧(zif (decide (z7<(0:Int))) (K (Zt (-1:Int))) ((p_sz (α:=List Int) a.2.2.2.2.2.2.2.2.2.1 z7)∧(zif (decide (z2<(0:Int))) (K (Zt (-1:Int))) ((p_sz (α:=List Int) a.2.2.2.2.2.2.2.2.2.2.1 z2)∧(zif (decide (z4<(0:Int))) (K (Zt (-1:Int))) ((p_sz (α:=QI) a.2.2.2.2.2.2.2.2.2.2.2 z4)∧(zif (decide (z9<(0:Int))) (K (Zt (-1:Int))) (K (Zt z9))))))))))))))))))))):Hold (tawp QkQ (0+0) Qtf (TQ 0 0 QtU K) (Ql [(.a (Tup.cells Qn a)),(.c TI left)])) :=
 Hold.of (by kernel_rfl) h
theorem QrS (a:Qf) (left:Int) (hp:p_sz (α:=Qf) a left):TCon Try.prog 198 [(.a (Tup.cells Qn a)),(.c TI left)] (Zt (m_sz (α:=Qf) a left)):=by
 refine Qq rfl fun hb=>tcg (Γ:=QkQ) (n:=60) (sg:=Qdu.sg) Qp (TOkL.cons QsX (TOkL.cons QnL (TOkL.cons Qpv (TOkL.cons Qey (TOkL.cons QaH (TOkL.cons QnZ TOkL.nil)))))) (by kernel_rfl) (by kernel_rfl) (QnX _ a left ?_)
 refine ⟨hp,fun h=>R_eq (QT (of_decide_eq_true h) (by first | omega | (simp only [Qx,Qy,QC];omega)) hp.1),fun h=>?_⟩
 rw [Zz (Int.not_lt.1 (of_decide_eq_false h))]
 refine ⟨Zs hp,fun h=>R_eq (QT (of_decide_eq_true h) (by first | omega | (simp only [Qx,Qy,QC];omega)) hp.1),fun h=>?_⟩
 rw [Zz (Int.not_lt.1 (of_decide_eq_false h))]
 refine ⟨Zs hp,fun h=>R_eq (QT (of_decide_eq_true h) (by first | omega | (simp only [Qx,Qy,QC];omega)) hp.1),fun h=>?_⟩
 rw [Zz (Int.not_lt.1 (of_decide_eq_false h))]
 refine ⟨Zs hp,fun h=>R_eq (QT (of_decide_eq_true h) (by first | omega | (simp only [Qx,Qy,QC];omega)) hp.1),fun h=>?_⟩
 rw [Zz (Int.not_lt.1 (of_decide_eq_false h))]
 refine ⟨Zs hp,fun h=>R_eq (QT (of_decide_eq_true h) (by first | omega | (simp only [Qx,Qy,QC];omega)) hp.1),fun h=>?_⟩
 rw [Zz (Int.not_lt.1 (of_decide_eq_false h))]
 refine ⟨Zs hp,fun h=>R_eq (QT (of_decide_eq_true h) (by first | omega | (simp only [Qx,Qy,QC];omega)) hp.1),fun h=>?_⟩
 rw [Zz (Int.not_lt.1 (of_decide_eq_false h))]
 refine ⟨Zs hp,fun h=>R_eq (QT (of_decide_eq_true h) (by first | omega | (simp only [Qx,Qy,QC];omega)) hp.1),fun h=>?_⟩
 rw [Zz (Int.not_lt.1 (of_decide_eq_false h))]
 refine ⟨Zs hp,fun h=>R_eq (QT (of_decide_eq_true h) (by first | omega | (simp only [Qx,Qy,QC];omega)) hp.1),fun h=>?_⟩
 rw [Zz (Int.not_lt.1 (of_decide_eq_false h))]
 refine ⟨Zs hp,fun h=>R_eq (QT (of_decide_eq_true h) (by first | omega | (simp only [Qx,Qy,QC];omega)) hp.1),fun h=>?_⟩
 exact R_eq (congrArg (QX · _) (by first | rfl | omega | (simp only [Qx,Qy,QC];omega)))
theorem Qr0:Qo Try.prog Qdu:=Qr fun x h=>QrS x.1 x.2.1 h
def Y9 (t:Int):TRes:=zre (zci t)
def Qfl:TRow:=Qm 166 [(.c (.sl Qn)),(.c TI)] fun x=>(some (p_sz (α:=List Qf) x.1 x.2.1),Y9 (m_sz (α:=List Qf) x.1 x.2.1))
def QbV:TTab:=⟨[Qdu],false⟩
def Qmk:TCode :=
 (zsq [(zsq [(.reg [zmv 12 5,zmv 13 0,zle 14 13,zbi 15 .lss 12 14]),(.cond 15 .skip (.exit 0))]),(.block 1 (zsq [(.reg [zmv 18 0,zmv 19 5,zia 20 18 19 Qn,zLd 21 20 14,zmv 22 1,zca 23 198 [21,22],zmv 1 23]),(.reg [zmv 24 1,zbi 25 .lss 24 (zki 0)]),(.cond 25 (zsq [(.reg [zmv 4 (zki (-1))]),.ret]) .skip)])),(.reg [zmv 16 5,zbi 17 .add 16 (zki 1),zmv 5 17])])
def Ql8:List (Nat × Md):=zdl [0,1,5]
def Qh7:TCode :=
 (zsq [(.reg [zmv 26 1,zmv 4 26]),.ret])
def Qwy:TCode :=
 (zsq [(.reg [zmv 4 (zki 0)]),(.reg [zmv 6 1,zmv 7 0,zle 8 7,zbi 9 .sub 6 8,zmv 1 9]),(zsq [(.reg [zmv 10 1,zbi 11 .lss 10 (zki 0)]),(.cond 11 (zsq [(.reg [zmv 4 (zki (-1))]),.ret]) .skip)]),(zsq [(.reg [zmv 5 (zki 0)]),(.block 0 (.loop Ql8 Qmk))]),Qh7])
def QlI:List (ARv × Md):=[(.t 4,.one .d)]
def Qjx:Qb:=TQ 0 0 QlI K
def Qva:Qb:=Qseq (tawp QbV 0 Qh7 (Qjx K)) (Qjx K)
def Qwj:Qb:=Qblk 0 (Qva K)
def Qef (a:List Qf) (left1:Int) (i:Int):Prop:=Loop QbV 0 Ql8 Qmk (Qwj K) ⟨[(0,(zcs Qn a)),(1,(zci left1)),(5,(zci i))],[],0⟩
theorem QqJ (a:List Qf) (left1:Int) (i:Int) (h :
 (zif (decide (i<(a.length:Int))) ((((0:Int)≤i∧Int.toNat i<a.length)∧(p_sz (α:=Qf) (gtd QN a (Int.toNat i)) left1))∧(zif (decide ((m_sz (α:=Qf) (gtd QN a (Int.toNat i)) left1)<(0:Int))) (K (Y9 (-1:Int))) (Qef K a (m_sz (α:=Qf) (gtd QN a (Int.toNat i)) left1) (w64 (i+(1:Int)))))) (K (Y9 left1)))):Qef K a left1 i :=
 Loop.of (by kernel_rfl) h
theorem Qsf (a:List Qf) (left:Int) (h :
 (zif (decide ((w64 (left-(a.length:Int)))<(0:Int))) (K (Y9 (-1:Int))) (Qef K a (w64 (left-(a.length:Int))) 0))):Hold (tawp QbV (0+0) Qwy (TQ 0 0 QlI K) (Ql [(.c (.sl Qn) a),(.c TI left)])) :=
 Hold.of (by kernel_rfl) h
theorem Qpy (a:List Qf) (left:Int) (hp:p_sz (α:=List Qf) a left):TCon Try.prog 166 [(.c (.sl Qn) a),(.c TI left)] (Y9 (m_sz (α:=List Qf) a left)):=by
 refine Qq rfl fun hb=>tcg (Γ:=QbV) (n:=27) (sg:=Qfl.sg) Qp (TOkL.cons Qr0 TOkL.nil) (by kernel_rfl) (by kernel_rfl) (Qsf _ a left ?_)
 exact Y3 (Q:=fun x=>Y9 x=Y9 (m_sz (α:=List Qf) a left)) QN hp hb.1.1 (fun l i h=>QqJ _ a l i h) rfl
theorem QwD:Qo Try.prog Qfl:=Qr fun x h=>Qpy x.1 x.2.1 h
def QfH (t:Qf):TRes:=⟨(.a [(zci t.1),(.r QB 0 0 ((t.2.1).length)),(.r ctOp 1 0 ((t.2.2.1).length)),(zcb t.2.2.2.1),(zcb t.2.2.2.2.1),(.r Qz 2 0 ((t.2.2.2.2.2.1).length)),(.r [(.sl [TI])] 3 0 ((t.2.2.2.2.2.2.1).length)),(.r [TI] 4 0 ((t.2.2.2.2.2.2.2.1).length)),(.r [TI] 5 0 ((t.2.2.2.2.2.2.2.2.1).length)),(.r [TI] 6 0 ((t.2.2.2.2.2.2.2.2.2.1).length)),(.r [TI] 7 0 ((t.2.2.2.2.2.2.2.2.2.2.1).length)),(.r [(.sl [TI])] 8 0 ((t.2.2.2.2.2.2.2.2.2.2.2.1).length)),(zci t.2.2.2.2.2.2.2.2.2.2.2.2.1),(zcb t.2.2.2.2.2.2.2.2.2.2.2.2.2)]),[(.sl 151 QB (.dp 0 true []) t.2.1),(.sl 76 ctOp (.dp 0 true []) t.2.2.1),(.sl 218 Qz (.dp 0 true []) t.2.2.2.2.2.1),(.sl 91 [(.sl [TI])] (.dp 0 true []) t.2.2.2.2.2.2.1),(.sl 3 [TI] (.dp 0 true []) t.2.2.2.2.2.2.2.1),(.sl 3 [TI] (.dp 0 true []) t.2.2.2.2.2.2.2.2.1),(.sl 3 [TI] (.dp 0 true []) t.2.2.2.2.2.2.2.2.2.1),(.sl 3 [TI] (.dp 0 true []) t.2.2.2.2.2.2.2.2.2.2.1),(.sl 91 [(.sl [TI])] (.dp 0 true []) t.2.2.2.2.2.2.2.2.2.2.2.1)],[],false,[]⟩
def Qds:TRow:=Qm 200 [(.a Qn)] fun x=>(some (p_to (α:=Qf) x.1),QfH (id (α:=Qf) x.1))
def QiE:TTab:=⟨[QfZ,Qew,QeW,Qas,Jv,QfO],true⟩
def QrN:TCode :=
 (zsq [(.reg [zop 1 (.box 229 0 14),zop 2 (.new 121 (z0s Qn))]),(.reg [zop 3 (.new 121 (z0s Qn))]),(.reg [zfa 4 1 0,zld 5 4 1,zfa 6 3 0,zst 6 5 1]),(.reg [zfa 7 1 1,zld 8 7 1,zca 9 24 [8],zfa 10 3 1,zst 10 9 1]),(.reg [zfa 11 1 2,zld 12 11 1,zca 13 84 [12],zfa 14 3 2,zst 14 13 1]),(.reg [zfa 15 1 3,zld 16 15 1,zfa 17 3 3,zst 17 16 1]),(.reg [zfa 18 1 4,zld 19 18 1,zfa 20 3 4,zst 20 19 1]),(.reg [zfa 21 1 5,zld 22 21 1,zca 23 211 [22],zfa 24 3 5,zst 24 23 1]),(.reg [zfa 25 1 6,zld 26 25 1,zca 27 212 [26],zfa 28 3 6,zst 28 27 1]),(.reg [zfa 29 1 7,zld 30 29 1,zca 31 127 [30],zfa 32 3 7,zst 32 31 1]),(.reg [zfa 33 1 8,zld 34 33 1,zca 35 127 [34],zfa 36 3 8,zst 36 35 1]),(.reg [zfa 37 1 9,zld 38 37 1,zca 39 127 [38],zfa 40 3 9,zst 40 39 1]),(.reg [zfa 41 1 10,zld 42 41 1,zca 43 127 [42],zfa 44 3 10,zst 44 43 1]),(.reg [zfa 45 1 11,zLd 46 45 3,zca 47 213 [46],zfa 48 3 11,zst 48 47 3]),(.reg [zLd 49 3 14,zst 2 49 14]),.ret])
def QvW:List (ARv × Md):=[(.l 2 14 true,.b [.d,.p 151,.p 76,.d,.d,.p 218,.p 91,.p 3,.p 3,.p 3,.p 3,.p 91,.d,.d])]
theorem Qvx (a:Qf) (h :
 ((p_to (α:=List TIns) a.2.1)∧((p_to (α:=List TOp') a.2.2.1)∧((p_to (α:=List Qj) a.2.2.2.2.2.1)∧((p_to (α:=List (List Int)) a.2.2.2.2.2.2.1)∧((p_to (α:=List Int) a.2.2.2.2.2.2.2.1)∧((p_to (α:=List Int) a.2.2.2.2.2.2.2.2.1)∧((p_to (α:=List Int) a.2.2.2.2.2.2.2.2.2.1)∧((p_to (α:=List Int) a.2.2.2.2.2.2.2.2.2.2.1)∧((p_to (α:=QI) a.2.2.2.2.2.2.2.2.2.2.2)∧K (QfH (a.1,(List.take ((id (α:=List TIns) a.2.1).length) (id (α:=List TIns) a.2.1)),(List.take ((id (α:=List TOp') a.2.2.1).length) (id (α:=List TOp') a.2.2.1)),a.2.2.2.1,a.2.2.2.2.1,(List.take ((id (α:=List Qj) a.2.2.2.2.2.1).length) (id (α:=List Qj) a.2.2.2.2.2.1)),(List.take ((id (α:=List (List Int)) a.2.2.2.2.2.2.1).length) (id (α:=List (List Int)) a.2.2.2.2.2.2.1)),(List.take ((id (α:=List Int) a.2.2.2.2.2.2.2.1).length) (id (α:=List Int) a.2.2.2.2.2.2.2.1)),(List.take ((id (α:=List Int) a.2.2.2.2.2.2.2.2.1).length) (id (α:=List Int) a.2.2.2.2.2.2.2.2.1)),(List.take ((id (α:=List Int) a.2.2.2.2.2.2.2.2.2.1).length) (id (α:=List Int) a.2.2.2.2.2.2.2.2.2.1)),(List.take ((id (α:=List Int) a.2.2.2.2.2.2.2.2.2.2.1).length) (id (α:=List Int) a.2.2.2.2.2.2.2.2.2.2.1)),(List.take (((id (α:=QI) a.2.2.2.2.2.2.2.2.2.2.2).1).length) ((id (α:=QI) a.2.2.2.2.2.2.2.2.2.2.2).1)),(id (α:=QI) a.2.2.2.2.2.2.2.2.2.2.2).2.1,(id (α:=QI) a.2.2.2.2.2.2.2.2.2.2.2).2.2)))))))))))):Hold (tawp QiE (0+0) QrN (TQ 0 0 QvW K) (Ql [(.a (Tup.cells Qn a))])) :=
 Hold.of (by kernel_rfl) h
theorem QrT (a:Qf) (hp:p_to (α:=Qf) a):TCon Try.prog 200 [(.a (Tup.cells Qn a))] (QfH (id (α:=Qf) a)):=by
 refine Qq rfl fun hb=>tcg (Γ:=QiE) (n:=50) (sg:=Qds.sg) Qp (TOkL.cons Qwf (TOkL.cons Qsx (TOkL.cons Qv5 (TOkL.cons QeK (TOkL.cons Qay (TOkL.cons QwA TOkL.nil)))))) (by kernel_rfl) (by kernel_rfl) (Qvx _ a ?_)
 repeat' (first | refine And.intro ?_ ?_ | exact R_eq (by simp))
 all_goals (simp only [p_to,Qx,Qy,QC,List.drop_zero,List.take_length,id_eq] at hp ⊢;omega)
theorem QnY:Qo Try.prog Qds:=Qr fun x h=>QrT x.1 h
def Yu (t:(List Qf)):TRes:=⟨(.r Qn 0 0 t.length),[(.sl 121 Qn (.dp 0 true []) t)],[],false,[]⟩
def QfB:TRow:=Qm 169 [(.c (.sl Qn))] fun x=>(some (p_to (α:=List Qf) x.1),Yu (id (α:=List Qf) x.1))
def QcM:TTab:=⟨[Qds],true⟩
def QiP:TCode :=
 (zsq [(zsq [(.reg [zmv 8 4,zmv 9 0,zle 10 9,zbi 11 .lss 8 10]),(.cond 11 .skip (.exit 0))]),(.block 1 (.reg [zmv 14 3,zmv 15 4,zmv 16 0,zmv 17 4,zia 18 16 17 Qn,zLd 19 18 14,zca 20 200 [19],zia 21 14 15 Qn,zst 21 20 14])),(.reg [zmv 12 4,zbi 13 .add 12 (zki 1),zmv 4 13])])
def Qh6:List (Nat × Md):=[(0,.one .d),(3,.one .f),(4,.one .d)]
def QiC:TCode :=
 (zsq [(.reg [zmv 22 3,zmv 2 22]),.ret])
def Qq9:TCode :=
 (zsq [(.reg [zmv 2 (.k (.n Qn))]),(.reg [zmv 5 0,zle 6 5,zop 7 (.mk 121 Qn (z0s Qn) 6),zmv 3 7]),(zsq [(.reg [zmv 4 (zki 0)]),(.block 0 (.loop Qh6 QiP))]),QiC])
def QgR:List (ARv × Md):=[(.t 2,.one (.p 121))]
def Qix:Qb:=TQ 0 0 QgR K
def QoT:Qb:=Qseq (tawp QcM 0 QiC (Qix K)) (Qix K)
def Qqi:Qb:=Qblk 0 (QoT K)
def Qcy (a:List Qf) (i:Int) (out:List Qf):Prop:=Loop QcM 0 Qh6 QiP (Qqi K) ⟨[(0,(zcs Qn a)),(3,(.r Qn 0 0 out.length)),(4,(zci i))],[(0,(.sl 121 Qn (.dp 0 true []) out))],1⟩
theorem QgP (a:List Qf) (i:Int) (out:List Qf) (h :
 let z1:=id (α:=Qf) (gtd QN a (Int.toNat i))
 (zif (decide (i<(a.length:Int))) ((((0:Int)≤i∧Int.toNat i<a.length)∧((p_to (α:=Qf) (gtd QN a (Int.toNat i)))∧(((0:Int)≤i∧Int.toNat i<out.length)∧((0+(Int.toNat i))<out.length))))∧(Qcy K a (w64 (i+(1:Int))) (List.take out.length ((out).set (0+(Int.toNat i)) (z1.1,(List.take ((z1.2.1).length) (List.drop 0 (z1.2.1))),(List.take ((z1.2.2.1).length) (List.drop 0 (z1.2.2.1))),z1.2.2.2.1,z1.2.2.2.2.1,(List.take ((z1.2.2.2.2.2.1).length) (List.drop 0 (z1.2.2.2.2.2.1))),(List.take ((z1.2.2.2.2.2.2.1).length) (List.drop 0 (z1.2.2.2.2.2.2.1))),(List.take ((z1.2.2.2.2.2.2.2.1).length) (List.drop 0 (z1.2.2.2.2.2.2.2.1))),(List.take ((z1.2.2.2.2.2.2.2.2.1).length) (List.drop 0 (z1.2.2.2.2.2.2.2.2.1))),(List.take ((z1.2.2.2.2.2.2.2.2.2.1).length) (List.drop 0 (z1.2.2.2.2.2.2.2.2.2.1))),(List.take ((z1.2.2.2.2.2.2.2.2.2.2.1).length) (List.drop 0 (z1.2.2.2.2.2.2.2.2.2.2.1))),(List.take ((z1.2.2.2.2.2.2.2.2.2.2.2.1).length) (List.drop 0 (z1.2.2.2.2.2.2.2.2.2.2.2.1))),z1.2.2.2.2.2.2.2.2.2.2.2.2.1,z1.2.2.2.2.2.2.2.2.2.2.2.2.2))))) (K (Yu (List.take out.length out))))):Qcy K a i out :=
 Loop.of (by kernel_rfl) h
theorem QnT (a:List Qf) (h :
 (((0:Int)≤(a.length:Int)∧(a.length:Int)≤big)∧(Qcy K a 0 (List.take (Int.toNat (a.length:Int)) (List.replicate (Int.toNat (a.length:Int)) ((0:Int),[],[],false,false,[],[],[],[],[],[],[],(0:Int),false)))))):Hold (tawp QcM (0+0) Qq9 (TQ 0 0 QgR K) (Ql [(.c (.sl Qn) a)])) :=
 Hold.of (by kernel_rfl) h
theorem Quj (a:List Qf) (hp:p_to (α:=List Qf) a):TCon Try.prog 169 [(.c (.sl Qn) a)] (Yu (id (α:=List Qf) a)):=by
 refine Qq rfl fun hb=>tcg (Γ:=QcM) (n:=23) (sg:=QfB.sg) Qp (TOkL.cons QnY TOkL.nil) (by kernel_rfl) (by kernel_rfl) (QnT _ a ?_)
 refine ⟨⟨by omega,by rw [bigI];have:=Q3 hp;omega⟩,?_⟩
 refine Yh a (A:=fun ii ll=>Qcy (fun r'=>r'=Yu (id (α:=List Qf) a)) a ii ll) (Q:=fun z=>Yu z=Yu (id (α:=List Qf) a)) hp ?_ ?_ rfl
 ·intro k x out hlt hg ho hx hA
  have hw:w64 (((k:Nat):Int)+1)=((k+1:Nat):Int):=by have:=Q3 hp;rw [QO (by omega) (by omega)];omega
  have hlo:k<out.length:=by omega
  refine QgP (fun r'=>r'=Yu (id (α:=List Qf) a)) a ((k:Nat):Int) out ?_
  conv=>zeta
  refine ⟨fun _=>?_,fun h=>absurd h (by simp;omega)⟩
  simp only [Int.toNat_natCast,Nat.zero_add,hg,hw,hlt,hlo,Z2,List.drop_zero,List.take_length,id_eq,and_true,true_and,Int.natCast_nonneg]
  first | exact hA | exact ⟨hx,hA⟩
 ·intro out ho hq
  refine QgP (fun r'=>r'=Yu (id (α:=List Qf) a)) a ((a.length:Nat):Int) out ?_
  conv=>zeta
  refine ⟨fun h=>absurd h (by simp),fun _=>?_⟩
  simp only [List.drop_zero,List.take_length]
  exact hq
theorem Qnw:Qo Try.prog QfB:=Qr fun x h=>Quj x.1 h
def Za (t:Bool):TRes:=zre (zcb t)
def Qf2:TRow:=Qm 86 [(.a Qn),(.a Qn)] fun x=>(none,Za (m_eq (α:=Qf) x.1 x.2.1))
def Qm4:TTab:=⟨[Qeg,Qde,Qdt,QaB,YM,QeN],false⟩
def QrF:TCode :=
 (zsq [(.reg [zop 2 (.box 121 0 14),zop 3 (.box 121 1 14),zmv 4 (zkb false)]),(zsq [(.reg [zfa 5 2 0,zld 6 5 1,zfa 7 3 0,zld 8 7 1,zbi 9 .neq 6 8]),(.cond 9 (zsq [(.reg [zmv 4 (zkb false)]),.ret]) .skip)]),(zsq [(.reg [zfa 10 2 1,zld 11 10 1,zfa 12 3 1,zld 13 12 1,zca 14 19 [11,13],zno 15 14]),(.cond 15 (zsq [(.reg [zmv 4 (zkb false)]),.ret]) .skip)]),(zsq [(.reg [zfa 16 2 2,zld 17 16 1,zfa 18 3 2,zld 19 18 1,zca 20 87 [17,19],zno 21 20]),(.cond 21 (zsq [(.reg [zmv 4 (zkb false)]),.ret]) .skip)]),(zsq [(.reg [zfa 22 2 3,zld 23 22 1,zfa 24 3 3,zld 25 24 1,zop 26 (.eqb true 23 25)]),(.cond 26 (zsq [(.reg [zmv 4 (zkb false)]),.ret]) .skip)]),(zsq [(.reg [zfa 27 2 4,zld 28 27 1,zfa 29 3 4,zld 30 29 1,zop 31 (.eqb true 28 30)]),(.cond 31 (zsq [(.reg [zmv 4 (zkb false)]),.ret]) .skip)]),(zsq [(.reg [zfa 32 2 5,zld 33 32 1,zfa 34 3 5,zld 35 34 1,zca 36 157 [33,35],zno 37 36]),(.cond 37 (zsq [(.reg [zmv 4 (zkb false)]),.ret]) .skip)]),(zsq [(.reg [zfa 38 2 6,zld 39 38 1,zfa 40 3 6,zld 41 40 1,zca 42 158 [39,41],zno 43 42]),(.cond 43 (zsq [(.reg [zmv 4 (zkb false)]),.ret]) .skip)]),(zsq [(.reg [zfa 44 2 7,zld 45 44 1,zfa 46 3 7,zld 47 46 1,zca 48 66 [45,47],zno 49 48]),(.cond 49 (zsq [(.reg [zmv 4 (zkb false)]),.ret]) .skip)]),(zsq [(.reg [zfa 50 2 8,zld 51 50 1,zfa 52 3 8,zld 53 52 1,zca 54 66 [51,53],zno 55 54]),(.cond 55 (zsq [(.reg [zmv 4 (zkb false)]),.ret]) .skip)]),(zsq [(.reg [zfa 56 2 9,zld 57 56 1,zfa 58 3 9,zld 59 58 1,zca 60 66 [57,59],zno 61 60]),(.cond 61 (zsq [(.reg [zmv 4 (zkb false)]),.ret]) .skip)]),(zsq [(.reg [zfa 62 2 10,zld 63 62 1,zfa 64 3 10,zld 65 64 1,zca 66 66 [63,65],zno 67 66]),(.cond 67 (zsq [(.reg [zmv 4 (zkb false)]),.ret]) .skip)]),(zsq [(.reg [zfa 68 2 11,zLd 69 68 3,zfa 70 3 11,zLd 71 70 3,zca 72 99 [69,71],zno 73 72]),(.cond 73 (zsq [(.reg [zmv 4 (zkb false)]),.ret]) .skip)]),(.reg [zmv 4 (zkb true)]),.ret])
def Qsz:List (ARv × Md):=[(.t 4,.one .d)]
theorem QpS (a:Qf) (b:Qf) (h :
 (zif (a.1 != b.1) (K (Za false)) (zif (!(m_eq (α:=List TIns) a.2.1 b.2.1)) (K (Za false)) (zif (!(m_eq (α:=List TOp') a.2.2.1 b.2.2.1)) (K (Za false)) (zif (!(a.2.2.2.1==b.2.2.2.1)) (K (Za false)) (zif (!(a.2.2.2.2.1==b.2.2.2.2.1)) (K (Za false)) (zif (!(m_eq (α:=List Qj) a.2.2.2.2.2.1 b.2.2.2.2.2.1)) (K (Za false)) (zif (!(m_eq (α:=List (List Int)) a.2.2.2.2.2.2.1 b.2.2.2.2.2.2.1)) (K (Za false)) (zif (!(m_eq (α:=List Int) a.2.2.2.2.2.2.2.1 b.2.2.2.2.2.2.2.1)) (K (Za false)) (zif (!(m_eq (α:=List Int) a.2.2.2.2.2.2.2.2.1 b.2.2.2.2.2.2.2.2.1)) (K (Za false)) (zif (!(m_eq (α:=List Int) a.2.2.2.2.2.2.2.2.2.1 b.2.2.2.2.2.2.2.2.2.1)) (K (Za false)) (zif (!(m_eq (α:=List Int) a.2.2.2.2.2.2.2.2.2.2.1 b.2.2.2.2.2.2.2.2.2.2.1)) (K (Za false)) (zif (!(m_eq (α:=QI) a.2.2.2.2.2.2.2.2.2.2.2 b.2.2.2.2.2.2.2.2.2.2.2)) (K (Za false)) (K (Za true))))))))))))))):Hold (tawp Qm4 (0+0) QrF (TQ 0 0 Qsz K) (Ql [(.a (Tup.cells Qn a)),(.a (Tup.cells Qn b))])) :=
 Hold.of (by kernel_rfl) h
theorem QvN (a:Qf) (b:Qf):TCon Try.prog 86 [(.a (Tup.cells Qn a)),(.a (Tup.cells Qn b))] (Za (m_eq (α:=Qf) a b)):=by
 refine Qq rfl fun hb=>tcg (Γ:=Qm4) (n:=74) (sg:=Qf2.sg) Qp (TOkL.cons Qn7 (TOkL.cons Qne (TOkL.cons Qvv (TOkL.cons QeL (TOkL.cons JQ (TOkL.cons Qnx TOkL.nil)))))) (by kernel_rfl) (by kernel_rfl) (QpS _ a b ?_)
 refine ⟨fun h=>R_eq (Eq.symm (decide_eq_false (by rintro rfl;simp [m_eq] at h))),fun h0=>?_⟩
 refine ⟨fun h=>R_eq (Eq.symm (decide_eq_false (by rintro rfl;simp [m_eq] at h))),fun h1=>?_⟩
 refine ⟨fun h=>R_eq (Eq.symm (decide_eq_false (by rintro rfl;simp [m_eq] at h))),fun h2=>?_⟩
 refine ⟨fun h=>R_eq (Eq.symm (decide_eq_false (by rintro rfl;simp [m_eq] at h))),fun h3=>?_⟩
 refine ⟨fun h=>R_eq (Eq.symm (decide_eq_false (by rintro rfl;simp [m_eq] at h))),fun h4=>?_⟩
 refine ⟨fun h=>R_eq (Eq.symm (decide_eq_false (by rintro rfl;simp [m_eq] at h))),fun h5=>?_⟩
 refine ⟨fun h=>R_eq (Eq.symm (decide_eq_false (by rintro rfl;simp [m_eq] at h))),fun h6=>?_⟩
 refine ⟨fun h=>R_eq (Eq.symm (decide_eq_false (by rintro rfl;simp [m_eq] at h))),fun h7=>?_⟩
 refine ⟨fun h=>R_eq (Eq.symm (decide_eq_false (by rintro rfl;simp [m_eq] at h))),fun h8=>?_⟩
 refine ⟨fun h=>R_eq (Eq.symm (decide_eq_false (by rintro rfl;simp [m_eq] at h))),fun h9=>?_⟩
 refine ⟨fun h=>R_eq (Eq.symm (decide_eq_false (by rintro rfl;simp [m_eq] at h))),fun h10=>?_⟩
 refine ⟨fun h=>R_eq (Eq.symm (decide_eq_false (by rintro rfl;simp [m_eq] at h))),fun h11=>?_⟩
 refine R_eq (Eq.symm (decide_eq_true ?_))
 simp [m_eq] at h0 h1 h2 h3 h4 h5 h6 h7 h8 h9 h10 h11
 simp [Prod.ext_iff, *]
theorem Qvm:Qo Try.prog Qf2:=Qr fun x _=>QvN x.1 x.2.1
def YT (t:Bool):TRes:=zre (zcb t)
def QfR:TRow:=Qm 172 [(.c (.sl Qn)),(.c (.sl Qn))] fun x=>(none,YT (m_eq (α:=List Qf) x.1 x.2.1))
def Qci:TTab:=⟨[Qf2],false⟩
def QkL:TCode :=
 (zsq [(zsq [(.reg [zmv 11 5,zmv 12 0,zle 13 12,zbi 14 .lss 11 13]),(.cond 14 .skip (.exit 0))]),(.block 1 (zsq [(.draw [zmv 17 0,zmv 18 5,zia 19 17 18 Qn,zLd 20 19 14,zmv 21 1,zmv 22 5,zia 23 21 22 Qn,zLd 24 23 14,zca 25 86 [20,24],zno 26 25] []),(.cond 26 (zsq [(.reg [zmv 4 (zkb false)]),.ret]) .skip)])),(.reg [zmv 15 5,zbi 16 .add 15 (zki 1),zmv 5 16])])
def Qha:List (Nat × Md):=zdl [0,1,5]
def Ql0:TCode :=
 (zsq [(.reg [zmv 4 (zkb true)]),.ret])
def Qu3:TCode :=
 (zsq [(.reg [zmv 4 (zkb false)]),(zsq [(.reg [zmv 6 0,zle 7 6,zmv 8 1,zle 9 8,zbi 10 .neq 7 9]),(.cond 10 (zsq [(.reg [zmv 4 (zkb false)]),.ret]) .skip)]),(zsq [(.reg [zmv 5 (zki 0)]),(.block 0 (.loop Qha QkL))]),Ql0])
def QkI:List (ARv × Md):=[(.t 4,.one .d)]
def Qkm:Qb:=TQ 0 0 QkI K
def Qqs:Qb:=Qseq (tawp Qci 0 Ql0 (Qkm K)) (Qkm K)
def Qno:Qb:=Qblk 0 (Qqs K)
def Qga (a:List Qf) (b:List Qf) (i:Int):Prop:=Loop Qci 0 Qha QkL (Qno K) ⟨[(0,(zcs Qn a)),(1,(zcs Qn b)),(5,(zci i))],[],0⟩
theorem Qsv (a:List Qf) (b:List Qf) (i:Int) (h :
 (zif (decide (i<(a.length:Int))) ((((0:Int)≤i∧Int.toNat i<a.length)∧((0:Int)≤i∧Int.toNat i<b.length))∧(zif (!(m_eq (α:=Qf) (gtd QN a (Int.toNat i)) (gtd QN b (Int.toNat i)))) (K (YT false)) (Qga K a b (w64 (i+(1:Int)))))) (K (YT true)))):Qga K a b i :=
 Loop.of (by kernel_rfl) h
theorem QnA (a:List Qf) (b:List Qf) (h :
 (zif ((a.length:Int) != (b.length:Int)) (K (YT false)) (Qga K a b 0))):Hold (tawp Qci (0+0) Qu3 (TQ 0 0 QkI K) (Ql [(.c (.sl Qn) a),(.c (.sl Qn) b)])) :=
 Hold.of (by kernel_rfl) h
theorem Qoa (a:List Qf) (b:List Qf):TCon Try.prog 172 [(.c (.sl Qn) a),(.c (.sl Qn) b)] (YT (m_eq (α:=List Qf) a b)):=by
 refine Qq rfl fun hb=>tcg (Γ:=Qci) (n:=27) (sg:=QfR.sg) Qp (TOkL.cons Qvm TOkL.nil) (by kernel_rfl) (by kernel_rfl) (QnA _ a b ?_)
 exact Yf QN (E:=m_eq) (fun _ _=>rfl) hb.1.1 (fun i h=>Qsv _ a b i h) (Q:=fun x=>YT x=YT (m_eq (α:=List Qf) a b)) rfl
theorem Qsy:Qo Try.prog QfR:=Qr fun x _=>Qoa x.1 x.2.1
end
end Go.Proofs.Ytephkbajoofeoaa.Am

