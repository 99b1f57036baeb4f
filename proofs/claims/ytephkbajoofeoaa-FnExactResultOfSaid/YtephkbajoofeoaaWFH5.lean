/- -/
import Derived.Test.YtephkbajoofeoaaWFH4
import Derived.Test.YtephkbajoofeoaaWFH2
import Derived.Test.YtephkbajoofeoaaWFH1
import Derived.Test.YtephkbajoofeoaaWFGF
namespace Go.Proofs.Ytephkbajoofeoaa.Am
open Go Go.RowKit Go.Proofs.Ytephkbajoofeoaa
set_option linter.all false
noncomputable section
variable (K:TRes→Prop)
def Zz (t:Int):TRes:=zre (zci t)
def QfR:TRow:=Ql 198 [(.a Qq),(.c TI)] fun x=>(some (p_sz (α:=Qd) x.1 x.2.1),Zz (m_sz (α:=Qd) x.1 x.2.1))
def Qmp:TTab:=⟨[Qf4,QdQ,QdZ,Qbu,Je,Qej],false⟩
def Qpz:TCode :=
 (zsq [(.reg [zop 2 (.box 229 0 14),zmv 4 (zki 0)]),(.reg [zfa 5 2 1,zld 6 5 1,zmv 7 1,zca 8 22 [6,7],zmv 1 8]),(zsq [(.reg [zmv 9 1,zbi 10 .lss 9 (zki 0)]),(.cond 10 (zsq [(.reg [zmv 4 (zki (-1))]),.ret]) .skip)]),(.reg [zfa 11 2 2,zld 12 11 1,zmv 13 1,zca 14 82 [12,13],zmv 1 14]),(zsq [(.reg [zmv 15 1,zbi 16 .lss 15 (zki 0)]),(.cond 16 (zsq [(.reg [zmv 4 (zki (-1))]),.ret]) .skip)]),(.reg [zfa 17 2 5,zld 18 17 1,zmv 19 1,zca 20 208 [18,19],zmv 1 20]),(zsq [(.reg [zmv 21 1,zbi 22 .lss 21 (zki 0)]),(.cond 22 (zsq [(.reg [zmv 4 (zki (-1))]),.ret]) .skip)]),(.reg [zfa 23 2 6,zld 24 23 1,zmv 25 1,zca 26 209 [24,25],zmv 1 26]),(zsq [(.reg [zmv 27 1,zbi 28 .lss 27 (zki 0)]),(.cond 28 (zsq [(.reg [zmv 4 (zki (-1))]),.ret]) .skip)]),(.reg [zfa 29 2 7,zld 30 29 1,zmv 31 1,zca 32 124 [30,31],zmv 1 32]),(zsq [(.reg [zmv 33 1,zbi 34 .lss 33 (zki 0)]),(.cond 34 (zsq [(.reg [zmv 4 (zki (-1))]),.ret]) .skip)]),(.reg [zfa 35 2 8,zld 36 35 1,zmv 37 1,zca 38 124 [36,37],zmv 1 38]),(zsq [(.reg [zmv 39 1,zbi 40 .lss 39 (zki 0)]),(.cond 40 (zsq [(.reg [zmv 4 (zki (-1))]),.ret]) .skip)]),(.reg [zfa 41 2 9,zld 42 41 1,zmv 43 1,zca 44 124 [42,43],zmv 1 44]),(zsq [(.reg [zmv 45 1,zbi 46 .lss 45 (zki 0)]),(.cond 46 (zsq [(.reg [zmv 4 (zki (-1))]),.ret]) .skip)]),(.reg [zfa 47 2 10,zld 48 47 1,zmv 49 1,zca 50 124 [48,49],zmv 1 50]),(zsq [(.reg [zmv 51 1,zbi 52 .lss 51 (zki 0)]),(.cond 52 (zsq [(.reg [zmv 4 (zki (-1))]),.ret]) .skip)]),(.reg [zfa 53 2 11,zLd 54 53 3,zmv 55 1,zca 56 210 [54,55],zmv 1 56]),(zsq [(.reg [zmv 57 1,zbi 58 .lss 57 (zki 0)]),(.cond 58 (zsq [(.reg [zmv 4 (zki (-1))]),.ret]) .skip)]),(.reg [zmv 59 1,zmv 4 59]),.ret])
def QuA:List (ARv × Md):=[(.t 4,.one .d)]
theorem QoZ (a:Qd) (left:Int) (h :
 let z8:=m_sz (α:=List TIns) a.2.1 left
 let z5:=m_sz (α:=List TOp') a.2.2.1 z8
 let z3:=m_sz (α:=List Qj) a.2.2.2.2.2.1 z5
 let z6:=m_sz (α:=List (List Int)) a.2.2.2.2.2.2.1 z3
 let z1:=m_sz (α:=List Int) a.2.2.2.2.2.2.2.1 z6
 let z7:=m_sz (α:=List Int) a.2.2.2.2.2.2.2.2.1 z1
 let z2:=m_sz (α:=List Int) a.2.2.2.2.2.2.2.2.2.1 z7
 let z4:=m_sz (α:=List Int) a.2.2.2.2.2.2.2.2.2.2.1 z2
 let z9:=m_sz (α:=Qx) a.2.2.2.2.2.2.2.2.2.2.2 z4
 ((p_sz (α:=List TIns) a.2.1 left)∧(zif (decide (z8<(0:Int))) (K (Zz (-1:Int))) ((p_sz (α:=List TOp') a.2.2.1 z8)∧(zif (decide (z5<(0:Int))) (K (Zz (-1:Int))) ((p_sz (α:=List Qj) a.2.2.2.2.2.1 z5)∧(zif (decide (z3<(0:Int))) (K (Zz (-1:Int))) ((p_sz (α:=List (List Int)) a.2.2.2.2.2.2.1 z3)∧(zif (decide (z6<(0:Int))) (K (Zz (-1:Int))) ((p_sz (α:=List Int) a.2.2.2.2.2.2.2.1 z6)∧(zif (decide (z1<(0:Int))) (K (Zz (-1:Int))) ((p_sz (α:=List Int) a.2.2.2.2.2.2.2.2.1 z1)∧(zif (decide (z7<(0:Int))) (K (Zz (-1:Int))) ((p_sz (α:=List Int) a.2.2.2.2.2.2.2.2.2.1 z7)∧(zif (decide (z2<(0:Int))) (K (Zz (-1:Int))) ((p_sz (α:=List Int) a.2.2.2.2.2.2.2.2.2.2.1 z2)∧(zif (decide (z4<(0:Int))) (K (Zz (-1:Int))) ((p_sz (α:=Qx) a.2.2.2.2.2.2.2.2.2.2.2 z4)∧(zif (decide (z9<(0:Int))) (K (Zz (-1:Int))) (K (Zz z9))))))))))))))))))))):Hold (tawp Qmp (0+0) Qpz (TQ 0 0 QuA K) (Qk [(.a (Tup.cells Qq a)),(.c TI left)])) :=
 Hold.of (by kernel_rfl) h
theorem QoO (a:Qd) (left:Int) (hp:p_sz (α:=Qd) a left):TCon Try.prog 198 [(.a (Tup.cells Qq a)),(.c TI left)] (Zz (m_sz (α:=Qd) a left)):=by
 refine Qp rfl fun hb=>tcg (Γ:=Qmp) (n:=60) (sg:=QfR.sg) Qo (TOkL.cons QpF (TOkL.cons Qud (TOkL.cons Qpi (TOkL.cons QgF (TOkL.cons QaE (TOkL.cons Qsm TOkL.nil)))))) (by kernel_rfl) (by kernel_rfl) (QoZ _ a left ?_)
 refine ⟨hp,fun h=>R_eq (QU (of_decide_eq_true h) (by first | omega | (simp only [Qw,Qy,QD];omega)) hp.1),fun h=>?_⟩
 rw [ZE (Int.not_lt.1 (of_decide_eq_false h))]
 refine ⟨ZF hp,fun h=>R_eq (QU (of_decide_eq_true h) (by first | omega | (simp only [Qw,Qy,QD];omega)) hp.1),fun h=>?_⟩
 rw [ZE (Int.not_lt.1 (of_decide_eq_false h))]
 refine ⟨ZF hp,fun h=>R_eq (QU (of_decide_eq_true h) (by first | omega | (simp only [Qw,Qy,QD];omega)) hp.1),fun h=>?_⟩
 rw [ZE (Int.not_lt.1 (of_decide_eq_false h))]
 refine ⟨ZF hp,fun h=>R_eq (QU (of_decide_eq_true h) (by first | omega | (simp only [Qw,Qy,QD];omega)) hp.1),fun h=>?_⟩
 rw [ZE (Int.not_lt.1 (of_decide_eq_false h))]
 refine ⟨ZF hp,fun h=>R_eq (QU (of_decide_eq_true h) (by first | omega | (simp only [Qw,Qy,QD];omega)) hp.1),fun h=>?_⟩
 rw [ZE (Int.not_lt.1 (of_decide_eq_false h))]
 refine ⟨ZF hp,fun h=>R_eq (QU (of_decide_eq_true h) (by first | omega | (simp only [Qw,Qy,QD];omega)) hp.1),fun h=>?_⟩
 rw [ZE (Int.not_lt.1 (of_decide_eq_false h))]
 refine ⟨ZF hp,fun h=>R_eq (QU (of_decide_eq_true h) (by first | omega | (simp only [Qw,Qy,QD];omega)) hp.1),fun h=>?_⟩
 rw [ZE (Int.not_lt.1 (of_decide_eq_false h))]
 refine ⟨ZF hp,fun h=>R_eq (QU (of_decide_eq_true h) (by first | omega | (simp only [Qw,Qy,QD];omega)) hp.1),fun h=>?_⟩
 rw [ZE (Int.not_lt.1 (of_decide_eq_false h))]
 refine ⟨ZF hp,fun h=>R_eq (QU (of_decide_eq_true h) (by first | omega | (simp only [Qw,Qy,QD];omega)) hp.1),fun h=>?_⟩
 exact R_eq (congrArg (QZ · _) (by first | rfl | omega | (simp only [Qw,Qy,QD];omega)))
theorem Qy6:Qm Try.prog QfR:=Qr fun x h=>QoO x.1 x.2.1 h
def JT (t:Int):TRes:=zre (zci t)
def QeB:TRow:=Ql 166 [(.c (.sl Qq)),(.c TI)] fun x=>(some (p_sz (α:=List Qd) x.1 x.2.1),JT (m_sz (α:=List Qd) x.1 x.2.1))
def QdG:TTab:=⟨[QfR],false⟩
def QnB:TCode :=
 (zsq [(zsq [(.reg [zmv 12 5,zmv 13 0,zle 14 13,zbi 15 .lss 12 14]),(.cond 15 .skip (.exit 0))]),(.block 1 (zsq [(.reg [zmv 18 0,zmv 19 5,zia 20 18 19 Qq,zLd 21 20 14,zmv 22 1,zca 23 198 [21,22],zmv 1 23]),(.reg [zmv 24 1,zbi 25 .lss 24 (zki 0)]),(.cond 25 (zsq [(.reg [zmv 4 (zki (-1))]),.ret]) .skip)])),(.reg [zmv 16 5,zbi 17 .add 16 (zki 1),zmv 5 17])])
def Qid:List (Nat × Md):=zdl [0,1,5]
def Qh9:TCode :=
 (zsq [(.reg [zmv 26 1,zmv 4 26]),.ret])
def QtS:TCode :=
 (zsq [(.reg [zmv 4 (zki 0)]),(.reg [zmv 6 1,zmv 7 0,zle 8 7,zbi 9 .sub 6 8,zmv 1 9]),(zsq [(.reg [zmv 10 1,zbi 11 .lss 10 (zki 0)]),(.cond 11 (zsq [(.reg [zmv 4 (zki (-1))]),.ret]) .skip)]),(zsq [(.reg [zmv 5 (zki 0)]),(.block 0 (.loop Qid QnB))]),Qh9])
def QmB:List (ARv × Md):=[(.t 4,.one .d)]
def QnP:Qb:=TQ 0 0 QmB K
def Qtz:Qb:=Qseq (tawp QdG 0 Qh9 (QnP K)) (QnP K)
def QqM:Qb:=Qblk 0 (Qtz K)
def Qee (a:List Qd) (left1:Int) (i:Int):Prop:=Loop QdG 0 Qid QnB (QqM K) ⟨[(0,(zcs Qq a)),(1,(zci left1)),(5,(zci i))],[],0⟩
theorem Qwx (a:List Qd) (left1:Int) (i:Int) (h :
 (zif (decide (i<(a.length:Int))) ((((0:Int)≤i∧Int.toNat i<a.length)∧(p_sz (α:=Qd) (gtd QB a (Int.toNat i)) left1))∧(zif (decide ((m_sz (α:=Qd) (gtd QB a (Int.toNat i)) left1)<(0:Int))) (K (JT (-1:Int))) (Qee K a (m_sz (α:=Qd) (gtd QB a (Int.toNat i)) left1) (w64 (i+(1:Int)))))) (K (JT left1)))):Qee K a left1 i :=
 Loop.of (by kernel_rfl) h
theorem Qrl (a:List Qd) (left:Int) (h :
 (zif (decide ((w64 (left-(a.length:Int)))<(0:Int))) (K (JT (-1:Int))) (Qee K a (w64 (left-(a.length:Int))) 0))):Hold (tawp QdG (0+0) QtS (TQ 0 0 QmB K) (Qk [(.c (.sl Qq) a),(.c TI left)])) :=
 Hold.of (by kernel_rfl) h
theorem QvH (a:List Qd) (left:Int) (hp:p_sz (α:=List Qd) a left):TCon Try.prog 166 [(.c (.sl Qq) a),(.c TI left)] (JT (m_sz (α:=List Qd) a left)):=by
 refine Qp rfl fun hb=>tcg (Γ:=QdG) (n:=27) (sg:=QeB.sg) Qo (TOkL.cons Qy6 TOkL.nil) (by kernel_rfl) (by kernel_rfl) (Qrl _ a left ?_)
 exact J3 (Q:=fun x=>JT x=JT (m_sz (α:=List Qd) a left)) QB hp hb.1.1 (fun l i h=>Qwx _ a l i h) rfl
theorem Qy0:Qm Try.prog QeB:=Qr fun x h=>QvH x.1 x.2.1 h
def Qf6 (t:Qd):TRes:=⟨(.a [(zci t.1),(.r QE 0 0 ((t.2.1).length)),(.r ctOp 1 0 ((t.2.2.1).length)),(zcb t.2.2.2.1),(zcb t.2.2.2.2.1),(.r QA 2 0 ((t.2.2.2.2.2.1).length)),(.r [(.sl [TI])] 3 0 ((t.2.2.2.2.2.2.1).length)),(.r [TI] 4 0 ((t.2.2.2.2.2.2.2.1).length)),(.r [TI] 5 0 ((t.2.2.2.2.2.2.2.2.1).length)),(.r [TI] 6 0 ((t.2.2.2.2.2.2.2.2.2.1).length)),(.r [TI] 7 0 ((t.2.2.2.2.2.2.2.2.2.2.1).length)),(.r [(.sl [TI])] 8 0 ((t.2.2.2.2.2.2.2.2.2.2.2.1).length)),(zci t.2.2.2.2.2.2.2.2.2.2.2.2.1),(zcb t.2.2.2.2.2.2.2.2.2.2.2.2.2)]),[(.sl 151 QE (.dp 0 true []) t.2.1),(.sl 76 ctOp (.dp 0 true []) t.2.2.1),(.sl 218 QA (.dp 0 true []) t.2.2.2.2.2.1),(.sl 91 [(.sl [TI])] (.dp 0 true []) t.2.2.2.2.2.2.1),(.sl 3 [TI] (.dp 0 true []) t.2.2.2.2.2.2.2.1),(.sl 3 [TI] (.dp 0 true []) t.2.2.2.2.2.2.2.2.1),(.sl 3 [TI] (.dp 0 true []) t.2.2.2.2.2.2.2.2.2.1),(.sl 3 [TI] (.dp 0 true []) t.2.2.2.2.2.2.2.2.2.2.1),(.sl 91 [(.sl [TI])] (.dp 0 true []) t.2.2.2.2.2.2.2.2.2.2.2.1)],[],false,[]⟩
def QfW:TRow:=Ql 200 [(.a Qq)] fun x=>(some (p_to (α:=Qd) x.1),Qf6 (id (α:=Qd) x.1))
def QkY:TTab:=⟨[Qfk,Qgm,Qfs,QaV,Jf,Qf8],true⟩
def Qq8:TCode :=
 (zsq [(.reg [zop 1 (.box 229 0 14),zop 2 (.new 121 (z0s Qq))]),(.reg [zop 3 (.new 121 (z0s Qq))]),(.reg [zfa 4 1 0,zld 5 4 1,zfa 6 3 0,zst 6 5 1]),(.reg [zfa 7 1 1,zld 8 7 1,zca 9 24 [8],zfa 10 3 1,zst 10 9 1]),(.reg [zfa 11 1 2,zld 12 11 1,zca 13 84 [12],zfa 14 3 2,zst 14 13 1]),(.reg [zfa 15 1 3,zld 16 15 1,zfa 17 3 3,zst 17 16 1]),(.reg [zfa 18 1 4,zld 19 18 1,zfa 20 3 4,zst 20 19 1]),(.reg [zfa 21 1 5,zld 22 21 1,zca 23 211 [22],zfa 24 3 5,zst 24 23 1]),(.reg [zfa 25 1 6,zld 26 25 1,zca 27 212 [26],zfa 28 3 6,zst 28 27 1]),(.reg [zfa 29 1 7,zld 30 29 1,zca 31 127 [30],zfa 32 3 7,zst 32 31 1]),(.reg [zfa 33 1 8,zld 34 33 1,zca 35 127 [34],zfa 36 3 8,zst 36 35 1]),(.reg [zfa 37 1 9,zld 38 37 1,zca 39 127 [38],zfa 40 3 9,zst 40 39 1]),(.reg [zfa 41 1 10,zld 42 41 1,zca 43 127 [42],zfa 44 3 10,zst 44 43 1]),(.reg [zfa 45 1 11,zLd 46 45 3,zca 47 213 [46],zfa 48 3 11,zst 48 47 3]),(.reg [zLd 49 3 14,zst 2 49 14]),.ret])
def QxM:List (ARv × Md):=[(.l 2 14 true,.b [.d,.p 151,.p 76,.d,.d,.p 218,.p 91,.p 3,.p 3,.p 3,.p 3,.p 91,.d,.d])]
theorem Qtv (a:Qd) (h :
 ((p_to (α:=List TIns) a.2.1)∧((p_to (α:=List TOp') a.2.2.1)∧((p_to (α:=List Qj) a.2.2.2.2.2.1)∧((p_to (α:=List (List Int)) a.2.2.2.2.2.2.1)∧((p_to (α:=List Int) a.2.2.2.2.2.2.2.1)∧((p_to (α:=List Int) a.2.2.2.2.2.2.2.2.1)∧((p_to (α:=List Int) a.2.2.2.2.2.2.2.2.2.1)∧((p_to (α:=List Int) a.2.2.2.2.2.2.2.2.2.2.1)∧((p_to (α:=Qx) a.2.2.2.2.2.2.2.2.2.2.2)∧K (Qf6 (a.1,(List.take ((id (α:=List TIns) a.2.1).length) (id (α:=List TIns) a.2.1)),(List.take ((id (α:=List TOp') a.2.2.1).length) (id (α:=List TOp') a.2.2.1)),a.2.2.2.1,a.2.2.2.2.1,(List.take ((id (α:=List Qj) a.2.2.2.2.2.1).length) (id (α:=List Qj) a.2.2.2.2.2.1)),(List.take ((id (α:=List (List Int)) a.2.2.2.2.2.2.1).length) (id (α:=List (List Int)) a.2.2.2.2.2.2.1)),(List.take ((id (α:=List Int) a.2.2.2.2.2.2.2.1).length) (id (α:=List Int) a.2.2.2.2.2.2.2.1)),(List.take ((id (α:=List Int) a.2.2.2.2.2.2.2.2.1).length) (id (α:=List Int) a.2.2.2.2.2.2.2.2.1)),(List.take ((id (α:=List Int) a.2.2.2.2.2.2.2.2.2.1).length) (id (α:=List Int) a.2.2.2.2.2.2.2.2.2.1)),(List.take ((id (α:=List Int) a.2.2.2.2.2.2.2.2.2.2.1).length) (id (α:=List Int) a.2.2.2.2.2.2.2.2.2.2.1)),(List.take (((id (α:=Qx) a.2.2.2.2.2.2.2.2.2.2.2).1).length) ((id (α:=Qx) a.2.2.2.2.2.2.2.2.2.2.2).1)),(id (α:=Qx) a.2.2.2.2.2.2.2.2.2.2.2).2.1,(id (α:=Qx) a.2.2.2.2.2.2.2.2.2.2.2).2.2)))))))))))):Hold (tawp QkY (0+0) Qq8 (TQ 0 0 QxM K) (Qk [(.a (Tup.cells Qq a))])) :=
 Hold.of (by kernel_rfl) h
theorem QrE (a:Qd) (hp:p_to (α:=Qd) a):TCon Try.prog 200 [(.a (Tup.cells Qq a))] (Qf6 (id (α:=Qd) a)):=by
 refine Qp rfl fun hb=>tcg (Γ:=QkY) (n:=50) (sg:=QfW.sg) Qo (TOkL.cons Qy4 (TOkL.cons Qux (TOkL.cons Que (TOkL.cons QeN (TOkL.cons QaS (TOkL.cons Qsb TOkL.nil)))))) (by kernel_rfl) (by kernel_rfl) (Qtv _ a ?_)
 repeat' (first | refine And.intro ?_ ?_ | exact R_eq (by simp))
 all_goals (simp only [p_to,Qw,Qy,QD,List.drop_zero,List.take_length,id_eq] at hp ⊢;omega)
theorem Qus:Qm Try.prog QfW:=Qr fun x h=>QrE x.1 h
def YP (t:(List Qd)):TRes:=⟨(.r Qq 0 0 t.length),[(.sl 121 Qq (.dp 0 true []) t)],[],false,[]⟩
def Qe0:TRow:=Ql 169 [(.c (.sl Qq))] fun x=>(some (p_to (α:=List Qd) x.1),YP (id (α:=List Qd) x.1))
def QbX:TTab:=⟨[QfW],true⟩
def QjE:TCode :=
 (zsq [(zsq [(.reg [zmv 8 4,zmv 9 0,zle 10 9,zbi 11 .lss 8 10]),(.cond 11 .skip (.exit 0))]),(.block 1 (.reg [zmv 14 3,zmv 15 4,zmv 16 0,zmv 17 4,zia 18 16 17 Qq,zLd 19 18 14,zca 20 200 [19],zia 21 14 15 Qq,zst 21 20 14])),(.reg [zmv 12 4,zbi 13 .add 12 (zki 1),zmv 4 13])])
def Qlv:List (Nat × Md):=[(0,.one .d),(3,.one .f),(4,.one .d)]
def QiT:TCode :=
 (zsq [(.reg [zmv 22 3,zmv 2 22]),.ret])
def QwY:TCode :=
 (zsq [(.reg [zmv 2 (.k (.n Qq))]),(.reg [zmv 5 0,zle 6 5,zop 7 (.mk 121 Qq (z0s Qq) 6),zmv 3 7]),(zsq [(.reg [zmv 4 (zki 0)]),(.block 0 (.loop Qlv QjE))]),QiT])
def Qjf:List (ARv × Md):=[(.t 2,.one (.p 121))]
def QjK:Qb:=TQ 0 0 Qjf K
def QsA:Qb:=Qseq (tawp QbX 0 QiT (QjK K)) (QjK K)
def Qss:Qb:=Qblk 0 (QsA K)
def QcL (a:List Qd) (i:Int) (out:List Qd):Prop:=Loop QbX 0 Qlv QjE (Qss K) ⟨[(0,(zcs Qq a)),(3,(.r Qq 0 0 out.length)),(4,(zci i))],[(0,(.sl 121 Qq (.dp 0 true []) out))],1⟩
theorem Qk8 (a:List Qd) (i:Int) (out:List Qd) (h :
 let z1:=id (α:=Qd) (gtd QB a (Int.toNat i))
 (zif (decide (i<(a.length:Int))) ((((0:Int)≤i∧Int.toNat i<a.length)∧((p_to (α:=Qd) (gtd QB a (Int.toNat i)))∧(((0:Int)≤i∧Int.toNat i<out.length)∧((0+(Int.toNat i))<out.length))))∧(QcL K a (w64 (i+(1:Int))) (List.take out.length ((out).set (0+(Int.toNat i)) (z1.1,(List.take ((z1.2.1).length) (List.drop 0 (z1.2.1))),(List.take ((z1.2.2.1).length) (List.drop 0 (z1.2.2.1))),z1.2.2.2.1,z1.2.2.2.2.1,(List.take ((z1.2.2.2.2.2.1).length) (List.drop 0 (z1.2.2.2.2.2.1))),(List.take ((z1.2.2.2.2.2.2.1).length) (List.drop 0 (z1.2.2.2.2.2.2.1))),(List.take ((z1.2.2.2.2.2.2.2.1).length) (List.drop 0 (z1.2.2.2.2.2.2.2.1))),(List.take ((z1.2.2.2.2.2.2.2.2.1).length) (List.drop 0 (z1.2.2.2.2.2.2.2.2.1))),(List.take ((z1.2.2.2.2.2.2.2.2.2.1).length) (List.drop 0 (z1.2.2.2.2.2.2.2.2.2.1))),(List.take ((z1.2.2.2.2.2.2.2.2.2.2.1).length) (List.drop 0 (z1.2.2.2.2.2.2.2.2.2.2.1))),(List.take ((z1.2.2.2.2.2.2.2.2.2.2.2.1).length) (List.drop 0 (z1.2.2.2.2.2.2.2.2.2.2.2.1))),z1.2.2.2.2.2.2.2.2.2.2.2.2.1,z1.2.2.2.2.2.2.2.2.2.2.2.2.2))))) (K (YP (List.take out.length out))))):QcL K a i out :=
 Loop.of (by kernel_rfl) h
theorem QvM (a:List Qd) (h :
 (((0:Int)≤(a.length:Int)∧(a.length:Int)≤big)∧(QcL K a 0 (List.take (Int.toNat (a.length:Int)) (List.replicate (Int.toNat (a.length:Int)) ((0:Int),[],[],false,false,[],[],[],[],[],[],[],(0:Int),false)))))):Hold (tawp QbX (0+0) QwY (TQ 0 0 Qjf K) (Qk [(.c (.sl Qq) a)])) :=
 Hold.of (by kernel_rfl) h
theorem Qzv (a:List Qd) (hp:p_to (α:=List Qd) a):TCon Try.prog 169 [(.c (.sl Qq) a)] (YP (id (α:=List Qd) a)):=by
 refine Qp rfl fun hb=>tcg (Γ:=QbX) (n:=23) (sg:=Qe0.sg) Qo (TOkL.cons Qus TOkL.nil) (by kernel_rfl) (by kernel_rfl) (QvM _ a ?_)
 refine ⟨⟨by omega,by rw [bigI];have:=Q7 hp;omega⟩,?_⟩
 refine YA a (A:=fun ii ll=>QcL (fun r'=>r'=YP (id (α:=List Qd) a)) a ii ll) (Q:=fun z=>YP z=YP (id (α:=List Qd) a)) hp ?_ ?_ rfl
 ·intro k x out hlt hg ho hx hA
  have hw:w64 (((k:Nat):Int)+1)=((k+1:Nat):Int):=by have:=Q7 hp;rw [QN (by omega) (by omega)];omega
  have hlo:k<out.length:=by omega
  refine Qk8 (fun r'=>r'=YP (id (α:=List Qd) a)) a ((k:Nat):Int) out ?_
  conv=>zeta
  refine ⟨fun _=>?_,fun h=>absurd h (by simp;omega)⟩
  simp only [Int.toNat_natCast,Nat.zero_add,hg,hw,hlt,hlo,Yi,List.drop_zero,List.take_length,id_eq,and_true,true_and,Int.natCast_nonneg]
  first | exact hA | exact ⟨hx,hA⟩
 ·intro out ho hq
  refine Qk8 (fun r'=>r'=YP (id (α:=List Qd) a)) a ((a.length:Nat):Int) out ?_
  conv=>zeta
  refine ⟨fun h=>absurd h (by simp),fun _=>?_⟩
  simp only [List.drop_zero,List.take_length]
  exact hq
theorem Qx3:Qm Try.prog Qe0:=Qr fun x h=>Qzv x.1 h
def Zg (t:Bool):TRes:=zre (zcb t)
def QgI:TRow:=Ql 86 [(.a Qq),(.a Qq)] fun x=>(none,Zg (m_eq (α:=Qd) x.1 x.2.1))
def Qip:TTab:=⟨[QfZ,QgD,Qfu,Qbo,JN,Qcf],false⟩
def Qu1:TCode :=
 (zsq [(.reg [zop 2 (.box 121 0 14),zop 3 (.box 121 1 14),zmv 4 (zkb false)]),(zsq [(.reg [zfa 5 2 0,zld 6 5 1,zfa 7 3 0,zld 8 7 1,zbi 9 .neq 6 8]),(.cond 9 (zsq [(.reg [zmv 4 (zkb false)]),.ret]) .skip)]),(zsq [(.reg [zfa 10 2 1,zld 11 10 1,zfa 12 3 1,zld 13 12 1,zca 14 19 [11,13],zno 15 14]),(.cond 15 (zsq [(.reg [zmv 4 (zkb false)]),.ret]) .skip)]),(zsq [(.reg [zfa 16 2 2,zld 17 16 1,zfa 18 3 2,zld 19 18 1,zca 20 87 [17,19],zno 21 20]),(.cond 21 (zsq [(.reg [zmv 4 (zkb false)]),.ret]) .skip)]),(zsq [(.reg [zfa 22 2 3,zld 23 22 1,zfa 24 3 3,zld 25 24 1,zop 26 (.eqb true 23 25)]),(.cond 26 (zsq [(.reg [zmv 4 (zkb false)]),.ret]) .skip)]),(zsq [(.reg [zfa 27 2 4,zld 28 27 1,zfa 29 3 4,zld 30 29 1,zop 31 (.eqb true 28 30)]),(.cond 31 (zsq [(.reg [zmv 4 (zkb false)]),.ret]) .skip)]),(zsq [(.reg [zfa 32 2 5,zld 33 32 1,zfa 34 3 5,zld 35 34 1,zca 36 157 [33,35],zno 37 36]),(.cond 37 (zsq [(.reg [zmv 4 (zkb false)]),.ret]) .skip)]),(zsq [(.reg [zfa 38 2 6,zld 39 38 1,zfa 40 3 6,zld 41 40 1,zca 42 158 [39,41],zno 43 42]),(.cond 43 (zsq [(.reg [zmv 4 (zkb false)]),.ret]) .skip)]),(zsq [(.reg [zfa 44 2 7,zld 45 44 1,zfa 46 3 7,zld 47 46 1,zca 48 66 [45,47],zno 49 48]),(.cond 49 (zsq [(.reg [zmv 4 (zkb false)]),.ret]) .skip)]),(zsq [(.reg [zfa 50 2 8,zld 51 50 1,zfa 52 3 8,zld 53 52 1,zca 54 66 [51,53],zno 55 54]),(.cond 55 (zsq [(.reg [zmv 4 (zkb false)]),.ret]) .skip)]),(zsq [(.reg [zfa 56 2 9,zld 57 56 1,zfa 58 3 9,zld 59 58 1,zca 60 66 [57,59],zno 61 60]),(.cond 61 (zsq [(.reg [zmv 4 (zkb false)]),.ret]) .skip)]),(zsq [(.reg [zfa 62 2 10,zld 63 62 1,zfa 64 3 10,zld 65 64 1,zca 66 66 [63,65],zno 67 66]),(.cond 67 (zsq [(.reg [zmv 4 (zkb false)]),.ret]) .skip)]),(zsq [(.reg [zfa 68 2 11,zLd 69 68 3,zfa 70 3 11,zLd 71 70 3,zca 72 99 [69,71],zno 73 72]),(.cond 73 (zsq [(.reg [zmv 4 (zkb false)]),.ret]) .skip)]),(.reg [zmv 4 (zkb true)]),.ret])
def Qta:List (ARv × Md):=[(.t 4,.one .d)]
theorem QuQ (a:Qd) (b:Qd) (h :
 (zif (a.1 != b.1) (K (Zg false)) (zif (!(m_eq (α:=List TIns) a.2.1 b.2.1)) (K (Zg false)) (zif (!(m_eq (α:=List TOp') a.2.2.1 b.2.2.1)) (K (Zg false)) (zif (!(a.2.2.2.1==b.2.2.2.1)) (K (Zg false)) (zif (!(a.2.2.2.2.1==b.2.2.2.2.1)) (K (Zg false)) (zif (!(m_eq (α:=List Qj) a.2.2.2.2.2.1 b.2.2.2.2.2.1)) (K (Zg false)) (zif (!(m_eq (α:=List (List Int)) a.2.2.2.2.2.2.1 b.2.2.2.2.2.2.1)) (K (Zg false)) (zif (!(m_eq (α:=List Int) a.2.2.2.2.2.2.2.1 b.2.2.2.2.2.2.2.1)) (K (Zg false)) (zif (!(m_eq (α:=List Int) a.2.2.2.2.2.2.2.2.1 b.2.2.2.2.2.2.2.2.1)) (K (Zg false)) (zif (!(m_eq (α:=List Int) a.2.2.2.2.2.2.2.2.2.1 b.2.2.2.2.2.2.2.2.2.1)) (K (Zg false)) (zif (!(m_eq (α:=List Int) a.2.2.2.2.2.2.2.2.2.2.1 b.2.2.2.2.2.2.2.2.2.2.1)) (K (Zg false)) (zif (!(m_eq (α:=Qx) a.2.2.2.2.2.2.2.2.2.2.2 b.2.2.2.2.2.2.2.2.2.2.2)) (K (Zg false)) (K (Zg true))))))))))))))):Hold (tawp Qip (0+0) Qu1 (TQ 0 0 Qta K) (Qk [(.a (Tup.cells Qq a)),(.a (Tup.cells Qq b))])) :=
 Hold.of (by kernel_rfl) h
theorem QpR (a:Qd) (b:Qd):TCon Try.prog 86 [(.a (Tup.cells Qq a)),(.a (Tup.cells Qq b))] (Zg (m_eq (α:=Qd) a b)):=by
 refine Qp rfl fun hb=>tcg (Γ:=Qip) (n:=74) (sg:=QgI.sg) Qo (TOkL.cons Qv0 (TOkL.cons Qzk (TOkL.cons Qv3 (TOkL.cons QeY (TOkL.cons Qbq (TOkL.cons QlO TOkL.nil)))))) (by kernel_rfl) (by kernel_rfl) (QuQ _ a b ?_)
 refine ⟨fun h=>R_eq (Eq.symm (decide_eq_false (by rintro rfl;simp [m_eq] at h))),fun h0=>?_⟩
 refine ⟨fun h=>R_eq (Eq.symm (decide_eq_false (by rintro rfl;simp [m_eq] at h))),fun h1=>?_⟩
 refine ⟨fun h=>R_eq (Eq.symm (decide_eq_false (by rintro rfl;simp [m_eq] at h))),fun h2=>?_⟩
 refine ⟨fun h=>R_eq (Eq.symm (decide_eq_false (by rintro rfl;simp [m_eq] at h))),fun h3=>?_⟩
 refine ⟨fun h=>R_eq (Eq.symm (decide_eq_false (by rintro rfl;simp [m_eq] at h))),fun h4=>?_⟩
 refine ⟨fun h=>R_eq (Eq.symm (decide_eq_false (by rintro rfl;simp [m_eq] at h))),fun h5=>?_⟩
 refine ⟨fun h=>R_eq (Eq.symm (decide_eq_false (by rintro rfl;simp [m_eq] at h))),fun h6=>?_⟩
 refine ⟨fun h=>R_eq (Eq.symm (decide_eq_false (by rintro rfl;simp [m_eq] at h))),fun h7=>?_⟩
 refine ⟨fun h=>R_eq (Eq.symm (decide_eq_false (by rintro rfl;simp [m_eq] at h))),fun h8=>?_⟩
 refine ⟨fun h=>R_eq (Eq.symm (decide_eq_false (by rintro rfl;simp [m_eq] at h))),fun h9=>?_⟩
 refine ⟨fun h=>R_eq (Eq.symm (decide_eq_false (by rintro rfl;simp [m_eq] at h))),fun h10=>?_⟩
 refine ⟨fun h=>R_eq (Eq.symm (decide_eq_false (by rintro rfl;simp [m_eq] at h))),fun h11=>?_⟩
 refine R_eq (Eq.symm (decide_eq_true ?_))
 simp [m_eq] at h0 h1 h2 h3 h4 h5 h6 h7 h8 h9 h10 h11
 simp [Prod.ext_iff, *]
theorem Qy3:Qm Try.prog QgI:=Qr fun x _=>QpR x.1 x.2.1
def Jy (t:Bool):TRes:=zre (zcb t)
def Qgu:TRow:=Ql 172 [(.c (.sl Qq)),(.c (.sl Qq))] fun x=>(none,Jy (m_eq (α:=List Qd) x.1 x.2.1))
def Qc9:TTab:=⟨[QgI],false⟩
def Qlc:TCode :=
 (zsq [(zsq [(.reg [zmv 11 5,zmv 12 0,zle 13 12,zbi 14 .lss 11 13]),(.cond 14 .skip (.exit 0))]),(.block 1 (zsq [(.draw [zmv 17 0,zmv 18 5,zia 19 17 18 Qq,zLd 20 19 14,zmv 21 1,zmv 22 5,zia 23 21 22 Qq,zLd 24 23 14,zca 25 86 [20,24],zno 26 25] []),(.cond 26 (zsq [(.reg [zmv 4 (zkb false)]),.ret]) .skip)])),(.reg [zmv 15 5,zbi 16 .add 15 (zki 1),zmv 5 16])])
def QlR:List (Nat × Md):=zdl [0,1,5]
def Qot:TCode :=
 (zsq [(.reg [zmv 4 (zkb true)]),.ret])
def Qwf:TCode :=
 (zsq [(.reg [zmv 4 (zkb false)]),(zsq [(.reg [zmv 6 0,zle 7 6,zmv 8 1,zle 9 8,zbi 10 .neq 7 9]),(.cond 10 (zsq [(.reg [zmv 4 (zkb false)]),.ret]) .skip)]),(zsq [(.reg [zmv 5 (zki 0)]),(.block 0 (.loop QlR Qlc))]),Qot])
def QhC:List (ARv × Md):=[(.t 4,.one .d)]
def QiA:Qb:=TQ 0 0 QhC K
def Qut:Qb:=Qseq (tawp Qc9 0 Qot (QiA K)) (QiA K)
def Qw1:Qb:=Qblk 0 (Qut K)
def Qec (a:List Qd) (b:List Qd) (i:Int):Prop:=Loop Qc9 0 QlR Qlc (Qw1 K) ⟨[(0,(zcs Qq a)),(1,(zcs Qq b)),(5,(zci i))],[],0⟩
theorem QrW (a:List Qd) (b:List Qd) (i:Int) (h :
 (zif (decide (i<(a.length:Int))) ((((0:Int)≤i∧Int.toNat i<a.length)∧((0:Int)≤i∧Int.toNat i<b.length))∧(zif (!(m_eq (α:=Qd) (gtd QB a (Int.toNat i)) (gtd QB b (Int.toNat i)))) (K (Jy false)) (Qec K a b (w64 (i+(1:Int)))))) (K (Jy true)))):Qec K a b i :=
 Loop.of (by kernel_rfl) h
theorem Qqk (a:List Qd) (b:List Qd) (h :
 (zif ((a.length:Int) != (b.length:Int)) (K (Jy false)) (Qec K a b 0))):Hold (tawp Qc9 (0+0) Qwf (TQ 0 0 QhC K) (Qk [(.c (.sl Qq) a),(.c (.sl Qq) b)])) :=
 Hold.of (by kernel_rfl) h
theorem Qyu (a:List Qd) (b:List Qd):TCon Try.prog 172 [(.c (.sl Qq) a),(.c (.sl Qq) b)] (Jy (m_eq (α:=List Qd) a b)):=by
 refine Qp rfl fun hb=>tcg (Γ:=Qc9) (n:=27) (sg:=Qgu.sg) Qo (TOkL.cons Qy3 TOkL.nil) (by kernel_rfl) (by kernel_rfl) (Qqk _ a b ?_)
 exact Yf QB (E:=m_eq) (fun _ _=>rfl) hb.1.1 (fun i h=>QrW _ a b i h) (Q:=fun x=>Jy x=Jy (m_eq (α:=List Qd) a b)) rfl
theorem QqH:Qm Try.prog Qgu:=Qr fun x _=>Qyu x.1 x.2.1
end
end Go.Proofs.Ytephkbajoofeoaa.Am

