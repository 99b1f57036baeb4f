/- -/
import Derived.Test.YtephkbajoofeoaaYGH1
namespace Go.Proofs.Ytephkbajoofeoaa.Am
open Go Go.RowKit Go.Proofs.Ytephkbajoofeoaa
set_option linter.all false
noncomputable section
variable (K:TRes→Prop)
def JV (t:Int):TRes:=zre (zci t)
def Qb6:TRow:=Qj 151 [(.a ctOp),(.c TI)] fun x=>(some (p_sz (α:=TOp') x.1 x.2.1),JV (m_sz (α:=TOp') x.1 x.2.1))
def Qi0:List TRow:=[JC]
def Qna:TCode :=
 (zsq [(.reg [zop 2 (.box 186 0 4),zmv 4 (zki 0)]),(.reg [zfa 5 2 3,zld 6 5 1,zmv 7 1,zca 8 124 [6,7],zmv 1 8]),(zsq [(.reg [zmv 9 1,zbi 10 .lss 9 (zki 0)]),(.cond 10 (zsq [(.reg [zmv 4 (zki (-1))]),.ret]) .skip)]),(.reg [zmv 11 1,zmv 4 11]),.ret])
def Qig:List (ARv × Md):=[(.t 4,.one .d)]
theorem QmP (a:TOp') (left:Int) (h :
 ((p_sz (α:=List Int) a.2.2.2 left)∧(zif (decide ((m_sz (α:=List Int) a.2.2.2 left)<(0:Int))) (K (JV (-1:Int))) (K (JV (m_sz (α:=List Int) a.2.2.2 left)))))):Hold (tawp Qi0 (0+0) Qna (TQ 0 0 Qig K) (Qh [(.a (Tup.cells ctOp a)),(.c TI left)])) :=
 Hold.of (by kernel_rfl) h
theorem Qky (a:TOp') (left:Int) (hp:p_sz (α:=TOp') a left):TCon Try.prog 151 [(.a (Tup.cells ctOp a)),(.c TI left)] (JV (m_sz (α:=TOp') a left)):=by
 refine Ql rfl fun hb=>tcg (n:=12) (sg:=Qb6.sg) Qm (TOk.cons QfM TOk.nil) (by kernel_rfl) (by kernel_rfl) (QmP _ a left ?_)
 refine ⟨hp,fun h=>R_eq (Ya (of_decide_eq_true h) (by first | omega | (simp only [Q1,Q5,Q4];omega)) hp.1),fun h=>?_⟩
 exact R_eq (congrArg (QU · _) (by first | rfl | omega | (simp only [Q1,Q5,Q4];omega)))
theorem Qmg:Qi Try.prog Qb6:=Qn fun x h=>Qky x.1 x.2.1 h
def Ye (t:Int):TRes:=zre (zci t)
def QbP:TRow:=Qj 82 [(.c (.sl ctOp)),(.c TI)] fun x=>(some (p_sz (α:=List TOp') x.1 x.2.1),Ye (m_sz (α:=List TOp') x.1 x.2.1))
def Qbj:List TRow:=[Qb6]
def Qgb:TCode :=
 (zsq [(zsq [(.reg [zmv 12 5,zmv 13 0,zle 14 13,zbi 15 .lss 12 14]),(.cond 15 .skip (.exit 0))]),(.block 1 (zsq [(.reg [zmv 18 0,zmv 19 5,zia 20 18 19 ctOp,zLd 21 20 4,zmv 22 1,zca 23 151 [21,22],zmv 1 23]),(.reg [zmv 24 1,zbi 25 .lss 24 (zki 0)]),(.cond 25 (zsq [(.reg [zmv 4 (zki (-1))]),.ret]) .skip)])),(.reg [zmv 16 5,zbi 17 .add 16 (zki 1),zmv 5 17])])
def Qdh:List (Nat × Md):=zdl [0,1,5]
def Qdj:TCode :=
 (zsq [(.reg [zmv 26 1,zmv 4 26]),.ret])
def QkA:TCode :=
 (zsq [(.reg [zmv 4 (zki 0)]),(.reg [zmv 6 1,zmv 7 0,zle 8 7,zbi 9 .sub 6 8,zmv 1 9]),(zsq [(.reg [zmv 10 1,zbi 11 .lss 10 (zki 0)]),(.cond 11 (zsq [(.reg [zmv 4 (zki (-1))]),.ret]) .skip)]),(zsq [(.reg [zmv 5 (zki 0)]),(.block 0 (.loop Qdh Qgb))]),Qdj])
def Qdf:List (ARv × Md):=[(.t 4,.one .d)]
def Qgz:Qd:=TQ 0 0 Qdf K
def QkZ:Qd:=Qseq (tawp Qbj 0 Qdj (Qgz K)) (Qgz K)
def QmG:Qd:=Qblk 0 (QkZ K)
def Qcb (a:List TOp') (left1:Int) (i:Int):Prop:=Loop Qbj 0 Qdh Qgb (QmG K) ⟨[(0,(zcs ctOp a)),(1,(zci left1)),(5,(zci i))],[],0⟩
theorem QlT (a:List TOp') (left1:Int) (i:Int) (h :
 (zif (decide (i<(a.length:Int))) ((((0:Int)≤i∧Int.toNat i<a.length)∧(p_sz (α:=TOp') (gtd dOp a (Int.toNat i)) left1))∧(zif (decide ((m_sz (α:=TOp') (gtd dOp a (Int.toNat i)) left1)<(0:Int))) (K (Ye (-1:Int))) (Qcb K a (m_sz (α:=TOp') (gtd dOp a (Int.toNat i)) left1) (w64 (i+(1:Int)))))) (K (Ye left1)))):Qcb K a left1 i :=
 Loop.of (by kernel_rfl) h
theorem Qjy (a:List TOp') (left:Int) (h :
 (zif (decide ((w64 (left-(a.length:Int)))<(0:Int))) (K (Ye (-1:Int))) (Qcb K a (w64 (left-(a.length:Int))) 0))):Hold (tawp Qbj (0+0) QkA (TQ 0 0 Qdf K) (Qh [(.c (.sl ctOp) a),(.c TI left)])) :=
 Hold.of (by kernel_rfl) h
theorem Qjg (a:List TOp') (left:Int) (hp:p_sz (α:=List TOp') a left):TCon Try.prog 82 [(.c (.sl ctOp) a),(.c TI left)] (Ye (m_sz (α:=List TOp') a left)):=by
 refine Ql rfl fun hb=>tcg (n:=27) (sg:=QbP.sg) Qm (TOk.cons Qmg TOk.nil) (by kernel_rfl) (by kernel_rfl) (Qjy _ a left ?_)
 exact QnU (Q:=fun x=>Ye x=Ye (m_sz (α:=List TOp') a left)) dOp hp hb.1.1 (fun l i h=>QlT _ a l i h) rfl
theorem QlC:Qi Try.prog QbP:=Qn fun x h=>Qjg x.1 x.2.1 h
def JE (t:Int):TRes:=zre (zci t)
def QcC:TRow:=Qj 63 [(.a [(.sl ctOp)]),(.c TI)] fun x=>(some (p_sz (α:=List TOp') x.1 x.2.1),JE (m_sz (α:=List TOp') x.1 x.2.1))
def Qkl:List TRow:=[QbP]
def Qi4:TCode :=
 (zsq [(.reg [zop 2 (.box 94 0 1),zmv 4 (zki 0)]),(.reg [zfa 5 2 0,zld 6 5 1,zmv 7 1,zca 8 82 [6,7],zmv 1 8]),(zsq [(.reg [zmv 9 1,zbi 10 .lss 9 (zki 0)]),(.cond 10 (zsq [(.reg [zmv 4 (zki (-1))]),.ret]) .skip)]),(.reg [zmv 11 1,zmv 4 11]),.ret])
def Qnb:List (ARv × Md):=[(.t 4,.one .d)]
theorem QmK (a:List TOp') (left:Int) (h :
 ((p_sz (α:=List TOp') a left)∧(zif (decide ((m_sz (α:=List TOp') a left)<(0:Int))) (K (JE (-1:Int))) (K (JE (m_sz (α:=List TOp') a left)))))):Hold (tawp Qkl (0+0) Qi4 (TQ 0 0 Qnb K) (Qh [(.a [(.c (.sl ctOp) a)]),(.c TI left)])) :=
 Hold.of (by kernel_rfl) h
theorem QiT (a:List TOp') (left:Int) (hp:p_sz (α:=List TOp') a left):TCon Try.prog 63 [(.a [(.c (.sl ctOp) a)]),(.c TI left)] (JE (m_sz (α:=List TOp') a left)):=by
 refine Ql rfl fun hb=>tcg (n:=12) (sg:=QcC.sg) Qm (TOk.cons QlC TOk.nil) (by kernel_rfl) (by kernel_rfl) (QmK _ a left ?_)
 refine ⟨hp,fun h=>R_eq (Ya (of_decide_eq_true h) (by first | omega | (simp only [Q1,Q5,Q4];omega)) hp.1),fun h=>?_⟩
 exact R_eq (congrArg (QU · _) (by first | rfl | omega | (simp only [Q1,Q5,Q4];omega)))
theorem Qmo:Qi Try.prog QcC:=Qn fun x h=>QiT x.1 x.2.1 h
def QbD (t:TOp'):TRes:=zra (.a (Tup.cells ctOp t))
def Qbs:TRow:=Qj 154 [(.a ctOp)] fun x=>(some (p_to (α:=TOp') x.1),QbD (id (α:=TOp') x.1))
def Qm0:List TRow:=[JK]
def Ql7:TCode :=
 (zsq [(.reg [zop 1 (.box 186 0 4),zop 2 (.new 76 (z0s ctOp))]),(.reg [zop 3 (.new 76 (z0s ctOp))]),(.reg [zfa 4 1 0,zld 5 4 1,zfa 6 3 0,zst 6 5 1]),(.reg [zfa 7 1 1,zld 8 7 1,zfa 9 3 1,zst 9 8 1]),(.reg [zfa 10 1 2,zld 11 10 1,zfa 12 3 2,zst 12 11 1]),(.reg [zfa 13 1 3,zld 14 13 1,zca 15 127 [14],zfa 16 3 3,zst 16 15 1]),(.reg [zLd 17 3 4,zst 2 17 4]),.ret])
def QnI:List (ARv × Md):=[(.l 2 4 true,.b (zds 4))]
theorem Qn8 (a:TOp') (h :
 ((p_to (α:=List Int) a.2.2.2)∧K (QbD (a.1,a.2.1,a.2.2.1,(id (α:=List Int) a.2.2.2))))):Hold (tawp Qm0 (0+0) Ql7 (TQ 0 0 QnI K) (Qh [(.a (Tup.cells ctOp a))])) :=
 Hold.of (by kernel_rfl) h
theorem QlZ (a:TOp') (hp:p_to (α:=TOp') a):TCon Try.prog 154 [(.a (Tup.cells ctOp a))] (QbD (id (α:=TOp') a)):=by
 refine Ql rfl fun hb=>tcg (n:=18) (sg:=Qbs.sg) Qm (TOk.cons Qe8 TOk.nil) (by kernel_rfl) (by kernel_rfl) (Qn8 _ a ?_)
 repeat' (first | exact rfl | refine And.intro ?_ ?_)
 all_goals (simp only [p_to,Q1,Q5,Q4] at hp ⊢;omega)
theorem Qn7:Qi Try.prog Qbs:=Qn fun x h=>QlZ x.1 h
def Y0 (t:(List TOp')):TRes:=zra (zcs ctOp t)
def QbJ:TRow:=Qj 84 [(.c (.sl ctOp))] fun x=>(some (p_to (α:=List TOp') x.1),Y0 (id (α:=List TOp') x.1))
def QcV:List TRow:=[Qbs]
def QeJ:TCode :=
 (zsq [(zsq [(.reg [zmv 8 4,zmv 9 0,zle 10 9,zbi 11 .lss 8 10]),(.cond 11 .skip (.exit 0))]),(.block 1 (.reg [zmv 14 3,zmv 15 4,zmv 16 0,zmv 17 4,zia 18 16 17 ctOp,zLd 19 18 4,zca 20 154 [19],zia 21 14 15 ctOp,zst 21 20 4])),(.reg [zmv 12 4,zbi 13 .add 12 (zki 1),zmv 4 13])])
def QeX:List (Nat × Md):=[(0,.one .d),(3,.one .f),(4,.one .d)]
def QgN:TCode :=
 (zsq [(.reg [zmv 22 3,zmv 2 22]),.ret])
def Qjd:TCode :=
 (zsq [(.reg [zmv 2 (.k (.n ctOp))]),(.reg [zmv 5 0,zle 6 5,zop 7 (.mk 76 ctOp (z0s ctOp) 6),zmv 3 7]),(zsq [(.reg [zmv 4 (zki 0)]),(.block 0 (.loop QeX QeJ))]),QgN])
def Qgf:List (ARv × Md):=[(.t 2,.one .d)]
def QgL:Qd:=TQ 0 0 Qgf K
def Qi3:Qd:=Qseq (tawp QcV 0 QgN (QgL K)) (QgL K)
def Qnw:Qd:=Qblk 0 (Qi3 K)
def Qcz (a:List TOp') (i:Int) (out:List TOp'):Prop:=Loop QcV 0 QeX QeJ (Qnw K) ⟨[(0,(zcs ctOp a)),(3,(.r ctOp 0 0 out.length)),(4,(zci i))],[(0,(.sl 76 ctOp true out))],1⟩
theorem QhV (a:List TOp') (i:Int) (out:List TOp') (h :
 (zif (decide (i<(a.length:Int))) ((((0:Int)≤i∧Int.toNat i<a.length)∧((p_to (α:=TOp') (gtd dOp a (Int.toNat i)))∧(((0:Int)≤i∧Int.toNat i<out.length)∧((0+(Int.toNat i))<out.length))))∧(Qcz K a (w64 (i+(1:Int))) (List.take out.length ((out).set (0+(Int.toNat i)) (id (α:=TOp') (gtd dOp a (Int.toNat i))))))) (K (Y0 (List.take out.length (List.drop 0 out)))))):Qcz K a i out :=
 Loop.of (by kernel_rfl) h
theorem QkC (a:List TOp') (h :
 (((0:Int)≤(a.length:Int)∧(a.length:Int)≤big)∧(Qcz K a 0 (List.take (Int.toNat (a.length:Int)) (List.replicate (Int.toNat (a.length:Int)) ((0:Int),(0:Int),(0:Int),[])))))):Hold (tawp QcV (0+0) Qjd (TQ 0 0 Qgf K) (Qh [(.c (.sl ctOp) a)])) :=
 Hold.of (by kernel_rfl) h
theorem Qio (a:List TOp') (hp:p_to (α:=List TOp') a):TCon Try.prog 84 [(.c (.sl ctOp) a)] (Y0 (id (α:=List TOp') a)):=by
 refine Ql rfl fun hb=>tcg (n:=23) (sg:=QbJ.sg) Qm (TOk.cons Qn7 TOk.nil) (by kernel_rfl) (by kernel_rfl) (QkC _ a ?_)
 exact QfO (Q:=fun x=>Y0 x=Y0 (id (α:=List TOp') a)) dOp hp (fun i out h=>QhV _ a i out h) rfl
theorem Qkh:Qi Try.prog QbJ:=Qn fun x h=>Qio x.1 h
def Qb4 (t:(List TOp')):TRes:=zra (.a [(zcs ctOp t)])
def Qbn:TRow:=Qj 65 [(.a [(.sl ctOp)])] fun x=>(some (p_to (α:=List TOp') x.1),Qb4 (id (α:=List TOp') x.1))
def QkS:List TRow:=[QbJ]
def QnO:TCode :=
 (zsq [(.reg [zop 1 (.box 94 0 1),zop 2 (.new 66 [(.n ctOp)])]),(.reg [zop 3 (.new 66 [(.n ctOp)])]),(.reg [zfa 4 1 0,zld 5 4 1,zca 6 84 [5],zfa 7 3 0,zst 7 6 1]),(.reg [zLd 8 3 1,zst 2 8 1]),.ret])
def Qi2:List (ARv × Md):=[(.l 2 1 true,.b [.d])]
theorem Qng (a:List TOp') (h :
 ((p_to (α:=List TOp') a)∧K (Qb4 (id (α:=List TOp') a)))):Hold (tawp QkS (0+0) QnO (TQ 0 0 Qi2 K) (Qh [(.a [(.c (.sl ctOp) a)])])) :=
 Hold.of (by kernel_rfl) h
theorem Qk8 (a:List TOp') (hp:p_to (α:=List TOp') a):TCon Try.prog 65 [(.a [(.c (.sl ctOp) a)])] (Qb4 (id (α:=List TOp') a)):=by
 refine Ql rfl fun hb=>tcg (n:=9) (sg:=Qbn.sg) Qm (TOk.cons Qkh TOk.nil) (by kernel_rfl) (by kernel_rfl) (Qng _ a ?_)
 repeat' (first | exact rfl | refine And.intro ?_ ?_)
 all_goals (simp only [p_to,Q1,Q5,Q4] at hp ⊢;omega)
theorem QhW:Qi Try.prog Qbn:=Qn fun x h=>Qk8 x.1 h
def Yf (t:Bool):TRes:=zre (zcb t)
def Qbb:TRow:=Qj 159 [(.a ctOp),(.a ctOp)] fun x=>(none,Yf (m_eq (α:=TOp') x.1 x.2.1))
def QlW:List TRow:=[Jw]
def Qnh:TCode :=
 (zsq [(.reg [zop 2 (.box 76 0 4),zop 3 (.box 76 1 4),zmv 4 (zkb false)]),(zsq [(.reg [zfa 5 2 0,zld 6 5 1,zfa 7 3 0,zld 8 7 1,zbi 9 .neq 6 8]),(.cond 9 (zsq [(.reg [zmv 4 (zkb false)]),.ret]) .skip)]),(zsq [(.reg [zfa 10 2 1,zld 11 10 1,zfa 12 3 1,zld 13 12 1,zbi 14 .neq 11 13]),(.cond 14 (zsq [(.reg [zmv 4 (zkb false)]),.ret]) .skip)]),(zsq [(.reg [zfa 15 2 2,zld 16 15 1,zfa 17 3 2,zld 18 17 1,zbi 19 .neq 16 18]),(.cond 19 (zsq [(.reg [zmv 4 (zkb false)]),.ret]) .skip)]),(zsq [(.reg [zfa 20 2 3,zld 21 20 1,zfa 22 3 3,zld 23 22 1,zca 24 66 [21,23],zno 25 24]),(.cond 25 (zsq [(.reg [zmv 4 (zkb false)]),.ret]) .skip)]),(.reg [zmv 4 (zkb true)]),.ret])
def QnY:List (ARv × Md):=[(.t 4,.one .d)]
theorem Qhh (a:TOp') (b:TOp') (h :
 (zif (a.1 != b.1) (K (Yf false)) (zif (a.2.1 != b.2.1) (K (Yf false)) (zif (a.2.2.1 != b.2.2.1) (K (Yf false)) (zif (!(m_eq (α:=List Int) a.2.2.2 b.2.2.2)) (K (Yf false)) (K (Yf true))))))):Hold (tawp QlW (0+0) Qnh (TQ 0 0 QnY K) (Qh [(.a (Tup.cells ctOp a)),(.a (Tup.cells ctOp b))])) :=
 Hold.of (by kernel_rfl) h
theorem Qkx (a:TOp') (b:TOp'):TCon Try.prog 159 [(.a (Tup.cells ctOp a)),(.a (Tup.cells ctOp b))] (Yf (m_eq (α:=TOp') a b)):=by
 refine Ql rfl fun hb=>tcg (n:=26) (sg:=Qbb.sg) Qm (TOk.cons Qf4 TOk.nil) (by kernel_rfl) (by kernel_rfl) (Qhh _ a b ?_)
 refine ⟨fun h=>R_eq (Eq.symm (decide_eq_false (by rintro rfl;simp [m_eq] at h))),fun h0=>?_⟩
 refine ⟨fun h=>R_eq (Eq.symm (decide_eq_false (by rintro rfl;simp [m_eq] at h))),fun h1=>?_⟩
 refine ⟨fun h=>R_eq (Eq.symm (decide_eq_false (by rintro rfl;simp [m_eq] at h))),fun h2=>?_⟩
 refine ⟨fun h=>R_eq (Eq.symm (decide_eq_false (by rintro rfl;simp [m_eq] at h))),fun h3=>?_⟩
 refine R_eq (Eq.symm (decide_eq_true ?_))
 simp [m_eq] at h0 h1 h2 h3
 simp [Prod.ext_iff, *]
theorem Qmd:Qi Try.prog Qbb:=Qn fun x _=>Qkx x.1 x.2.1
def Yk (t:Bool):TRes:=zre (zcb t)
def Qc1:TRow:=Qj 87 [(.c (.sl ctOp)),(.c (.sl ctOp))] fun x=>(none,Yk (m_eq (α:=List TOp') x.1 x.2.1))
def Qc4:List TRow:=[Qbb]
def QfX:TCode :=
 (zsq [(zsq [(.reg [zmv 11 5,zmv 12 0,zle 13 12,zbi 14 .lss 11 13]),(.cond 14 .skip (.exit 0))]),(.block 1 (zsq [(.draw [zmv 17 0,zmv 18 5,zia 19 17 18 ctOp,zLd 20 19 4,zmv 21 1,zmv 22 5,zia 23 21 22 ctOp,zLd 24 23 4,zca 25 159 [20,24],zno 26 25] []),(.cond 26 (zsq [(.reg [zmv 4 (zkb false)]),.ret]) .skip)])),(.reg [zmv 15 5,zbi 16 .add 15 (zki 1),zmv 5 16])])
def QeU:List (Nat × Md):=zdl [0,1,5]
def Qek:TCode :=
 (zsq [(.reg [zmv 4 (zkb true)]),.ret])
def Qli:TCode :=
 (zsq [(.reg [zmv 4 (zkb false)]),(zsq [(.reg [zmv 6 0,zle 7 6,zmv 8 1,zle 9 8,zbi 10 .neq 7 9]),(.cond 10 (zsq [(.reg [zmv 4 (zkb false)]),.ret]) .skip)]),(zsq [(.reg [zmv 5 (zki 0)]),(.block 0 (.loop QeU QfX))]),Qek])
def QgR:List (ARv × Md):=[(.t 4,.one .d)]
def Qfs:Qd:=TQ 0 0 QgR K
def Qj8:Qd:=Qseq (tawp Qc4 0 Qek (Qfs K)) (Qfs K)
def Qil:Qd:=Qblk 0 (Qj8 K)
def QbH (a:List TOp') (b:List TOp') (i:Int):Prop:=Loop Qc4 0 QeU QfX (Qil K) ⟨[(0,(zcs ctOp a)),(1,(zcs ctOp b)),(5,(zci i))],[],0⟩
theorem QjP (a:List TOp') (b:List TOp') (i:Int) (h :
 (zif (decide (i<(a.length:Int))) ((((0:Int)≤i∧Int.toNat i<a.length)∧((0:Int)≤i∧Int.toNat i<b.length))∧(zif (!(m_eq (α:=TOp') (gtd dOp a (Int.toNat i)) (gtd dOp b (Int.toNat i)))) (K (Yk false)) (QbH K a b (w64 (i+(1:Int)))))) (K (Yk true)))):QbH K a b i :=
 Loop.of (by kernel_rfl) h
theorem Qhj (a:List TOp') (b:List TOp') (h :
 (zif ((a.length:Int) != (b.length:Int)) (K (Yk false)) (QbH K a b 0))):Hold (tawp Qc4 (0+0) Qli (TQ 0 0 QgR K) (Qh [(.c (.sl ctOp) a),(.c (.sl ctOp) b)])) :=
 Hold.of (by kernel_rfl) h
theorem QnW (a:List TOp') (b:List TOp'):TCon Try.prog 87 [(.c (.sl ctOp) a),(.c (.sl ctOp) b)] (Yk (m_eq (α:=List TOp') a b)):=by
 refine Ql rfl fun hb=>tcg (n:=27) (sg:=Qc1.sg) Qm (TOk.cons Qmd TOk.nil) (by kernel_rfl) (by kernel_rfl) (Qhj _ a b ?_)
 exact QcA dOp (E:=m_eq) (fun _ _=>rfl) hb.1.1 (fun i h=>QjP _ a b i h) (Q:=fun x=>Yk x=Yk (m_eq (α:=List TOp') a b)) rfl
theorem QlO:Qi Try.prog Qc1:=Qn fun x _=>QnW x.1 x.2.1
def JA (t:Bool):TRes:=zre (zcb t)
def QcM:TRow:=Qj 67 [(.a [(.sl ctOp)]),(.a [(.sl ctOp)])] fun x=>(none,JA (m_eq (α:=List TOp') x.1 x.2.1))
def Qn0:List TRow:=[Qc1]
def QiD:TCode :=
 (zsq [(.reg [zop 2 (.box 66 0 1),zop 3 (.box 66 1 1),zmv 4 (zkb false)]),(zsq [(.reg [zfa 5 2 0,zld 6 5 1,zfa 7 3 0,zld 8 7 1,zca 9 87 [6,8],zno 10 9]),(.cond 10 (zsq [(.reg [zmv 4 (zkb false)]),.ret]) .skip)]),(.reg [zmv 4 (zkb true)]),.ret])
def Qmc:List (ARv × Md):=[(.t 4,.one .d)]
theorem Qis (a:List TOp') (b:List TOp') (h :
 (zif (!(m_eq (α:=List TOp') a b)) (K (JA false)) (K (JA true)))):Hold (tawp Qn0 (0+0) QiD (TQ 0 0 Qmc K) (Qh [(.a [(.c (.sl ctOp) a)]),(.a [(.c (.sl ctOp) b)])])) :=
 Hold.of (by kernel_rfl) h
theorem Qmm (a:List TOp') (b:List TOp'):TCon Try.prog 67 [(.a [(.c (.sl ctOp) a)]),(.a [(.c (.sl ctOp) b)])] (JA (m_eq (α:=List TOp') a b)):=by
 refine Ql rfl fun hb=>tcg (n:=11) (sg:=QcM.sg) Qm (TOk.cons QlO TOk.nil) (by kernel_rfl) (by kernel_rfl) (Qis _ a b ?_)
 refine ⟨fun h=>R_eq (Eq.symm (decide_eq_false (by rintro rfl;simp [m_eq] at h))),fun h0=>?_⟩
 refine R_eq (Eq.symm (decide_eq_true ?_))
 simp [m_eq] at h0
 simp [Prod.ext_iff, *]
theorem Qhz:Qi Try.prog QcM:=Qn fun x _=>Qmm x.1 x.2.1
end
end Go.Proofs.Ytephkbajoofeoaa.Am

