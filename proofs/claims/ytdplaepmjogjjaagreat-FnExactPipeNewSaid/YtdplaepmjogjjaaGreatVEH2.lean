/- -/
import Derived.Test.YtdplaepmjogjjaaGreatVEH1
import Derived.Test.YtdplaepmjogjjaaGreatVEGF
namespace Go.Proofs.YtdplaepmjogjjaaGreat.Am
open Go Go.RowKit Go.Proofs.YtdplaepmjogjjaaGreat
set_option linter.all false
noncomputable section
variable (K:TRes→Prop)
def QeG (t:Int):TRes:=zre (zci t)
def QjJ:TRow:=Qg 152 [(.a ctOp),(.c TI)] fun x=>(some (p_sz (α:=TOp') x.1 x.2.1),QeG (m_sz (α:=TOp') x.1 x.2.1))
def QsI:TTab:=⟨[Qb2],false⟩
def QvG:TCode :=
 (zsq [(.reg [zop 2 (.box 184 0 4),zmv 4 (zki 0)]),(.reg [zfa 5 2 3,zld 6 5 1,zmv 7 1,zca 8 59 [6,7],zmv 1 8]),(zsq [(.reg [zmv 9 1,zbi 10 .lss 9 (zki 0)]),(.cond 10 (zsq [(.reg [zmv 4 (zki (-1))]),.ret]) .skip)]),(.reg [zmv 11 1,zmv 4 11]),.ret])
def QJu:List (ARv × Md):=[(.t 4,.one .d)]
theorem QAX (a:TOp') (left:Int) (h :
 ((p_sz (α:=List Int) a.2.2.2 left)∧(zif (decide ((m_sz (α:=List Int) a.2.2.2 left)<(0:Int))) (K (QeG (-1:Int))) (K (QeG (m_sz (α:=List Int) a.2.2.2 left)))))):Hold (tawp QsI (0+0) QvG (TQ 0 0 QJu K) (Qe [(.a (Tup.cells ctOp a)),(.c TI left)])) :=
 Hold.of (by kernel_rfl) h
theorem Qy0 (a:TOp') (left:Int) (hp:p_sz (α:=TOp') a left):TCon Tryz.prog 152 [(.a (Tup.cells ctOp a)),(.c TI left)] (QeG (m_sz (α:=TOp') a left)):=by
 refine Ql rfl fun hb=>tcg (Γ:=QsI) (n:=12) (sg:=QjJ.sg) Qk (TOkL.cons QhG TOkL.nil) (by kernel_rfl) (by kernel_rfl) (QAX _ a left ?_)
 refine ⟨hp,fun h=>R_eq (Y6 (of_decide_eq_true h) (by first | omega | (simp only [QM,QS,Za];omega)) hp.1),fun h=>?_⟩
 exact R_eq (congrArg (ZG · _) (by first | rfl | omega | (simp only [QM,QS,Za];omega)))
theorem QAz:Qi Tryz.prog QjJ:=Qm fun x h=>Qy0 x.1 x.2.1 h
def Qa1 (t:Int):TRes:=zre (zci t)
def Qjn:TRow:=Qg 56 [(.c (.sl ctOp)),(.c TI)] fun x=>(some (p_sz (α:=List TOp') x.1 x.2.1),Qa1 (m_sz (α:=List TOp') x.1 x.2.1))
def QfS:TTab:=⟨[QjJ],false⟩
def QtU:TCode :=
 (zsq [(zsq [(.reg [zmv 12 5,zmv 13 0,zle 14 13,zbi 15 .lss 12 14]),(.cond 15 .skip (.exit 0))]),(.block 1 (zsq [(.reg [zmv 18 0,zmv 19 5,zia 20 18 19 ctOp,zLd 21 20 4,zmv 22 1,zca 23 152 [21,22],zmv 1 23]),(.reg [zmv 24 1,zbi 25 .lss 24 (zki 0)]),(.cond 25 (zsq [(.reg [zmv 4 (zki (-1))]),.ret]) .skip)])),(.reg [zmv 16 5,zbi 17 .add 16 (zki 1),zmv 5 17])])
def Qqj:List (Nat × Md):=zdl [0,1,5]
def QrJ:TCode :=
 (zsq [(.reg [zmv 26 1,zmv 4 26]),.ret])
def QFQ:TCode :=
 (zsq [(.reg [zmv 4 (zki 0)]),(.reg [zmv 6 1,zmv 7 0,zle 8 7,zbi 9 .sub 6 8,zmv 1 9]),(zsq [(.reg [zmv 10 1,zbi 11 .lss 10 (zki 0)]),(.cond 11 (zsq [(.reg [zmv 4 (zki (-1))]),.ret]) .skip)]),(zsq [(.reg [zmv 5 (zki 0)]),(.block 0 (.loop Qqj QtU))]),QrJ])
def QuW:List (ARv × Md):=[(.t 4,.one .d)]
def Qnu:Qb:=TQ 0 0 QuW K
def Qvi:Qb:=Qseq (tawp QfS 0 QrJ (Qnu K)) (Qnu K)
def Qyr:Qb:=Qblk 0 (Qvi K)
def QhX (a:List TOp') (left1:Int) (i:Int):Prop:=Loop QfS 0 Qqj QtU (Qyr K) ⟨[(0,(zcs ctOp a)),(1,(zci left1)),(5,(zci i))],[],0⟩
theorem QFe (a:List TOp') (left1:Int) (i:Int) (h :
 (zif (decide (i<(a.length:Int))) ((((0:Int)≤i∧Int.toNat i<a.length)∧(p_sz (α:=TOp') (gtd dOp a (Int.toNat i)) left1))∧(zif (decide ((m_sz (α:=TOp') (gtd dOp a (Int.toNat i)) left1)<(0:Int))) (K (Qa1 (-1:Int))) (QhX K a (m_sz (α:=TOp') (gtd dOp a (Int.toNat i)) left1) (w64 (i+(1:Int)))))) (K (Qa1 left1)))):QhX K a left1 i :=
 Loop.of (by kernel_rfl) h
theorem QAD (a:List TOp') (left:Int) (h :
 (zif (decide ((w64 (left-(a.length:Int)))<(0:Int))) (K (Qa1 (-1:Int))) (QhX K a (w64 (left-(a.length:Int))) 0))):Hold (tawp QfS (0+0) QFQ (TQ 0 0 QuW K) (Qe [(.c (.sl ctOp) a),(.c TI left)])) :=
 Hold.of (by kernel_rfl) h
theorem QDC (a:List TOp') (left:Int) (hp:p_sz (α:=List TOp') a left):TCon Tryz.prog 56 [(.c (.sl ctOp) a),(.c TI left)] (Qa1 (m_sz (α:=List TOp') a left)):=by
 refine Ql rfl fun hb=>tcg (Γ:=QfS) (n:=27) (sg:=Qjn.sg) Qk (TOkL.cons QAz TOkL.nil) (by kernel_rfl) (by kernel_rfl) (QAD _ a left ?_)
 exact QpV (Q:=fun x=>Qa1 x=Qa1 (m_sz (α:=List TOp') a left)) dOp hp hb.1.1 (fun l i h=>QFe _ a l i h) rfl
theorem QvD:Qi Tryz.prog Qjn:=Qm fun x h=>QDC x.1 x.2.1 h
def Qfx (t:Int):TRes:=zre (zci t)
def Qjb:TRow:=Qg 114 [(.a [(.sl ctOp)]),(.c TI)] fun x=>(some (p_sz (α:=List TOp') x.1 x.2.1),Qfx (m_sz (α:=List TOp') x.1 x.2.1))
def QlV:TTab:=⟨[Qjn],false⟩
def QGF:TCode :=
 (zsq [(.reg [zop 2 (.box 69 0 1),zmv 4 (zki 0)]),(.reg [zfa 5 2 0,zld 6 5 1,zmv 7 1,zca 8 56 [6,7],zmv 1 8]),(zsq [(.reg [zmv 9 1,zbi 10 .lss 9 (zki 0)]),(.cond 10 (zsq [(.reg [zmv 4 (zki (-1))]),.ret]) .skip)]),(.reg [zmv 11 1,zmv 4 11]),.ret])
def Qxm:List (ARv × Md):=[(.t 4,.one .d)]
theorem QzO (a:List TOp') (left:Int) (h :
 ((p_sz (α:=List TOp') a left)∧(zif (decide ((m_sz (α:=List TOp') a left)<(0:Int))) (K (Qfx (-1:Int))) (K (Qfx (m_sz (α:=List TOp') a left)))))):Hold (tawp QlV (0+0) QGF (TQ 0 0 Qxm K) (Qe [(.a [(.c (.sl ctOp) a)]),(.c TI left)])) :=
 Hold.of (by kernel_rfl) h
theorem QCU (a:List TOp') (left:Int) (hp:p_sz (α:=List TOp') a left):TCon Tryz.prog 114 [(.a [(.c (.sl ctOp) a)]),(.c TI left)] (Qfx (m_sz (α:=List TOp') a left)):=by
 refine Ql rfl fun hb=>tcg (Γ:=QlV) (n:=12) (sg:=Qjb.sg) Qk (TOkL.cons QvD TOkL.nil) (by kernel_rfl) (by kernel_rfl) (QzO _ a left ?_)
 refine ⟨hp,fun h=>R_eq (Y6 (of_decide_eq_true h) (by first | omega | (simp only [QM,QS,Za];omega)) hp.1),fun h=>?_⟩
 exact R_eq (congrArg (ZG · _) (by first | rfl | omega | (simp only [QM,QS,Za];omega)))
theorem QIw:Qi Tryz.prog Qjb:=Qm fun x h=>QCU x.1 x.2.1 h
def QiQ (t:TOp'):TRes:=⟨(.a [(zci t.1),(zci t.2.1),(zci t.2.2.1),(.r [TI] 0 0 ((t.2.2.2).length))]),[(.sl 3 [TI] (.dp 0 true []) t.2.2.2)],[],false,[]⟩
def QiF:TRow:=Qg 162 [(.a ctOp)] fun x=>(some (p_to (α:=TOp') x.1),QiQ (id (α:=TOp') x.1))
def Qr0:TTab:=⟨[Qcu],true⟩
def QE7:TCode :=
 (zsq [(.reg [zop 1 (.box 184 0 4),zop 2 (.new 134 (z0s ctOp))]),(.reg [zop 3 (.new 134 (z0s ctOp))]),(.reg [zfa 4 1 0,zld 5 4 1,zfa 6 3 0,zst 6 5 1]),(.reg [zfa 7 1 1,zld 8 7 1,zfa 9 3 1,zst 9 8 1]),(.reg [zfa 10 1 2,zld 11 10 1,zfa 12 3 2,zst 12 11 1]),(.reg [zfa 13 1 3,zld 14 13 1,zca 15 29 [14],zfa 16 3 3,zst 16 15 1]),(.reg [zLd 17 3 4,zst 2 17 4]),.ret])
def QBL:List (ARv × Md):=[(.l 2 4 true,.b [.d,.d,.d,.p 3])]
theorem QHA (a:TOp') (h :
 ((p_to (α:=List Int) a.2.2.2)∧K (QiQ (a.1,a.2.1,a.2.2.1,(List.take ((id (α:=List Int) a.2.2.2).length) (id (α:=List Int) a.2.2.2)))))):Hold (tawp Qr0 (0+0) QE7 (TQ 0 0 QBL K) (Qe [(.a (Tup.cells ctOp a))])) :=
 Hold.of (by kernel_rfl) h
theorem QGH (a:TOp') (hp:p_to (α:=TOp') a):TCon Tryz.prog 162 [(.a (Tup.cells ctOp a))] (QiQ (id (α:=TOp') a)):=by
 refine Ql rfl fun hb=>tcg (Γ:=Qr0) (n:=18) (sg:=QiF.sg) Qk (TOkL.cons QiZ TOkL.nil) (by kernel_rfl) (by kernel_rfl) (QHA _ a ?_)
 repeat' (first | refine And.intro ?_ ?_ | exact R_eq (by simp))
 all_goals (simp only [p_to,QM,QS,Za,List.drop_zero,List.take_length,id_eq] at hp ⊢;omega)
theorem QFW:Qi Tryz.prog QiF:=Qm fun x h=>QGH x.1 h
def Ju (t:(List TOp')):TRes:=⟨(.r ctOp 0 0 t.length),[(.sl 134 ctOp (.dp 0 true []) t)],[],false,[]⟩
def Qj7:TRow:=Qg 66 [(.c (.sl ctOp))] fun x=>(some (p_to (α:=List TOp') x.1),Ju (id (α:=List TOp') x.1))
def QeK:TTab:=⟨[QiF],true⟩
def QrZ:TCode :=
 (zsq [(zsq [(.reg [zmv 8 4,zmv 9 0,zle 10 9,zbi 11 .lss 8 10]),(.cond 11 .skip (.exit 0))]),(.block 1 (.reg [zmv 14 3,zmv 15 4,zmv 16 0,zmv 17 4,zia 18 16 17 ctOp,zLd 19 18 4,zca 20 162 [19],zia 21 14 15 ctOp,zst 21 20 4])),(.reg [zmv 12 4,zbi 13 .add 12 (zki 1),zmv 4 13])])
def Qn2:List (Nat × Md):=[(0,.one .d),(3,.one .f),(4,.one .d)]
def Qo9:TCode :=
 (zsq [(.reg [zmv 22 3,zmv 2 22]),.ret])
def Qx9:TCode :=
 (zsq [(.reg [zmv 2 (.k (.n ctOp))]),(.reg [zmv 5 0,zle 6 5,zop 7 (.mk 134 ctOp (z0s ctOp) 6),zmv 3 7]),(zsq [(.reg [zmv 4 (zki 0)]),(.block 0 (.loop Qn2 QrZ))]),Qo9])
def QsF:List (ARv × Md):=[(.t 2,.one (.p 134))]
def Quz:Qb:=TQ 0 0 QsF K
def QBC:Qb:=Qseq (tawp QeK 0 Qo9 (Quz K)) (Quz K)
def Qzp:Qb:=Qblk 0 (QBC K)
def Qd9 (a:List TOp') (i:Int) (out:List TOp'):Prop:=Loop QeK 0 Qn2 QrZ (Qzp K) ⟨[(0,(zcs ctOp a)),(3,(.r ctOp 0 0 out.length)),(4,(zci i))],[(0,(.sl 134 ctOp (.dp 0 true []) out))],1⟩
theorem Qst (a:List TOp') (i:Int) (out:List TOp') (h :
 (zif (decide (i<(a.length:Int))) ((((0:Int)≤i∧Int.toNat i<a.length)∧((p_to (α:=TOp') (gtd dOp a (Int.toNat i)))∧(((0:Int)≤i∧Int.toNat i<out.length)∧((0+(Int.toNat i))<out.length))))∧(Qd9 K a (w64 (i+(1:Int))) (List.take out.length ((out).set (0+(Int.toNat i)) ((id (α:=TOp') (gtd dOp a (Int.toNat i))).1,(id (α:=TOp') (gtd dOp a (Int.toNat i))).2.1,(id (α:=TOp') (gtd dOp a (Int.toNat i))).2.2.1,(List.take (((id (α:=TOp') (gtd dOp a (Int.toNat i))).2.2.2).length) (List.drop 0 ((id (α:=TOp') (gtd dOp a (Int.toNat i))).2.2.2)))))))) (K (Ju (List.take out.length out))))):Qd9 K a i out :=
 Loop.of (by kernel_rfl) h
theorem QHf (a:List TOp') (h :
 (((0:Int)≤(a.length:Int)∧(a.length:Int)≤big)∧(Qd9 K a 0 (List.take (Int.toNat (a.length:Int)) (List.replicate (Int.toNat (a.length:Int)) ((0:Int),(0:Int),(0:Int),[])))))):Hold (tawp QeK (0+0) Qx9 (TQ 0 0 QsF K) (Qe [(.c (.sl ctOp) a)])) :=
 Hold.of (by kernel_rfl) h
theorem QDo (a:List TOp') (hp:p_to (α:=List TOp') a):TCon Tryz.prog 66 [(.c (.sl ctOp) a)] (Ju (id (α:=List TOp') a)):=by
 refine Ql rfl fun hb=>tcg (Γ:=QeK) (n:=23) (sg:=Qj7.sg) Qk (TOkL.cons QFW TOkL.nil) (by kernel_rfl) (by kernel_rfl) (QHf _ a ?_)
 refine ⟨⟨by omega,by rw [bigI];have:=Jv hp;omega⟩,?_⟩
 refine QeT a (A:=fun ii ll=>Qd9 (fun r'=>r'=Ju (id (α:=List TOp') a)) a ii ll) (Q:=fun z=>Ju z=Ju (id (α:=List TOp') a)) hp ?_ ?_ rfl
 ·intro k x out hlt hg ho hx hA
  have hw:w64 (((k:Nat):Int)+1)=((k+1:Nat):Int):=by have:=Jv hp;rw [Qx (by omega) (by omega)];omega
  have hlo:k<out.length:=by omega
  refine Qst (fun r'=>r'=Ju (id (α:=List TOp') a)) a ((k:Nat):Int) out ?_
  refine ⟨fun _=>?_,fun h=>absurd h (by simp;omega)⟩
  simp only [Int.toNat_natCast,Nat.zero_add,hg,hw,hlt,hlo,QeV,List.drop_zero,List.take_length,id_eq,and_true,true_and,Int.natCast_nonneg]
  first | exact hA | exact ⟨hx,hA⟩
 ·intro out ho hq
  refine Qst (fun r'=>r'=Ju (id (α:=List TOp') a)) a ((a.length:Nat):Int) out ?_
  refine ⟨fun h=>absurd h (by simp),fun _=>?_⟩
  simp only [List.drop_zero,List.take_length]
  exact hq
theorem QyQ:Qi Tryz.prog Qj7:=Qm fun x h=>QDo x.1 h
def Qkk (t:(List TOp')):TRes:=⟨(.a [(.r ctOp 0 0 t.length)]),[(.sl 134 ctOp (.dp 0 true []) t)],[],false,[]⟩
def Qkr:TRow:=Qg 122 [(.a [(.sl ctOp)])] fun x=>(some (p_to (α:=List TOp') x.1),Qkk (id (α:=List TOp') x.1))
def Quv:TTab:=⟨[Qj7],true⟩
def QvZ:TCode :=
 (zsq [(.reg [zop 1 (.box 69 0 1),zop 2 (.new 77 [(.n ctOp)])]),(.reg [zop 3 (.new 77 [(.n ctOp)])]),(.reg [zfa 4 1 0,zld 5 4 1,zca 6 66 [5],zfa 7 3 0,zst 7 6 1]),(.reg [zLd 8 3 1,zst 2 8 1]),.ret])
def QzB:List (ARv × Md):=[(.l 2 1 true,.b [.p 134])]
theorem Qy3 (a:List TOp') (h :
 ((p_to (α:=List TOp') a)∧K (Qkk (List.take ((id (α:=List TOp') a).length) (id (α:=List TOp') a))))):Hold (tawp Quv (0+0) QvZ (TQ 0 0 QzB K) (Qe [(.a [(.c (.sl ctOp) a)])])) :=
 Hold.of (by kernel_rfl) h
theorem QA3 (a:List TOp') (hp:p_to (α:=List TOp') a):TCon Tryz.prog 122 [(.a [(.c (.sl ctOp) a)])] (Qkk (id (α:=List TOp') a)):=by
 refine Ql rfl fun hb=>tcg (Γ:=Quv) (n:=9) (sg:=Qkr.sg) Qk (TOkL.cons QyQ TOkL.nil) (by kernel_rfl) (by kernel_rfl) (Qy3 _ a ?_)
 repeat' (first | refine And.intro ?_ ?_ | exact R_eq (by simp))
 all_goals (simp only [p_to,QM,QS,Za,List.drop_zero,List.take_length,id_eq] at hp ⊢;omega)
theorem QGE:Qi Tryz.prog Qkr:=Qm fun x h=>QA3 x.1 h
def QaJ (t:Bool):TRes:=zre (zcb t)
def QgB:TRow:=Qg 172 [(.a ctOp),(.a ctOp)] fun x=>(none,QaJ (m_eq (α:=TOp') x.1 x.2.1))
def Ql3:TTab:=⟨[JD],false⟩
def Qvm:TCode :=
 (zsq [(.reg [zop 2 (.box 134 0 4),zop 3 (.box 134 1 4),zmv 4 (zkb false)]),(zsq [(.reg [zfa 5 2 0,zld 6 5 1,zfa 7 3 0,zld 8 7 1,zbi 9 .neq 6 8]),(.cond 9 (zsq [(.reg [zmv 4 (zkb false)]),.ret]) .skip)]),(zsq [(.reg [zfa 10 2 1,zld 11 10 1,zfa 12 3 1,zld 13 12 1,zbi 14 .neq 11 13]),(.cond 14 (zsq [(.reg [zmv 4 (zkb false)]),.ret]) .skip)]),(zsq [(.reg [zfa 15 2 2,zld 16 15 1,zfa 17 3 2,zld 18 17 1,zbi 19 .neq 16 18]),(.cond 19 (zsq [(.reg [zmv 4 (zkb false)]),.ret]) .skip)]),(zsq [(.reg [zfa 20 2 3,zld 21 20 1,zfa 22 3 3,zld 23 22 1,zca 24 23 [21,23],zno 25 24]),(.cond 25 (zsq [(.reg [zmv 4 (zkb false)]),.ret]) .skip)]),(.reg [zmv 4 (zkb true)]),.ret])
def QBZ:List (ARv × Md):=[(.t 4,.one .d)]
theorem QAw (a:TOp') (b:TOp') (h :
 (zif (a.1 != b.1) (K (QaJ false)) (zif (a.2.1 != b.2.1) (K (QaJ false)) (zif (a.2.2.1 != b.2.2.1) (K (QaJ false)) (zif (!(m_eq (α:=List Int) a.2.2.2 b.2.2.2)) (K (QaJ false)) (K (QaJ true))))))):Hold (tawp Ql3 (0+0) Qvm (TQ 0 0 QBZ K) (Qe [(.a (Tup.cells ctOp a)),(.a (Tup.cells ctOp b))])) :=
 Hold.of (by kernel_rfl) h
theorem QzG (a:TOp') (b:TOp'):TCon Tryz.prog 172 [(.a (Tup.cells ctOp a)),(.a (Tup.cells ctOp b))] (QaJ (m_eq (α:=TOp') a b)):=by
 refine Ql rfl fun hb=>tcg (Γ:=Ql3) (n:=26) (sg:=QgB.sg) Qk (TOkL.cons Qbh TOkL.nil) (by kernel_rfl) (by kernel_rfl) (QAw _ a b ?_)
 refine ⟨fun h=>R_eq (Eq.symm (decide_eq_false (by rintro rfl;simp [m_eq] at h))),fun h0=>?_⟩
 refine ⟨fun h=>R_eq (Eq.symm (decide_eq_false (by rintro rfl;simp [m_eq] at h))),fun h1=>?_⟩
 refine ⟨fun h=>R_eq (Eq.symm (decide_eq_false (by rintro rfl;simp [m_eq] at h))),fun h2=>?_⟩
 refine ⟨fun h=>R_eq (Eq.symm (decide_eq_false (by rintro rfl;simp [m_eq] at h))),fun h3=>?_⟩
 refine R_eq (Eq.symm (decide_eq_true ?_))
 simp [m_eq] at h0 h1 h2 h3
 simp [Prod.ext_iff, *]
theorem QGl:Qi Tryz.prog QgB:=Qm fun x _=>QzG x.1 x.2.1
def QaD (t:Bool):TRes:=zre (zcb t)
def Qer:TRow:=Qg 76 [(.c (.sl ctOp)),(.c (.sl ctOp))] fun x=>(none,QaD (m_eq (α:=List TOp') x.1 x.2.1))
def QfP:TTab:=⟨[QgB],false⟩
def QnD:TCode :=
 (zsq [(zsq [(.reg [zmv 11 5,zmv 12 0,zle 13 12,zbi 14 .lss 11 13]),(.cond 14 .skip (.exit 0))]),(.block 1 (zsq [(.draw [zmv 17 0,zmv 18 5,zia 19 17 18 ctOp,zLd 20 19 4,zmv 21 1,zmv 22 5,zia 23 21 22 ctOp,zLd 24 23 4,zca 25 172 [20,24],zno 26 25] []),(.cond 26 (zsq [(.reg [zmv 4 (zkb false)]),.ret]) .skip)])),(.reg [zmv 15 5,zbi 16 .add 15 (zki 1),zmv 5 16])])
def Qnk:List (Nat × Md):=zdl [0,1,5]
def QuG:TCode :=
 (zsq [(.reg [zmv 4 (zkb true)]),.ret])
def Qwu:TCode :=
 (zsq [(.reg [zmv 4 (zkb false)]),(zsq [(.reg [zmv 6 0,zle 7 6,zmv 8 1,zle 9 8,zbi 10 .neq 7 9]),(.cond 10 (zsq [(.reg [zmv 4 (zkb false)]),.ret]) .skip)]),(zsq [(.reg [zmv 5 (zki 0)]),(.block 0 (.loop Qnk QnD))]),QuG])
def Qm8:List (ARv × Md):=[(.t 4,.one .d)]
def QpY:Qb:=TQ 0 0 Qm8 K
def QHy:Qb:=Qseq (tawp QfP 0 QuG (QpY K)) (QpY K)
def QC5:Qb:=Qblk 0 (QHy K)
def Qi2 (a:List TOp') (b:List TOp') (i:Int):Prop:=Loop QfP 0 Qnk QnD (QC5 K) ⟨[(0,(zcs ctOp a)),(1,(zcs ctOp b)),(5,(zci i))],[],0⟩
theorem QH6 (a:List TOp') (b:List TOp') (i:Int) (h :
 (zif (decide (i<(a.length:Int))) ((((0:Int)≤i∧Int.toNat i<a.length)∧((0:Int)≤i∧Int.toNat i<b.length))∧(zif (!(m_eq (α:=TOp') (gtd dOp a (Int.toNat i)) (gtd dOp b (Int.toNat i)))) (K (QaD false)) (Qi2 K a b (w64 (i+(1:Int)))))) (K (QaD true)))):Qi2 K a b i :=
 Loop.of (by kernel_rfl) h
theorem Qvk (a:List TOp') (b:List TOp') (h :
 (zif ((a.length:Int) != (b.length:Int)) (K (QaD false)) (Qi2 K a b 0))):Hold (tawp QfP (0+0) Qwu (TQ 0 0 Qm8 K) (Qe [(.c (.sl ctOp) a),(.c (.sl ctOp) b)])) :=
 Hold.of (by kernel_rfl) h
theorem QC9 (a:List TOp') (b:List TOp'):TCon Tryz.prog 76 [(.c (.sl ctOp) a),(.c (.sl ctOp) b)] (QaD (m_eq (α:=List TOp') a b)):=by
 refine Ql rfl fun hb=>tcg (Γ:=QfP) (n:=27) (sg:=Qer.sg) Qk (TOkL.cons QGl TOkL.nil) (by kernel_rfl) (by kernel_rfl) (Qvk _ a b ?_)
 exact YI dOp (E:=m_eq) (fun _ _=>rfl) hb.1.1 (fun i h=>QH6 _ a b i h) (Q:=fun x=>QaD x=QaD (m_eq (α:=List TOp') a b)) rfl
theorem Qr1:Qi Tryz.prog Qer:=Qm fun x _=>QC9 x.1 x.2.1
def Qgs (t:Bool):TRes:=zre (zcb t)
def Qhd:TRow:=Qg 131 [(.a [(.sl ctOp)]),(.a [(.sl ctOp)])] fun x=>(none,Qgs (m_eq (α:=List TOp') x.1 x.2.1))
def Qtv:TTab:=⟨[Qer],false⟩
def QGi:TCode :=
 (zsq [(.reg [zop 2 (.box 77 0 1),zop 3 (.box 77 1 1),zmv 4 (zkb false)]),(zsq [(.reg [zfa 5 2 0,zld 6 5 1,zfa 7 3 0,zld 8 7 1,zca 9 76 [6,8],zno 10 9]),(.cond 10 (zsq [(.reg [zmv 4 (zkb false)]),.ret]) .skip)]),(.reg [zmv 4 (zkb true)]),.ret])
def QvO:List (ARv × Md):=[(.t 4,.one .d)]
theorem QHC (a:List TOp') (b:List TOp') (h :
 (zif (!(m_eq (α:=List TOp') a b)) (K (Qgs false)) (K (Qgs true)))):Hold (tawp Qtv (0+0) QGi (TQ 0 0 QvO K) (Qe [(.a [(.c (.sl ctOp) a)]),(.a [(.c (.sl ctOp) b)])])) :=
 Hold.of (by kernel_rfl) h
theorem QBW (a:List TOp') (b:List TOp'):TCon Tryz.prog 131 [(.a [(.c (.sl ctOp) a)]),(.a [(.c (.sl ctOp) b)])] (Qgs (m_eq (α:=List TOp') a b)):=by
 refine Ql rfl fun hb=>tcg (Γ:=Qtv) (n:=11) (sg:=Qhd.sg) Qk (TOkL.cons Qr1 TOkL.nil) (by kernel_rfl) (by kernel_rfl) (QHC _ a b ?_)
 refine ⟨fun h=>R_eq (Eq.symm (decide_eq_false (by rintro rfl;simp [m_eq] at h))),fun h0=>?_⟩
 refine R_eq (Eq.symm (decide_eq_true ?_))
 simp [m_eq] at h0
 simp [Prod.ext_iff, *]
theorem QAU:Qi Tryz.prog Qhd:=Qm fun x _=>QBW x.1 x.2.1
end
end Go.Proofs.YtdplaepmjogjjaaGreat.Am

