/- -/
import Derived.Test.YtephkbajoofeoaaWDH1
import Derived.Test.YtephkbajoofeoaaWDGF
namespace Go.Proofs.Ytephkbajoofeoaa.Am
open Go Go.RowKit Go.Proofs.Ytephkbajoofeoaa
set_option linter.all false
noncomputable section
variable (K:TRes→Prop)
def Qcc (t:Int):TRes:=zre (zci t)
def QeZ:TRow:=Qj 151 [(.a ctOp),(.c TI)] fun x=>(some (p_sz (α:=TOp') x.1 x.2.1),Qcc (m_sz (α:=TOp') x.1 x.2.1))
def QhF:TTab:=⟨[Qez],false⟩
def QrY:TCode :=
 (zsq [(.reg [zop 2 (.box 186 0 4),zmv 4 (zki 0)]),(.reg [zfa 5 2 3,zld 6 5 1,zmv 7 1,zca 8 124 [6,7],zmv 1 8]),(zsq [(.reg [zmv 9 1,zbi 10 .lss 9 (zki 0)]),(.cond 10 (zsq [(.reg [zmv 4 (zki (-1))]),.ret]) .skip)]),(.reg [zmv 11 1,zmv 4 11]),.ret])
def Qn4:List (ARv × Md):=[(.t 4,.one .d)]
theorem QlS (a:TOp') (left:Int) (h :
 ((p_sz (α:=List Int) a.2.2.2 left)∧(zif (decide ((m_sz (α:=List Int) a.2.2.2 left)<(0:Int))) (K (Qcc (-1:Int))) (K (Qcc (m_sz (α:=List Int) a.2.2.2 left)))))):Hold (tawp QhF (0+0) QrY (TQ 0 0 Qn4 K) (Qh [(.a (Tup.cells ctOp a)),(.c TI left)])) :=
 Hold.of (by kernel_rfl) h
theorem QqW (a:TOp') (left:Int) (hp:p_sz (α:=TOp') a left):TCon Try.prog 151 [(.a (Tup.cells ctOp a)),(.c TI left)] (Qcc (m_sz (α:=TOp') a left)):=by
 refine Ql rfl fun hb=>tcg (Γ:=QhF) (n:=12) (sg:=QeZ.sg) Qm (TOkL.cons Qsu TOkL.nil) (by kernel_rfl) (by kernel_rfl) (QlS _ a left ?_)
 refine ⟨hp,fun h=>R_eq (Qi6 (of_decide_eq_true h) (by first | omega | (simp only [Z6,ZT,Ju];omega)) hp.1),fun h=>?_⟩
 exact R_eq (congrArg (Zz · _) (by first | rfl | omega | (simp only [Z6,ZT,Ju];omega)))
theorem Qp0:Qi Try.prog QeZ:=Qn fun x h=>QqW x.1 x.2.1 h
def YB (t:Int):TRes:=zre (zci t)
def Qem:TRow:=Qj 82 [(.c (.sl ctOp)),(.c TI)] fun x=>(some (p_sz (α:=List TOp') x.1 x.2.1),YB (m_sz (α:=List TOp') x.1 x.2.1))
def QbS:TTab:=⟨[QeZ],false⟩
def Qkf:TCode :=
 (zsq [(zsq [(.reg [zmv 12 5,zmv 13 0,zle 14 13,zbi 15 .lss 12 14]),(.cond 15 .skip (.exit 0))]),(.block 1 (zsq [(.reg [zmv 18 0,zmv 19 5,zia 20 18 19 ctOp,zLd 21 20 4,zmv 22 1,zca 23 151 [21,22],zmv 1 23]),(.reg [zmv 24 1,zbi 25 .lss 24 (zki 0)]),(.cond 25 (zsq [(.reg [zmv 4 (zki (-1))]),.ret]) .skip)])),(.reg [zmv 16 5,zbi 17 .add 16 (zki 1),zmv 5 17])])
def QjQ:List (Nat × Md):=zdl [0,1,5]
def QgS:TCode :=
 (zsq [(.reg [zmv 26 1,zmv 4 26]),.ret])
def QqH:TCode :=
 (zsq [(.reg [zmv 4 (zki 0)]),(.reg [zmv 6 1,zmv 7 0,zle 8 7,zbi 9 .sub 6 8,zmv 1 9]),(zsq [(.reg [zmv 10 1,zbi 11 .lss 10 (zki 0)]),(.cond 11 (zsq [(.reg [zmv 4 (zki (-1))]),.ret]) .skip)]),(zsq [(.reg [zmv 5 (zki 0)]),(.block 0 (.loop QjQ Qkf))]),QgS])
def Qie:List (ARv × Md):=[(.t 4,.one .d)]
def QhW:Qc:=TQ 0 0 Qie K
def QqL:Qc:=Qseq (tawp QbS 0 QgS (QhW K)) (QhW K)
def Qny:Qc:=Qblk 0 (QqL K)
def QdU (a:List TOp') (left1:Int) (i:Int):Prop:=Loop QbS 0 QjQ Qkf (Qny K) ⟨[(0,(zcs ctOp a)),(1,(zci left1)),(5,(zci i))],[],0⟩
theorem Qo7 (a:List TOp') (left1:Int) (i:Int) (h :
 (zif (decide (i<(a.length:Int))) ((((0:Int)≤i∧Int.toNat i<a.length)∧(p_sz (α:=TOp') (gtd dOp a (Int.toNat i)) left1))∧(zif (decide ((m_sz (α:=TOp') (gtd dOp a (Int.toNat i)) left1)<(0:Int))) (K (YB (-1:Int))) (QdU K a (m_sz (α:=TOp') (gtd dOp a (Int.toNat i)) left1) (w64 (i+(1:Int)))))) (K (YB left1)))):QdU K a left1 i :=
 Loop.of (by kernel_rfl) h
theorem Qoj (a:List TOp') (left:Int) (h :
 (zif (decide ((w64 (left-(a.length:Int)))<(0:Int))) (K (YB (-1:Int))) (QdU K a (w64 (left-(a.length:Int))) 0))):Hold (tawp QbS (0+0) QqH (TQ 0 0 Qie K) (Qh [(.c (.sl ctOp) a),(.c TI left)])) :=
 Hold.of (by kernel_rfl) h
theorem QnH (a:List TOp') (left:Int) (hp:p_sz (α:=List TOp') a left):TCon Try.prog 82 [(.c (.sl ctOp) a),(.c TI left)] (YB (m_sz (α:=List TOp') a left)):=by
 refine Ql rfl fun hb=>tcg (Γ:=QbS) (n:=27) (sg:=Qem.sg) Qm (TOkL.cons Qp0 TOkL.nil) (by kernel_rfl) (by kernel_rfl) (Qoj _ a left ?_)
 exact Qr2 (Q:=fun x=>YB x=YB (m_sz (α:=List TOp') a left)) dOp hp hb.1.1 (fun l i h=>Qo7 _ a l i h) rfl
theorem Qpz:Qi Try.prog Qem:=Qn fun x h=>QnH x.1 x.2.1 h
def Qcd (t:Int):TRes:=zre (zci t)
def QcG:TRow:=Qj 63 [(.a [(.sl ctOp)]),(.c TI)] fun x=>(some (p_sz (α:=List TOp') x.1 x.2.1),Qcd (m_sz (α:=List TOp') x.1 x.2.1))
def Qld:TTab:=⟨[Qem],false⟩
def Qq1:TCode :=
 (zsq [(.reg [zop 2 (.box 94 0 1),zmv 4 (zki 0)]),(.reg [zfa 5 2 0,zld 6 5 1,zmv 7 1,zca 8 82 [6,7],zmv 1 8]),(zsq [(.reg [zmv 9 1,zbi 10 .lss 9 (zki 0)]),(.cond 10 (zsq [(.reg [zmv 4 (zki (-1))]),.ret]) .skip)]),(.reg [zmv 11 1,zmv 4 11]),.ret])
def Qn5:List (ARv × Md):=[(.t 4,.one .d)]
theorem QsB (a:List TOp') (left:Int) (h :
 ((p_sz (α:=List TOp') a left)∧(zif (decide ((m_sz (α:=List TOp') a left)<(0:Int))) (K (Qcd (-1:Int))) (K (Qcd (m_sz (α:=List TOp') a left)))))):Hold (tawp Qld (0+0) Qq1 (TQ 0 0 Qn5 K) (Qh [(.a [(.c (.sl ctOp) a)]),(.c TI left)])) :=
 Hold.of (by kernel_rfl) h
theorem Qmj (a:List TOp') (left:Int) (hp:p_sz (α:=List TOp') a left):TCon Try.prog 63 [(.a [(.c (.sl ctOp) a)]),(.c TI left)] (Qcd (m_sz (α:=List TOp') a left)):=by
 refine Ql rfl fun hb=>tcg (Γ:=Qld) (n:=12) (sg:=QcG.sg) Qm (TOkL.cons Qpz TOkL.nil) (by kernel_rfl) (by kernel_rfl) (QsB _ a left ?_)
 refine ⟨hp,fun h=>R_eq (Qi6 (of_decide_eq_true h) (by first | omega | (simp only [Z6,ZT,Ju];omega)) hp.1),fun h=>?_⟩
 exact R_eq (congrArg (Zz · _) (by first | rfl | omega | (simp only [Z6,ZT,Ju];omega)))
theorem Qo5:Qi Try.prog QcG:=Qn fun x h=>Qmj x.1 x.2.1 h
def QeR (t:TOp'):TRes:=⟨(.a [(zci t.1),(zci t.2.1),(zci t.2.2.1),(.r [TI] 0 0 ((t.2.2.2).length))]),[(.sl 3 [TI] (.dp 0 true []) t.2.2.2)],[],false,[]⟩
def Qda:TRow:=Qj 154 [(.a ctOp)] fun x=>(some (p_to (α:=TOp') x.1),QeR (id (α:=TOp') x.1))
def Qlk:TTab:=⟨[Qdx],true⟩
def Qs1:TCode :=
 (zsq [(.reg [zop 1 (.box 186 0 4),zop 2 (.new 76 (z0s ctOp))]),(.reg [zop 3 (.new 76 (z0s ctOp))]),(.reg [zfa 4 1 0,zld 5 4 1,zfa 6 3 0,zst 6 5 1]),(.reg [zfa 7 1 1,zld 8 7 1,zfa 9 3 1,zst 9 8 1]),(.reg [zfa 10 1 2,zld 11 10 1,zfa 12 3 2,zst 12 11 1]),(.reg [zfa 13 1 3,zld 14 13 1,zca 15 127 [14],zfa 16 3 3,zst 16 15 1]),(.reg [zLd 17 3 4,zst 2 17 4]),.ret])
def Qsf:List (ARv × Md):=[(.l 2 4 true,.b [.d,.d,.d,.p 3])]
theorem Qqm (a:TOp') (h :
 ((p_to (α:=List Int) a.2.2.2)∧K (QeR (a.1,a.2.1,a.2.2.1,(List.take ((id (α:=List Int) a.2.2.2).length) (id (α:=List Int) a.2.2.2)))))):Hold (tawp Qlk (0+0) Qs1 (TQ 0 0 Qsf K) (Qh [(.a (Tup.cells ctOp a))])) :=
 Hold.of (by kernel_rfl) h
theorem Qo6 (a:TOp') (hp:p_to (α:=TOp') a):TCon Try.prog 154 [(.a (Tup.cells ctOp a))] (QeR (id (α:=TOp') a)):=by
 refine Ql rfl fun hb=>tcg (Γ:=Qlk) (n:=18) (sg:=Qda.sg) Qm (TOkL.cons QnV TOkL.nil) (by kernel_rfl) (by kernel_rfl) (Qqm _ a ?_)
 repeat' (first | refine And.intro ?_ ?_ | exact R_eq (by simp))
 all_goals (simp only [p_to,Z6,ZT,Ju,List.drop_zero,List.take_length,id_eq] at hp ⊢;omega)
theorem QlG:Qi Try.prog Qda:=Qn fun x h=>Qo6 x.1 h
def Yh (t:(List TOp')):TRes:=⟨(.r ctOp 0 0 t.length),[(.sl 76 ctOp (.dp 0 true []) t)],[],false,[]⟩
def QdM:TRow:=Qj 84 [(.c (.sl ctOp))] fun x=>(some (p_to (α:=List TOp') x.1),Yh (id (α:=List TOp') x.1))
def Qbs:TTab:=⟨[Qda],true⟩
def QgE:TCode :=
 (zsq [(zsq [(.reg [zmv 8 4,zmv 9 0,zle 10 9,zbi 11 .lss 8 10]),(.cond 11 .skip (.exit 0))]),(.block 1 (.reg [zmv 14 3,zmv 15 4,zmv 16 0,zmv 17 4,zia 18 16 17 ctOp,zLd 19 18 4,zca 20 154 [19],zia 21 14 15 ctOp,zst 21 20 4])),(.reg [zmv 12 4,zbi 13 .add 12 (zki 1),zmv 4 13])])
def QgV:List (Nat × Md):=[(0,.one .d),(3,.one .f),(4,.one .d)]
def QkP:TCode :=
 (zsq [(.reg [zmv 22 3,zmv 2 22]),.ret])
def QmH:TCode :=
 (zsq [(.reg [zmv 2 (.k (.n ctOp))]),(.reg [zmv 5 0,zle 6 5,zop 7 (.mk 76 ctOp (z0s ctOp) 6),zmv 3 7]),(zsq [(.reg [zmv 4 (zki 0)]),(.block 0 (.loop QgV QgE))]),QkP])
def Qj5:List (ARv × Md):=[(.t 2,.one (.p 76))]
def QiB:Qc:=TQ 0 0 Qj5 K
def QpI:Qc:=Qseq (tawp Qbs 0 QkP (QiB K)) (QiB K)
def Qsx:Qc:=Qblk 0 (QpI K)
def Qbw (a:List TOp') (i:Int) (out:List TOp'):Prop:=Loop Qbs 0 QgV QgE (Qsx K) ⟨[(0,(zcs ctOp a)),(3,(.r ctOp 0 0 out.length)),(4,(zci i))],[(0,(.sl 76 ctOp (.dp 0 true []) out))],1⟩
theorem Qgw (a:List TOp') (i:Int) (out:List TOp') (h :
 (zif (decide (i<(a.length:Int))) ((((0:Int)≤i∧Int.toNat i<a.length)∧((p_to (α:=TOp') (gtd dOp a (Int.toNat i)))∧(((0:Int)≤i∧Int.toNat i<out.length)∧((0+(Int.toNat i))<out.length))))∧(Qbw K a (w64 (i+(1:Int))) (List.take out.length ((out).set (0+(Int.toNat i)) ((id (α:=TOp') (gtd dOp a (Int.toNat i))).1,(id (α:=TOp') (gtd dOp a (Int.toNat i))).2.1,(id (α:=TOp') (gtd dOp a (Int.toNat i))).2.2.1,(List.take (((id (α:=TOp') (gtd dOp a (Int.toNat i))).2.2.2).length) (List.drop 0 ((id (α:=TOp') (gtd dOp a (Int.toNat i))).2.2.2)))))))) (K (Yh (List.take out.length out))))):Qbw K a i out :=
 Loop.of (by kernel_rfl) h
theorem Qpw (a:List TOp') (h :
 (((0:Int)≤(a.length:Int)∧(a.length:Int)≤big)∧(Qbw K a 0 (List.take (Int.toNat (a.length:Int)) (List.replicate (Int.toNat (a.length:Int)) ((0:Int),(0:Int),(0:Int),[])))))):Hold (tawp Qbs (0+0) QmH (TQ 0 0 Qj5 K) (Qh [(.c (.sl ctOp) a)])) :=
 Hold.of (by kernel_rfl) h
theorem QsG (a:List TOp') (hp:p_to (α:=List TOp') a):TCon Try.prog 84 [(.c (.sl ctOp) a)] (Yh (id (α:=List TOp') a)):=by
 refine Ql rfl fun hb=>tcg (Γ:=Qbs) (n:=23) (sg:=QdM.sg) Qm (TOkL.cons QlG TOkL.nil) (by kernel_rfl) (by kernel_rfl) (Qpw _ a ?_)
 refine ⟨⟨by omega,by rw [bigI];have:=QbQ hp;omega⟩,?_⟩
 refine Qkv a (A:=fun ii ll=>Qbw (fun r'=>r'=Yh (id (α:=List TOp') a)) a ii ll) (Q:=fun z=>Yh z=Yh (id (α:=List TOp') a)) hp ?_ ?_ rfl
 ·intro k x out hlt hg ho hx hA
  have hw:w64 (((k:Nat):Int)+1)=((k+1:Nat):Int):=by have:=QbQ hp;rw [Qr (by omega) (by omega)];omega
  have hlo:k<out.length:=by omega
  refine Qgw (fun r'=>r'=Yh (id (α:=List TOp') a)) a ((k:Nat):Int) out ?_
  refine ⟨fun _=>?_,fun h=>absurd h (by simp;omega)⟩
  simp only [Int.toNat_natCast,Nat.zero_add,hg,hw,hlt,hlo,QfV,List.drop_zero,List.take_length,id_eq,and_true,true_and,Int.natCast_nonneg]
  first | exact hA | exact ⟨hx,hA⟩
 ·intro out ho hq
  refine Qgw (fun r'=>r'=Yh (id (α:=List TOp') a)) a ((a.length:Nat):Int) out ?_
  refine ⟨fun h=>absurd h (by simp),fun _=>?_⟩
  simp only [List.drop_zero,List.take_length]
  exact hq
theorem Qm5:Qi Try.prog QdM:=Qn fun x h=>QsG x.1 h
def QeL (t:(List TOp')):TRes:=⟨(.a [(.r ctOp 0 0 t.length)]),[(.sl 76 ctOp (.dp 0 true []) t)],[],false,[]⟩
def QeW:TRow:=Qj 65 [(.a [(.sl ctOp)])] fun x=>(some (p_to (α:=List TOp') x.1),QeL (id (α:=List TOp') x.1))
def Qh0:TTab:=⟨[QdM],true⟩
def QqO:TCode :=
 (zsq [(.reg [zop 1 (.box 94 0 1),zop 2 (.new 66 [(.n ctOp)])]),(.reg [zop 3 (.new 66 [(.n ctOp)])]),(.reg [zfa 4 1 0,zld 5 4 1,zca 6 84 [5],zfa 7 3 0,zst 7 6 1]),(.reg [zLd 8 3 1,zst 2 8 1]),.ret])
def QpF:List (ARv × Md):=[(.l 2 1 true,.b [.p 76])]
theorem QqC (a:List TOp') (h :
 ((p_to (α:=List TOp') a)∧K (QeL (List.take ((id (α:=List TOp') a).length) (id (α:=List TOp') a))))):Hold (tawp Qh0 (0+0) QqO (TQ 0 0 QpF K) (Qh [(.a [(.c (.sl ctOp) a)])])) :=
 Hold.of (by kernel_rfl) h
theorem Qsp (a:List TOp') (hp:p_to (α:=List TOp') a):TCon Try.prog 65 [(.a [(.c (.sl ctOp) a)])] (QeL (id (α:=List TOp') a)):=by
 refine Ql rfl fun hb=>tcg (Γ:=Qh0) (n:=9) (sg:=QeW.sg) Qm (TOkL.cons Qm5 TOkL.nil) (by kernel_rfl) (by kernel_rfl) (QqC _ a ?_)
 repeat' (first | refine And.intro ?_ ?_ | exact R_eq (by simp))
 all_goals (simp only [p_to,Z6,ZT,Ju,List.drop_zero,List.take_length,id_eq] at hp ⊢;omega)
theorem Qsi:Qi Try.prog QeW:=Qn fun x h=>Qsp x.1 h
def YG (t:Bool):TRes:=zre (zcb t)
def QeS:TRow:=Qj 159 [(.a ctOp),(.a ctOp)] fun x=>(none,YG (m_eq (α:=TOp') x.1 x.2.1))
def Qhk:TTab:=⟨[QaZ],false⟩
def Qou:TCode :=
 (zsq [(.reg [zop 2 (.box 76 0 4),zop 3 (.box 76 1 4),zmv 4 (zkb false)]),(zsq [(.reg [zfa 5 2 0,zld 6 5 1,zfa 7 3 0,zld 8 7 1,zbi 9 .neq 6 8]),(.cond 9 (zsq [(.reg [zmv 4 (zkb false)]),.ret]) .skip)]),(zsq [(.reg [zfa 10 2 1,zld 11 10 1,zfa 12 3 1,zld 13 12 1,zbi 14 .neq 11 13]),(.cond 14 (zsq [(.reg [zmv 4 (zkb false)]),.ret]) .skip)]),(zsq [(.reg [zfa 15 2 2,zld 16 15 1,zfa 17 3 2,zld 18 17 1,zbi 19 .neq 16 18]),(.cond 19 (zsq [(.reg [zmv 4 (zkb false)]),.ret]) .skip)]),(zsq [(.reg [zfa 20 2 3,zld 21 20 1,zfa 22 3 3,zld 23 22 1,zca 24 66 [21,23],zno 25 24]),(.cond 25 (zsq [(.reg [zmv 4 (zkb false)]),.ret]) .skip)]),(.reg [zmv 4 (zkb true)]),.ret])
def Qob:List (ARv × Md):=[(.t 4,.one .d)]
theorem Qrv (a:TOp') (b:TOp') (h :
 (zif (a.1 != b.1) (K (YG false)) (zif (a.2.1 != b.2.1) (K (YG false)) (zif (a.2.2.1 != b.2.2.1) (K (YG false)) (zif (!(m_eq (α:=List Int) a.2.2.2 b.2.2.2)) (K (YG false)) (K (YG true))))))):Hold (tawp Qhk (0+0) Qou (TQ 0 0 Qob K) (Qh [(.a (Tup.cells ctOp a)),(.a (Tup.cells ctOp b))])) :=
 Hold.of (by kernel_rfl) h
theorem QsH (a:TOp') (b:TOp'):TCon Try.prog 159 [(.a (Tup.cells ctOp a)),(.a (Tup.cells ctOp b))] (YG (m_eq (α:=TOp') a b)):=by
 refine Ql rfl fun hb=>tcg (Γ:=Qhk) (n:=26) (sg:=QeS.sg) Qm (TOkL.cons Qiu TOkL.nil) (by kernel_rfl) (by kernel_rfl) (Qrv _ a b ?_)
 refine ⟨fun h=>R_eq (Eq.symm (decide_eq_false (by rintro rfl;simp [m_eq] at h))),fun h0=>?_⟩
 refine ⟨fun h=>R_eq (Eq.symm (decide_eq_false (by rintro rfl;simp [m_eq] at h))),fun h1=>?_⟩
 refine ⟨fun h=>R_eq (Eq.symm (decide_eq_false (by rintro rfl;simp [m_eq] at h))),fun h2=>?_⟩
 refine ⟨fun h=>R_eq (Eq.symm (decide_eq_false (by rintro rfl;simp [m_eq] at h))),fun h3=>?_⟩
 refine R_eq (Eq.symm (decide_eq_true ?_))
 simp [m_eq] at h0 h1 h2 h3
 simp [Prod.ext_iff, *]
theorem QrV:Qi Try.prog QeS:=Qn fun x _=>QsH x.1 x.2.1
def YZ (t:Bool):TRes:=zre (zcb t)
def QdI:TRow:=Qj 87 [(.c (.sl ctOp)),(.c (.sl ctOp))] fun x=>(none,YZ (m_eq (α:=List TOp') x.1 x.2.1))
def Qbj:TTab:=⟨[QeS],false⟩
def Qhm:TCode :=
 (zsq [(zsq [(.reg [zmv 11 5,zmv 12 0,zle 13 12,zbi 14 .lss 11 13]),(.cond 14 .skip (.exit 0))]),(.block 1 (zsq [(.draw [zmv 17 0,zmv 18 5,zia 19 17 18 ctOp,zLd 20 19 4,zmv 21 1,zmv 22 5,zia 23 21 22 ctOp,zLd 24 23 4,zca 25 159 [20,24],zno 26 25] []),(.cond 26 (zsq [(.reg [zmv 4 (zkb false)]),.ret]) .skip)])),(.reg [zmv 15 5,zbi 16 .add 15 (zki 1),zmv 5 16])])
def Qfe:List (Nat × Md):=zdl [0,1,5]
def QkT:TCode :=
 (zsq [(.reg [zmv 4 (zkb true)]),.ret])
def QlR:TCode :=
 (zsq [(.reg [zmv 4 (zkb false)]),(zsq [(.reg [zmv 6 0,zle 7 6,zmv 8 1,zle 9 8,zbi 10 .neq 7 9]),(.cond 10 (zsq [(.reg [zmv 4 (zkb false)]),.ret]) .skip)]),(zsq [(.reg [zmv 5 (zki 0)]),(.block 0 (.loop Qfe Qhm))]),QkT])
def QjU:List (ARv × Md):=[(.t 4,.one .d)]
def QfE:Qc:=TQ 0 0 QjU K
def Qmo:Qc:=Qseq (tawp Qbj 0 QkT (QfE K)) (QfE K)
def Qol:Qc:=Qblk 0 (Qmo K)
def QdS (a:List TOp') (b:List TOp') (i:Int):Prop:=Loop Qbj 0 Qfe Qhm (Qol K) ⟨[(0,(zcs ctOp a)),(1,(zcs ctOp b)),(5,(zci i))],[],0⟩
theorem QlE (a:List TOp') (b:List TOp') (i:Int) (h :
 (zif (decide (i<(a.length:Int))) ((((0:Int)≤i∧Int.toNat i<a.length)∧((0:Int)≤i∧Int.toNat i<b.length))∧(zif (!(m_eq (α:=TOp') (gtd dOp a (Int.toNat i)) (gtd dOp b (Int.toNat i)))) (K (YZ false)) (QdS K a b (w64 (i+(1:Int)))))) (K (YZ true)))):QdS K a b i :=
 Loop.of (by kernel_rfl) h
theorem QnB (a:List TOp') (b:List TOp') (h :
 (zif ((a.length:Int) != (b.length:Int)) (K (YZ false)) (QdS K a b 0))):Hold (tawp Qbj (0+0) QlR (TQ 0 0 QjU K) (Qh [(.c (.sl ctOp) a),(.c (.sl ctOp) b)])) :=
 Hold.of (by kernel_rfl) h
theorem Qnb (a:List TOp') (b:List TOp'):TCon Try.prog 87 [(.c (.sl ctOp) a),(.c (.sl ctOp) b)] (YZ (m_eq (α:=List TOp') a b)):=by
 refine Ql rfl fun hb=>tcg (Γ:=Qbj) (n:=27) (sg:=QdI.sg) Qm (TOkL.cons QrV TOkL.nil) (by kernel_rfl) (by kernel_rfl) (QnB _ a b ?_)
 exact QkA dOp (E:=m_eq) (fun _ _=>rfl) hb.1.1 (fun i h=>QlE _ a b i h) (Q:=fun x=>YZ x=YZ (m_eq (α:=List TOp') a b)) rfl
theorem Qpo:Qi Try.prog QdI:=Qn fun x _=>Qnb x.1 x.2.1
def Qcq (t:Bool):TRes:=zre (zcb t)
def QcN:TRow:=Qj 67 [(.a [(.sl ctOp)]),(.a [(.sl ctOp)])] fun x=>(none,Qcq (m_eq (α:=List TOp') x.1 x.2.1))
def Qjz:TTab:=⟨[QdI],false⟩
def Qrg:TCode :=
 (zsq [(.reg [zop 2 (.box 66 0 1),zop 3 (.box 66 1 1),zmv 4 (zkb false)]),(zsq [(.reg [zfa 5 2 0,zld 6 5 1,zfa 7 3 0,zld 8 7 1,zca 9 87 [6,8],zno 10 9]),(.cond 10 (zsq [(.reg [zmv 4 (zkb false)]),.ret]) .skip)]),(.reg [zmv 4 (zkb true)]),.ret])
def Qoy:List (ARv × Md):=[(.t 4,.one .d)]
theorem Qn2 (a:List TOp') (b:List TOp') (h :
 (zif (!(m_eq (α:=List TOp') a b)) (K (Qcq false)) (K (Qcq true)))):Hold (tawp Qjz (0+0) Qrg (TQ 0 0 Qoy K) (Qh [(.a [(.c (.sl ctOp) a)]),(.a [(.c (.sl ctOp) b)])])) :=
 Hold.of (by kernel_rfl) h
theorem Qr8 (a:List TOp') (b:List TOp'):TCon Try.prog 67 [(.a [(.c (.sl ctOp) a)]),(.a [(.c (.sl ctOp) b)])] (Qcq (m_eq (α:=List TOp') a b)):=by
 refine Ql rfl fun hb=>tcg (Γ:=Qjz) (n:=11) (sg:=QcN.sg) Qm (TOkL.cons Qpo TOkL.nil) (by kernel_rfl) (by kernel_rfl) (Qn2 _ a b ?_)
 refine ⟨fun h=>R_eq (Eq.symm (decide_eq_false (by rintro rfl;simp [m_eq] at h))),fun h0=>?_⟩
 refine R_eq (Eq.symm (decide_eq_true ?_))
 simp [m_eq] at h0
 simp [Prod.ext_iff, *]
theorem Qn0:Qi Try.prog QcN:=Qn fun x _=>Qr8 x.1 x.2.1
end
end Go.Proofs.Ytephkbajoofeoaa.Am

