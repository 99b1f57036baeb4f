/- -/
import Derived.Test.YtdplaepmjogjjaaGreatVCGF
namespace Go.Proofs.YtdplaepmjogjjaaGreat.Am
open Go Go.RowKit Go.Proofs.YtdplaepmjogjjaaGreat
set_option linter.all false
noncomputable section
variable (K:TRes→Prop)
def Qbb (t:Int):TRes:=zre (zci t)
def QbS:TRow:=Qg 59 [(.c (.sl [TI])),(.c TI)] fun x=>(some (p_sz (α:=List Int) x.1 x.2.1),Qbb (m_sz (α:=List Int) x.1 x.2.1))
def QqB:TTab:=⟨[],false⟩
def QEM:TCode :=
 (zsq [(.reg [zmv 4 (zki 0)]),(.reg [zmv 5 1,zmv 6 0,zle 7 6,zbi 8 .sub 5 7,zmv 1 8]),(zsq [(.reg [zmv 9 1,zbi 10 .lss 9 (zki 0)]),(.cond 10 (zsq [(.reg [zmv 4 (zki (-1))]),.ret]) .skip)]),(.reg [zmv 11 1,zmv 4 11]),.ret])
def QxP:List (ARv × Md):=[(.t 4,.one .d)]
theorem Qv7 (a:List Int) (left:Int) (h :
 (zif (decide ((w64 (left-(a.length:Int)))<(0:Int))) (K (Qbb (-1:Int))) (K (Qbb (w64 (left-(a.length:Int))))))):Hold (tawp QqB (0+0) QEM (TQ 0 0 QxP K) (Qd [(.c (.sl [TI]) a),(.c TI left)])) :=
 Hold.of (by kernel_rfl) h
theorem QAu (a:List Int) (left:Int) (hp:p_sz (α:=List Int) a left):TCon Tryz.prog 59 [(.c (.sl [TI]) a),(.c TI left)] (Qbb (m_sz (α:=List Int) a left)):=by
 refine Qi rfl fun hb=>tcg (Γ:=QqB) (n:=12) (sg:=QbS.sg) Qj TOkL.nil (by kernel_rfl) (by kernel_rfl) (Qv7 _ a left ?_)
 exact Qkr (Q:=fun x=>Qbb x=Qbb (m_sz (α:=List Int) a left)) (fun _=>rfl) hp hb.1.1 rfl
theorem QjX:Qe Tryz.prog QbS:=Qk fun x h=>QAu x.1 x.2.1 h
def Qdl (t:Int):TRes:=zre (zci t)
def Qis:TRow:=Qg 154 [(.a [(.sl [TI])]),(.c TI)] fun x=>(some (p_sz (α:=List Int) x.1 x.2.1),Qdl (m_sz (α:=List Int) x.1 x.2.1))
def QqZ:TTab:=⟨[QbS],false⟩
def QHx:TCode :=
 (zsq [(.reg [zop 2 (.box 189 0 1),zmv 4 (zki 0)]),(.reg [zfa 5 2 0,zld 6 5 1,zmv 7 1,zca 8 59 [6,7],zmv 1 8]),(zsq [(.reg [zmv 9 1,zbi 10 .lss 9 (zki 0)]),(.cond 10 (zsq [(.reg [zmv 4 (zki (-1))]),.ret]) .skip)]),(.reg [zmv 11 1,zmv 4 11]),.ret])
def QBC:List (ARv × Md):=[(.t 4,.one .d)]
theorem QH3 (a:List Int) (left:Int) (h :
 ((p_sz (α:=List Int) a left)∧(zif (decide ((m_sz (α:=List Int) a left)<(0:Int))) (K (Qdl (-1:Int))) (K (Qdl (m_sz (α:=List Int) a left)))))):Hold (tawp QqZ (0+0) QHx (TQ 0 0 QBC K) (Qd [(.a [(.c (.sl [TI]) a)]),(.c TI left)])) :=
 Hold.of (by kernel_rfl) h
theorem Qxt (a:List Int) (left:Int) (hp:p_sz (α:=List Int) a left):TCon Tryz.prog 154 [(.a [(.c (.sl [TI]) a)]),(.c TI left)] (Qdl (m_sz (α:=List Int) a left)):=by
 refine Qi rfl fun hb=>tcg (Γ:=QqZ) (n:=12) (sg:=Qis.sg) Qj (TOkL.cons QjX TOkL.nil) (by kernel_rfl) (by kernel_rfl) (QH3 _ a left ?_)
 refine ⟨hp,fun h=>R_eq (Yd (of_decide_eq_true h) (by first | omega | (simp only [QX,QV,Q5];omega)) hp.1),fun h=>?_⟩
 exact R_eq (congrArg (ZO · _) (by first | rfl | omega | (simp only [QX,QV,Q5];omega)))
theorem QEz:Qe Tryz.prog Qis:=Qk fun x h=>Qxt x.1 x.2.1 h
def Qah (t:Int):TRes:=zre (zci t)
def QcK:TRow:=Qg 58 [(.c (.sl [(.sl [TI])])),(.c TI)] fun x=>(some (p_sz (α:=List (List Int)) x.1 x.2.1),Qah (m_sz (α:=List (List Int)) x.1 x.2.1))
def QeZ:TTab:=⟨[Qis],false⟩
def Qnd:TCode :=
 (zsq [(zsq [(.reg [zmv 12 5,zmv 13 0,zle 14 13,zbi 15 .lss 12 14]),(.cond 15 .skip (.exit 0))]),(.block 1 (zsq [(.reg [zmv 18 0,zmv 19 5,zia 20 18 19 [(.sl [TI])],zLd 21 20 1,zmv 22 1,zca 23 154 [21,22],zmv 1 23]),(.reg [zmv 24 1,zbi 25 .lss 24 (zki 0)]),(.cond 25 (zsq [(.reg [zmv 4 (zki (-1))]),.ret]) .skip)])),(.reg [zmv 16 5,zbi 17 .add 16 (zki 1),zmv 5 17])])
def QqO:List (Nat × Md):=zdl [0,1,5]
def Qp1:TCode :=
 (zsq [(.reg [zmv 26 1,zmv 4 26]),.ret])
def QyK:TCode :=
 (zsq [(.reg [zmv 4 (zki 0)]),(.reg [zmv 6 1,zmv 7 0,zle 8 7,zbi 9 .sub 6 8,zmv 1 9]),(zsq [(.reg [zmv 10 1,zbi 11 .lss 10 (zki 0)]),(.cond 11 (zsq [(.reg [zmv 4 (zki (-1))]),.ret]) .skip)]),(zsq [(.reg [zmv 5 (zki 0)]),(.block 0 (.loop QqO Qnd))]),Qp1])
def Qqw:List (ARv × Md):=[(.t 4,.one .d)]
def QkY:Qb:=TQ 0 0 Qqw K
def QGB:Qb:=Qseq (tawp QeZ 0 Qp1 (QkY K)) (QkY K)
def Qys:Qb:=Qblk 0 (QGB K)
def Qiw (a:List (List Int)) (left1:Int) (i:Int):Prop:=Loop QeZ 0 QqO Qnd (Qys K) ⟨[(0,(zcs [(.sl [TI])] a)),(1,(zci left1)),(5,(zci i))],[],0⟩
theorem QGF (a:List (List Int)) (left1:Int) (i:Int) (h :
 (zif (decide (i<(a.length:Int))) ((((0:Int)≤i∧Int.toNat i<a.length)∧(p_sz (α:=List Int) (gtd ([]:List Int) a (Int.toNat i)) left1))∧(zif (decide ((m_sz (α:=List Int) (gtd ([]:List Int) a (Int.toNat i)) left1)<(0:Int))) (K (Qah (-1:Int))) (Qiw K a (m_sz (α:=List Int) (gtd ([]:List Int) a (Int.toNat i)) left1) (w64 (i+(1:Int)))))) (K (Qah left1)))):Qiw K a left1 i :=
 Loop.of (by kernel_rfl) h
theorem Qwl (a:List (List Int)) (left:Int) (h :
 (zif (decide ((w64 (left-(a.length:Int)))<(0:Int))) (K (Qah (-1:Int))) (Qiw K a (w64 (left-(a.length:Int))) 0))):Hold (tawp QeZ (0+0) QyK (TQ 0 0 Qqw K) (Qd [(.c (.sl [(.sl [TI])]) a),(.c TI left)])) :=
 Hold.of (by kernel_rfl) h
theorem QH6 (a:List (List Int)) (left:Int) (hp:p_sz (α:=List (List Int)) a left):TCon Tryz.prog 58 [(.c (.sl [(.sl [TI])]) a),(.c TI left)] (Qah (m_sz (α:=List (List Int)) a left)):=by
 refine Qi rfl fun hb=>tcg (Γ:=QeZ) (n:=27) (sg:=QcK.sg) Qj (TOkL.cons QEz TOkL.nil) (by kernel_rfl) (by kernel_rfl) (Qwl _ a left ?_)
 exact QhK (Q:=fun x=>Qah x=Qah (m_sz (α:=List (List Int)) a left)) ([]:List Int) hp hb.1.1 (fun l i h=>QGF _ a l i h) rfl
theorem Qki:Qe Tryz.prog QcK:=Qk fun x h=>QH6 x.1 x.2.1 h
def QeF (t:Int):TRes:=zre (zci t)
def Qf3:TRow:=Qg 60 [(.a Zj),(.c TI)] fun x=>(some (p_sz (α:=Qy) x.1 x.2.1),QeF (m_sz (α:=Qy) x.1 x.2.1))
def Qrp:TTab:=⟨[QcK],false⟩
def QyH:TCode :=
 (zsq [(.reg [zop 2 (.box 28 0 3),zmv 4 (zki 0)]),(.reg [zfa 5 2 0,zld 6 5 1,zmv 7 1,zca 8 58 [6,7],zmv 1 8]),(zsq [(.reg [zmv 9 1,zbi 10 .lss 9 (zki 0)]),(.cond 10 (zsq [(.reg [zmv 4 (zki (-1))]),.ret]) .skip)]),(.reg [zmv 11 1,zmv 4 11]),.ret])
def QG1:List (ARv × Md):=[(.t 4,.one .d)]
theorem QzT (a:Qy) (left:Int) (h :
 ((p_sz (α:=List (List Int)) a.1 left)∧(zif (decide ((m_sz (α:=List (List Int)) a.1 left)<(0:Int))) (K (QeF (-1:Int))) (K (QeF (m_sz (α:=List (List Int)) a.1 left)))))):Hold (tawp Qrp (0+0) QyH (TQ 0 0 QG1 K) (Qd [(.a (Tup.cells Zj a)),(.c TI left)])) :=
 Hold.of (by kernel_rfl) h
theorem QGG (a:Qy) (left:Int) (hp:p_sz (α:=Qy) a left):TCon Tryz.prog 60 [(.a (Tup.cells Zj a)),(.c TI left)] (QeF (m_sz (α:=Qy) a left)):=by
 refine Qi rfl fun hb=>tcg (Γ:=Qrp) (n:=12) (sg:=Qf3.sg) Qj (TOkL.cons Qki TOkL.nil) (by kernel_rfl) (by kernel_rfl) (QzT _ a left ?_)
 refine ⟨hp,fun h=>R_eq (Yd (of_decide_eq_true h) (by first | omega | (simp only [QX,QV,Q5];omega)) hp.1),fun h=>?_⟩
 exact R_eq (congrArg (ZO · _) (by first | rfl | omega | (simp only [QX,QV,Q5];omega)))
theorem Quz:Qe Tryz.prog Qf3:=Qk fun x h=>QGG x.1 x.2.1 h
def JN (t:(List Int)):TRes:=⟨(.r [TI] 0 0 t.length),[(.sl 3 [TI] (.dp 0 true []) t)],[],false,[]⟩
def QbA:TRow:=Qg 29 [(.c (.sl [TI]))] fun x=>(some (p_to (α:=List Int) x.1),JN (id (α:=List Int) x.1))
def Qeq:TTab:=⟨[],true⟩
def Qlo:TCode :=
 (zsq [(zsq [(.reg [zmv 8 4,zmv 9 0,zle 10 9,zbi 11 .lss 8 10]),(.cond 11 .skip (.exit 0))]),(.block 1 (.reg [zmv 14 3,zmv 15 4,zmv 16 0,zmv 17 4,zia 18 16 17 [TI],zld 19 18 1,zia 20 14 15 [TI],zst 20 19 1])),(.reg [zmv 12 4,zbi 13 .add 12 (zki 1),zmv 4 13])])
def Qqf:List (Nat × Md):=[(0,.one .d),(3,.one .f),(4,.one .d)]
def QpI:TCode :=
 (zsq [(.reg [zmv 21 3,zmv 2 21]),.ret])
def QHP:TCode :=
 (zsq [(.reg [zmv 2 (.k (.n [TI]))]),(.reg [zmv 5 0,zle 6 5,zop 7 (.mk 3 [TI] [(zci 0)] 6),zmv 3 7]),(zsq [(.reg [zmv 4 (zki 0)]),(.block 0 (.loop Qqf Qlo))]),QpI])
def Qqj:List (ARv × Md):=[(.t 2,.one (.p 3))]
def Qs8:Qb:=TQ 0 0 Qqj K
def QEq:Qb:=Qseq (tawp Qeq 0 QpI (Qs8 K)) (Qs8 K)
def QGW:Qb:=Qblk 0 (QEq K)
def Qff (a:List Int) (i:Int) (out:List Int):Prop:=Loop Qeq 0 Qqf Qlo (QGW K) ⟨[(0,(zcs [TI] a)),(3,(.r [TI] 0 0 out.length)),(4,(zci i))],[(0,(.sl 3 [TI] (.dp 0 true []) out))],1⟩
theorem Qkv (a:List Int) (i:Int) (out:List Int) (h :
 (zif (decide (i<(a.length:Int))) ((((0:Int)≤i∧Int.toNat i<a.length)∧(((0:Int)≤i∧Int.toNat i<out.length)∧((0+(Int.toNat i))<out.length)))∧(Qff K a (w64 (i+(1:Int))) (List.take out.length ((out).set (0+(Int.toNat i)) (gtd (0:Int) a (Int.toNat i)))))) (K (JN (List.take out.length out))))):Qff K a i out :=
 Loop.of (by kernel_rfl) h
theorem QAi (a:List Int) (h :
 (((0:Int)≤(a.length:Int)∧(a.length:Int)≤big)∧(Qff K a 0 (List.take (Int.toNat (a.length:Int)) (List.replicate (Int.toNat (a.length:Int)) (0:Int)))))):Hold (tawp Qeq (0+0) QHP (TQ 0 0 Qqj K) (Qd [(.c (.sl [TI]) a)])) :=
 Hold.of (by kernel_rfl) h
theorem QAo (a:List Int) (hp:p_to (α:=List Int) a):TCon Tryz.prog 29 [(.c (.sl [TI]) a)] (JN (id (α:=List Int) a)):=by
 refine Qi rfl fun hb=>tcg (Γ:=Qeq) (n:=22) (sg:=QbA.sg) Qj TOkL.nil (by kernel_rfl) (by kernel_rfl) (QAi _ a ?_)
 refine ⟨⟨by omega,by rw [bigI];have:=YF hp;omega⟩,?_⟩
 refine QbW a (A:=fun ii ll=>Qff (fun r'=>r'=JN (id (α:=List Int) a)) a ii ll) (Q:=fun z=>JN z=JN (id (α:=List Int) a)) hp ?_ ?_ rfl
 ·intro k x out hlt hg ho hx hA
  have hw:w64 (((k:Nat):Int)+1)=((k+1:Nat):Int):=by have:=YF hp;rw [Qv (by omega) (by omega)];omega
  have hlo:k<out.length:=by omega
  refine Qkv (fun r'=>r'=JN (id (α:=List Int) a)) a ((k:Nat):Int) out ?_
  refine ⟨fun _=>?_,fun h=>absurd h (by simp;omega)⟩
  simp only [Int.toNat_natCast,Nat.zero_add,hg,hw,hlt,hlo,QcS,List.drop_zero,List.take_length,id_eq,and_true,true_and,Int.natCast_nonneg]
  first | exact hA | exact ⟨hx,hA⟩
 ·intro out ho hq
  refine Qkv (fun r'=>r'=JN (id (α:=List Int) a)) a ((a.length:Nat):Int) out ?_
  refine ⟨fun h=>absurd h (by simp),fun _=>?_⟩
  simp only [List.drop_zero,List.take_length]
  exact hq
theorem Qe7:Qe Tryz.prog QbA:=Qk fun x h=>QAo x.1 h
def QgR (t:(List Int)):TRes:=⟨(.a [(.r [TI] 0 0 t.length)]),[(.sl 3 [TI] (.dp 0 true []) t)],[],false,[]⟩
def QhD:TRow:=Qg 164 [(.a [(.sl [TI])])] fun x=>(some (p_to (α:=List Int) x.1),QgR (id (α:=List Int) x.1))
def Qq5:TTab:=⟨[QbA],true⟩
def QzZ:TCode :=
 (zsq [(.reg [zop 1 (.box 189 0 1),zop 2 (.new 106 [(.n [TI])])]),(.reg [zop 3 (.new 106 [(.n [TI])])]),(.reg [zfa 4 1 0,zld 5 4 1,zca 6 29 [5],zfa 7 3 0,zst 7 6 1]),(.reg [zLd 8 3 1,zst 2 8 1]),.ret])
def Qvp:List (ARv × Md):=[(.l 2 1 true,.b [.p 3])]
theorem QEX (a:List Int) (h :
 ((p_to (α:=List Int) a)∧K (QgR (List.take ((id (α:=List Int) a).length) (id (α:=List Int) a))))):Hold (tawp Qq5 (0+0) QzZ (TQ 0 0 Qvp K) (Qd [(.a [(.c (.sl [TI]) a)])])) :=
 Hold.of (by kernel_rfl) h
theorem Qyy (a:List Int) (hp:p_to (α:=List Int) a):TCon Tryz.prog 164 [(.a [(.c (.sl [TI]) a)])] (QgR (id (α:=List Int) a)):=by
 refine Qi rfl fun hb=>tcg (Γ:=Qq5) (n:=9) (sg:=QhD.sg) Qj (TOkL.cons Qe7 TOkL.nil) (by kernel_rfl) (by kernel_rfl) (QEX _ a ?_)
 repeat' (first | refine And.intro ?_ ?_ | exact R_eq (by simp))
 all_goals (simp only [p_to,QX,QV,Q5,List.drop_zero,List.take_length,id_eq] at hp ⊢;omega)
theorem Qyx:Qe Tryz.prog QhD:=Qk fun x h=>Qyy x.1 h
def Jt (t:(List (List Int))):TRes:=⟨(.r [(.sl [TI])] 0 0 t.length),[(.sl 106 [(.sl [TI])] (.dp 0 true []) t)],[],false,[]⟩
def QbP:TRow:=Qg 68 [(.c (.sl [(.sl [TI])]))] fun x=>(some (p_to (α:=List (List Int)) x.1),Jt (id (α:=List (List Int)) x.1))
def Qfm:TTab:=⟨[QhD],true⟩
def Qpd:TCode :=
 (zsq [(zsq [(.reg [zmv 8 4,zmv 9 0,zle 10 9,zbi 11 .lss 8 10]),(.cond 11 .skip (.exit 0))]),(.block 1 (.reg [zmv 14 3,zmv 15 4,zmv 16 0,zmv 17 4,zia 18 16 17 [(.sl [TI])],zLd 19 18 1,zca 20 164 [19],zia 21 14 15 [(.sl [TI])],zst 21 20 1])),(.reg [zmv 12 4,zbi 13 .add 12 (zki 1),zmv 4 13])])
def Qmr:List (Nat × Md):=[(0,.one .d),(3,.one .f),(4,.one .d)]
def Ql5:TCode :=
 (zsq [(.reg [zmv 22 3,zmv 2 22]),.ret])
def QwK:TCode :=
 (zsq [(.reg [zmv 2 (.k (.n [(.sl [TI])]))]),(.reg [zmv 5 0,zle 6 5,zop 7 (.mk 106 [(.sl [TI])] [(.n [TI])] 6),zmv 3 7]),(zsq [(.reg [zmv 4 (zki 0)]),(.block 0 (.loop Qmr Qpd))]),Ql5])
def Qlc:List (ARv × Md):=[(.t 2,.one (.p 106))]
def Qsk:Qb:=TQ 0 0 Qlc K
def QwG:Qb:=Qseq (tawp Qfm 0 Ql5 (Qsk K)) (Qsk K)
def Qxp:Qb:=Qblk 0 (QwG K)
def Qep (a:List (List Int)) (i:Int) (out:List (List Int)):Prop:=Loop Qfm 0 Qmr Qpd (Qxp K) ⟨[(0,(zcs [(.sl [TI])] a)),(3,(.r [(.sl [TI])] 0 0 out.length)),(4,(zci i))],[(0,(.sl 106 [(.sl [TI])] (.dp 0 true []) out))],1⟩
theorem QtF (a:List (List Int)) (i:Int) (out:List (List Int)) (h :
 (zif (decide (i<(a.length:Int))) ((((0:Int)≤i∧Int.toNat i<a.length)∧((p_to (α:=List Int) (gtd ([]:List Int) a (Int.toNat i)))∧(((0:Int)≤i∧Int.toNat i<out.length)∧((0+(Int.toNat i))<out.length))))∧(Qep K a (w64 (i+(1:Int))) (List.take out.length ((out).set (0+(Int.toNat i)) (List.take ((id (α:=List Int) (gtd ([]:List Int) a (Int.toNat i))).length) (List.drop 0 (id (α:=List Int) (gtd ([]:List Int) a (Int.toNat i))))))))) (K (Jt (List.take out.length out))))):Qep K a i out :=
 Loop.of (by kernel_rfl) h
theorem Qwj (a:List (List Int)) (h :
 (((0:Int)≤(a.length:Int)∧(a.length:Int)≤big)∧(Qep K a 0 (List.take (Int.toNat (a.length:Int)) (List.replicate (Int.toNat (a.length:Int)) ([]:List Int)))))):Hold (tawp Qfm (0+0) QwK (TQ 0 0 Qlc K) (Qd [(.c (.sl [(.sl [TI])]) a)])) :=
 Hold.of (by kernel_rfl) h
theorem QIm (a:List (List Int)) (hp:p_to (α:=List (List Int)) a):TCon Tryz.prog 68 [(.c (.sl [(.sl [TI])]) a)] (Jt (id (α:=List (List Int)) a)):=by
 refine Qi rfl fun hb=>tcg (Γ:=Qfm) (n:=23) (sg:=QbP.sg) Qj (TOkL.cons Qyx TOkL.nil) (by kernel_rfl) (by kernel_rfl) (Qwj _ a ?_)
 refine ⟨⟨by omega,by rw [bigI];have:=YF hp;omega⟩,?_⟩
 refine QbW a (A:=fun ii ll=>Qep (fun r'=>r'=Jt (id (α:=List (List Int)) a)) a ii ll) (Q:=fun z=>Jt z=Jt (id (α:=List (List Int)) a)) hp ?_ ?_ rfl
 ·intro k x out hlt hg ho hx hA
  have hw:w64 (((k:Nat):Int)+1)=((k+1:Nat):Int):=by have:=YF hp;rw [Qv (by omega) (by omega)];omega
  have hlo:k<out.length:=by omega
  refine QtF (fun r'=>r'=Jt (id (α:=List (List Int)) a)) a ((k:Nat):Int) out ?_
  refine ⟨fun _=>?_,fun h=>absurd h (by simp;omega)⟩
  simp only [Int.toNat_natCast,Nat.zero_add,hg,hw,hlt,hlo,QcS,List.drop_zero,List.take_length,id_eq,and_true,true_and,Int.natCast_nonneg]
  first | exact hA | exact ⟨hx,hA⟩
 ·intro out ho hq
  refine QtF (fun r'=>r'=Jt (id (α:=List (List Int)) a)) a ((a.length:Nat):Int) out ?_
  refine ⟨fun h=>absurd h (by simp),fun _=>?_⟩
  simp only [List.drop_zero,List.take_length]
  exact hq
theorem Qgt:Qe Tryz.prog QbP:=Qk fun x h=>QIm x.1 h
def QiY (t:Qy):TRes:=⟨(.a [(.r [(.sl [TI])] 0 0 ((t.1).length)),(zci t.2.1),(zcb t.2.2)]),[(.sl 106 [(.sl [TI])] (.dp 0 true []) t.1)],[],false,[]⟩
def QgI:TRow:=Qg 69 [(.a Zj)] fun x=>(some (p_to (α:=Qy) x.1),QiY (id (α:=Qy) x.1))
def Qr2:TTab:=⟨[QbP],true⟩
def QuB:TCode :=
 (zsq [(.reg [zop 1 (.box 28 0 3),zop 2 (.new 37 (z0s Zj))]),(.reg [zop 3 (.new 37 (z0s Zj))]),(.reg [zfa 4 1 0,zld 5 4 1,zca 6 68 [5],zfa 7 3 0,zst 7 6 1]),(.reg [zfa 8 1 1,zld 9 8 1,zfa 10 3 1,zst 10 9 1]),(.reg [zfa 11 1 2,zld 12 11 1,zfa 13 3 2,zst 13 12 1]),(.reg [zLd 14 3 3,zst 2 14 3]),.ret])
def QC4:List (ARv × Md):=[(.l 2 3 true,.b [.p 106,.d,.d])]
theorem Qwa (a:Qy) (h :
 ((p_to (α:=List (List Int)) a.1)∧K (QiY ((List.take ((id (α:=List (List Int)) a.1).length) (id (α:=List (List Int)) a.1)),a.2.1,a.2.2)))):Hold (tawp Qr2 (0+0) QuB (TQ 0 0 QC4 K) (Qd [(.a (Tup.cells Zj a))])) :=
 Hold.of (by kernel_rfl) h
theorem QBA (a:Qy) (hp:p_to (α:=Qy) a):TCon Tryz.prog 69 [(.a (Tup.cells Zj a))] (QiY (id (α:=Qy) a)):=by
 refine Qi rfl fun hb=>tcg (Γ:=Qr2) (n:=15) (sg:=QgI.sg) Qj (TOkL.cons Qgt TOkL.nil) (by kernel_rfl) (by kernel_rfl) (Qwa _ a ?_)
 repeat' (first | refine And.intro ?_ ?_ | exact R_eq (by simp))
 all_goals (simp only [p_to,QX,QV,Q5,List.drop_zero,List.take_length,id_eq] at hp ⊢;omega)
theorem Qv1:Qe Tryz.prog QgI:=Qk fun x h=>QBA x.1 h
def Qao (t:Bool):TRes:=zre (zcb t)
def QbF:TRow:=Qg 23 [(.c (.sl [TI])),(.c (.sl [TI]))] fun x=>(none,Qao (m_eq (α:=List Int) x.1 x.2.1))
def Qdy:TTab:=⟨[],false⟩
def QtI:TCode :=
 (zsq [(zsq [(.reg [zmv 11 5,zmv 12 0,zle 13 12,zbi 14 .lss 11 13]),(.cond 14 .skip (.exit 0))]),(.block 1 (zsq [(.draw [zmv 17 0,zmv 18 5,zia 19 17 18 [TI],zld 20 19 1,zmv 21 1,zmv 22 5,zia 23 21 22 [TI],zld 24 23 1,zbi 25 .neq 20 24] []),(.cond 25 (zsq [(.reg [zmv 4 (zkb false)]),.ret]) .skip)])),(.reg [zmv 15 5,zbi 16 .add 15 (zki 1),zmv 5 16])])
def QtH:List (Nat × Md):=zdl [0,1,5]
def QpD:TCode :=
 (zsq [(.reg [zmv 4 (zkb true)]),.ret])
def Qx0:TCode :=
 (zsq [(.reg [zmv 4 (zkb false)]),(zsq [(.reg [zmv 6 0,zle 7 6,zmv 8 1,zle 9 8,zbi 10 .neq 7 9]),(.cond 10 (zsq [(.reg [zmv 4 (zkb false)]),.ret]) .skip)]),(zsq [(.reg [zmv 5 (zki 0)]),(.block 0 (.loop QtH QtI))]),QpD])
def QrO:List (ARv × Md):=[(.t 4,.one .d)]
def Qpv:Qb:=TQ 0 0 QrO K
def QFC:Qb:=Qseq (tawp Qdy 0 QpD (Qpv K)) (Qpv K)
def QEk:Qb:=Qblk 0 (QFC K)
def QiS (a:List Int) (b:List Int) (i:Int):Prop:=Loop Qdy 0 QtH QtI (QEk K) ⟨[(0,(zcs [TI] a)),(1,(zcs [TI] b)),(5,(zci i))],[],0⟩
theorem QEL (a:List Int) (b:List Int) (i:Int) (h :
 (zif (decide (i<(a.length:Int))) ((((0:Int)≤i∧Int.toNat i<a.length)∧((0:Int)≤i∧Int.toNat i<b.length))∧(zif ((gtd (0:Int) a (Int.toNat i)) != (gtd (0:Int) b (Int.toNat i))) (K (Qao false)) (QiS K a b (w64 (i+(1:Int)))))) (K (Qao true)))):QiS K a b i :=
 Loop.of (by kernel_rfl) h
theorem QAx (a:List Int) (b:List Int) (h :
 (zif ((a.length:Int) != (b.length:Int)) (K (Qao false)) (QiS K a b 0))):Hold (tawp Qdy (0+0) Qx0 (TQ 0 0 QrO K) (Qd [(.c (.sl [TI]) a),(.c (.sl [TI]) b)])) :=
 Hold.of (by kernel_rfl) h
theorem QyU (a:List Int) (b:List Int):TCon Tryz.prog 23 [(.c (.sl [TI]) a),(.c (.sl [TI]) b)] (Qao (m_eq (α:=List Int) a b)):=by
 refine Qi rfl fun hb=>tcg (Γ:=Qdy) (n:=26) (sg:=QbF.sg) Qj TOkL.nil (by kernel_rfl) (by kernel_rfl) (QAx _ a b ?_)
 exact QvH hb.1.1 (fun i h=>QEL _ a b i h) (Q:=fun x=>Qao x=Qao (m_eq (α:=List Int) a b)) rfl
theorem Qer:Qe Tryz.prog QbF:=Qk fun x _=>QyU x.1 x.2.1
def Qdr (t:Bool):TRes:=zre (zcb t)
def Qgs:TRow:=Qg 174 [(.a [(.sl [TI])]),(.a [(.sl [TI])])] fun x=>(none,Qdr (m_eq (α:=List Int) x.1 x.2.1))
def Qtz:TTab:=⟨[QbF],false⟩
def QDq:TCode :=
 (zsq [(.reg [zop 2 (.box 106 0 1),zop 3 (.box 106 1 1),zmv 4 (zkb false)]),(zsq [(.reg [zfa 5 2 0,zld 6 5 1,zfa 7 3 0,zld 8 7 1,zca 9 23 [6,8],zno 10 9]),(.cond 10 (zsq [(.reg [zmv 4 (zkb false)]),.ret]) .skip)]),(.reg [zmv 4 (zkb true)]),.ret])
def QBz:List (ARv × Md):=[(.t 4,.one .d)]
theorem Qum (a:List Int) (b:List Int) (h :
 (zif (!(m_eq (α:=List Int) a b)) (K (Qdr false)) (K (Qdr true)))):Hold (tawp Qtz (0+0) QDq (TQ 0 0 QBz K) (Qd [(.a [(.c (.sl [TI]) a)]),(.a [(.c (.sl [TI]) b)])])) :=
 Hold.of (by kernel_rfl) h
theorem QvO (a:List Int) (b:List Int):TCon Tryz.prog 174 [(.a [(.c (.sl [TI]) a)]),(.a [(.c (.sl [TI]) b)])] (Qdr (m_eq (α:=List Int) a b)):=by
 refine Qi rfl fun hb=>tcg (Γ:=Qtz) (n:=11) (sg:=Qgs.sg) Qj (TOkL.cons Qer TOkL.nil) (by kernel_rfl) (by kernel_rfl) (Qum _ a b ?_)
 refine ⟨fun h=>R_eq (Eq.symm (decide_eq_false (by rintro rfl;simp [m_eq] at h))),fun h0=>?_⟩
 refine R_eq (Eq.symm (decide_eq_true ?_))
 simp [m_eq] at h0
 simp [Prod.ext_iff, *]
theorem QBJ:Qe Tryz.prog Qgs:=Qk fun x _=>QvO x.1 x.2.1
def Qap (t:Bool):TRes:=zre (zcb t)
def Qcm:TRow:=Qg 78 [(.c (.sl [(.sl [TI])])),(.c (.sl [(.sl [TI])]))] fun x=>(none,Qap (m_eq (α:=List (List Int)) x.1 x.2.1))
def QeP:TTab:=⟨[Qgs],false⟩
def QmE:TCode :=
 (zsq [(zsq [(.reg [zmv 11 5,zmv 12 0,zle 13 12,zbi 14 .lss 11 13]),(.cond 14 .skip (.exit 0))]),(.block 1 (zsq [(.draw [zmv 17 0,zmv 18 5,zia 19 17 18 [(.sl [TI])],zLd 20 19 1,zmv 21 1,zmv 22 5,zia 23 21 22 [(.sl [TI])],zLd 24 23 1,zca 25 174 [20,24],zno 26 25] []),(.cond 26 (zsq [(.reg [zmv 4 (zkb false)]),.ret]) .skip)])),(.reg [zmv 15 5,zbi 16 .add 15 (zki 1),zmv 5 16])])
def QpK:List (Nat × Md):=zdl [0,1,5]
def QoB:TCode :=
 (zsq [(.reg [zmv 4 (zkb true)]),.ret])
def QHg:TCode :=
 (zsq [(.reg [zmv 4 (zkb false)]),(zsq [(.reg [zmv 6 0,zle 7 6,zmv 8 1,zle 9 8,zbi 10 .neq 7 9]),(.cond 10 (zsq [(.reg [zmv 4 (zkb false)]),.ret]) .skip)]),(zsq [(.reg [zmv 5 (zki 0)]),(.block 0 (.loop QpK QmE))]),QoB])
def QnR:List (ARv × Md):=[(.t 4,.one .d)]
def Qoe:Qb:=TQ 0 0 QnR K
def QGy:Qb:=Qseq (tawp QeP 0 QoB (Qoe K)) (Qoe K)
def Quu:Qb:=Qblk 0 (QGy K)
def Qho (a:List (List Int)) (b:List (List Int)) (i:Int):Prop:=Loop QeP 0 QpK QmE (Quu K) ⟨[(0,(zcs [(.sl [TI])] a)),(1,(zcs [(.sl [TI])] b)),(5,(zci i))],[],0⟩
theorem QET (a:List (List Int)) (b:List (List Int)) (i:Int) (h :
 (zif (decide (i<(a.length:Int))) ((((0:Int)≤i∧Int.toNat i<a.length)∧((0:Int)≤i∧Int.toNat i<b.length))∧(zif (!(m_eq (α:=List Int) (gtd ([]:List Int) a (Int.toNat i)) (gtd ([]:List Int) b (Int.toNat i)))) (K (Qap false)) (Qho K a b (w64 (i+(1:Int)))))) (K (Qap true)))):Qho K a b i :=
 Loop.of (by kernel_rfl) h
theorem QGK (a:List (List Int)) (b:List (List Int)) (h :
 (zif ((a.length:Int) != (b.length:Int)) (K (Qap false)) (Qho K a b 0))):Hold (tawp QeP (0+0) QHg (TQ 0 0 QnR K) (Qd [(.c (.sl [(.sl [TI])]) a),(.c (.sl [(.sl [TI])]) b)])) :=
 Hold.of (by kernel_rfl) h
theorem Qy6 (a:List (List Int)) (b:List (List Int)):TCon Tryz.prog 78 [(.c (.sl [(.sl [TI])]) a),(.c (.sl [(.sl [TI])]) b)] (Qap (m_eq (α:=List (List Int)) a b)):=by
 refine Qi rfl fun hb=>tcg (Γ:=QeP) (n:=27) (sg:=Qcm.sg) Qj (TOkL.cons QBJ TOkL.nil) (by kernel_rfl) (by kernel_rfl) (QGK _ a b ?_)
 exact QcP ([]:List Int) (E:=m_eq) (fun _ _=>rfl) hb.1.1 (fun i h=>QET _ a b i h) (Q:=fun x=>Qap x=Qap (m_eq (α:=List (List Int)) a b)) rfl
theorem Qga:Qe Tryz.prog Qcm:=Qk fun x _=>Qy6 x.1 x.2.1
def Qbv (t:Bool):TRes:=zre (zcb t)
def Qf4:TRow:=Qg 46 [(.a Zj),(.a Zj)] fun x=>(none,Qbv (m_eq (α:=Qy) x.1 x.2.1))
def QnQ:TTab:=⟨[Qcm],false⟩
def Quv:TCode :=
 (zsq [(.reg [zop 2 (.box 37 0 3),zop 3 (.box 37 1 3),zmv 4 (zkb false)]),(zsq [(.reg [zfa 5 2 0,zld 6 5 1,zfa 7 3 0,zld 8 7 1,zca 9 78 [6,8],zno 10 9]),(.cond 10 (zsq [(.reg [zmv 4 (zkb false)]),.ret]) .skip)]),(zsq [(.reg [zfa 11 2 1,zld 12 11 1,zfa 13 3 1,zld 14 13 1,zbi 15 .neq 12 14]),(.cond 15 (zsq [(.reg [zmv 4 (zkb false)]),.ret]) .skip)]),(zsq [(.reg [zfa 16 2 2,zld 17 16 1,zfa 18 3 2,zld 19 18 1,zop 20 (.eqb true 17 19)]),(.cond 20 (zsq [(.reg [zmv 4 (zkb false)]),.ret]) .skip)]),(.reg [zmv 4 (zkb true)]),.ret])
def QuK:List (ARv × Md):=[(.t 4,.one .d)]
theorem QAv (a:Qy) (b:Qy) (h :
 (zif (!(m_eq (α:=List (List Int)) a.1 b.1)) (K (Qbv false)) (zif (a.2.1 != b.2.1) (K (Qbv false)) (zif (!(a.2.2==b.2.2)) (K (Qbv false)) (K (Qbv true)))))):Hold (tawp QnQ (0+0) Quv (TQ 0 0 QuK K) (Qd [(.a (Tup.cells Zj a)),(.a (Tup.cells Zj b))])) :=
 Hold.of (by kernel_rfl) h
theorem QEs (a:Qy) (b:Qy):TCon Tryz.prog 46 [(.a (Tup.cells Zj a)),(.a (Tup.cells Zj b))] (Qbv (m_eq (α:=Qy) a b)):=by
 refine Qi rfl fun hb=>tcg (Γ:=QnQ) (n:=21) (sg:=Qf4.sg) Qj (TOkL.cons Qga TOkL.nil) (by kernel_rfl) (by kernel_rfl) (QAv _ a b ?_)
 refine ⟨fun h=>R_eq (Eq.symm (decide_eq_false (by rintro rfl;simp [m_eq] at h))),fun h0=>?_⟩
 refine ⟨fun h=>R_eq (Eq.symm (decide_eq_false (by rintro rfl;simp [m_eq] at h))),fun h1=>?_⟩
 refine ⟨fun h=>R_eq (Eq.symm (decide_eq_false (by rintro rfl;simp [m_eq] at h))),fun h2=>?_⟩
 refine R_eq (Eq.symm (decide_eq_true ?_))
 simp [m_eq] at h0 h1 h2
 simp [Prod.ext_iff, *]
theorem QxK:Qe Tryz.prog Qf4:=Qk fun x _=>QEs x.1 x.2.1
end
end Go.Proofs.YtdplaepmjogjjaaGreat.Am

