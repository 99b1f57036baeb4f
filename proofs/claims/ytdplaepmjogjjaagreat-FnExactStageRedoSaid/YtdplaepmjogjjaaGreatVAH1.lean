/- -/
import Derived.Test.YtdplaepmjogjjaaGreatVAGF
namespace Go.Proofs.YtdplaepmjogjjaaGreat.Am
open Go Go.RowKit Go.Proofs.YtdplaepmjogjjaaGreat
set_option linter.all false
noncomputable section
variable (K:TRes→Prop)
def Qbl (t:Int):TRes:=zre (zci t)
def Qbu:TRow:=Qh 59 [(.c (.sl [TI])),(.c TI)] fun x=>(some (p_sz (α:=List Int) x.1 x.2.1),Qbl (m_sz (α:=List Int) x.1 x.2.1))
def Qrg:TTab:=⟨[],false⟩
def Qua:TCode :=
 (zsq [(.reg [zmv 4 (zki 0)]),(.reg [zmv 5 1,zmv 6 0,zle 7 6,zbi 8 .sub 5 7,zmv 1 8]),(zsq [(.reg [zmv 9 1,zbi 10 .lss 9 (zki 0)]),(.cond 10 (zsq [(.reg [zmv 4 (zki (-1))]),.ret]) .skip)]),(.reg [zmv 11 1,zmv 4 11]),.ret])
def QCx:List (ARv × Md):=[(.t 4,.one .d)]
theorem QGS (a:List Int) (left:Int) (h :
 (zif (decide ((w64 (left-(a.length:Int)))<(0:Int))) (K (Qbl (-1:Int))) (K (Qbl (w64 (left-(a.length:Int))))))):Hold (tawp Qrg (0+0) Qua (TQ 0 0 QCx K) (Qf [(.c (.sl [TI]) a),(.c TI left)])) :=
 Hold.of (by kernel_rfl) h
theorem QGu (a:List Int) (left:Int) (hp:p_sz (α:=List Int) a left):TCon Tryz.prog 59 [(.c (.sl [TI]) a),(.c TI left)] (Qbl (m_sz (α:=List Int) a left)):=by
 refine Qj rfl fun hb=>tcg (Γ:=Qrg) (n:=12) (sg:=Qbu.sg) Qi TOkL.nil (by kernel_rfl) (by kernel_rfl) (QGS _ a left ?_)
 exact Qrs (Q:=fun x=>Qbl x=Qbl (m_sz (α:=List Int) a left)) (fun _=>rfl) hp hb.1.1 rfl
theorem QfS:Qg Tryz.prog Qbu:=Qk fun x h=>QGu x.1 x.2.1 h
def Qeh (t:Int):TRes:=zre (zci t)
def QjA:TRow:=Qh 154 [(.a [(.sl [TI])]),(.c TI)] fun x=>(some (p_sz (α:=List Int) x.1 x.2.1),Qeh (m_sz (α:=List Int) x.1 x.2.1))
def QrZ:TTab:=⟨[Qbu],false⟩
def QuM:TCode :=
 (zsq [(.reg [zop 2 (.box 189 0 1),zmv 4 (zki 0)]),(.reg [zfa 5 2 0,zld 6 5 1,zmv 7 1,zca 8 59 [6,7],zmv 1 8]),(zsq [(.reg [zmv 9 1,zbi 10 .lss 9 (zki 0)]),(.cond 10 (zsq [(.reg [zmv 4 (zki (-1))]),.ret]) .skip)]),(.reg [zmv 11 1,zmv 4 11]),.ret])
def QyV:List (ARv × Md):=[(.t 4,.one .d)]
theorem QCc (a:List Int) (left:Int) (h :
 ((p_sz (α:=List Int) a left)∧(zif (decide ((m_sz (α:=List Int) a left)<(0:Int))) (K (Qeh (-1:Int))) (K (Qeh (m_sz (α:=List Int) a left)))))):Hold (tawp QrZ (0+0) QuM (TQ 0 0 QyV K) (Qf [(.a [(.c (.sl [TI]) a)]),(.c TI left)])) :=
 Hold.of (by kernel_rfl) h
theorem QEZ (a:List Int) (left:Int) (hp:p_sz (α:=List Int) a left):TCon Tryz.prog 154 [(.a [(.c (.sl [TI]) a)]),(.c TI left)] (Qeh (m_sz (α:=List Int) a left)):=by
 refine Qj rfl fun hb=>tcg (Γ:=QrZ) (n:=12) (sg:=QjA.sg) Qi (TOkL.cons QfS TOkL.nil) (by kernel_rfl) (by kernel_rfl) (QCc _ a left ?_)
 refine ⟨hp,fun h=>R_eq (Z5 (of_decide_eq_true h) (by first | omega | (simp only [QL,QI,QS];omega)) hp.1),fun h=>?_⟩
 exact R_eq (congrArg (ZF · _) (by first | rfl | omega | (simp only [QL,QI,QS];omega)))
theorem Qyy:Qg Tryz.prog QjA:=Qk fun x h=>QEZ x.1 x.2.1 h
def JU (t:Int):TRes:=zre (zci t)
def Qby:TRow:=Qh 58 [(.c (.sl [(.sl [TI])])),(.c TI)] fun x=>(some (p_sz (α:=List (List Int)) x.1 x.2.1),JU (m_sz (α:=List (List Int)) x.1 x.2.1))
def Qff:TTab:=⟨[QjA],false⟩
def Qsy:TCode :=
 (zsq [(zsq [(.reg [zmv 12 5,zmv 13 0,zle 14 13,zbi 15 .lss 12 14]),(.cond 15 .skip (.exit 0))]),(.block 1 (zsq [(.reg [zmv 18 0,zmv 19 5,zia 20 18 19 [(.sl [TI])],zLd 21 20 1,zmv 22 1,zca 23 154 [21,22],zmv 1 23]),(.reg [zmv 24 1,zbi 25 .lss 24 (zki 0)]),(.cond 25 (zsq [(.reg [zmv 4 (zki (-1))]),.ret]) .skip)])),(.reg [zmv 16 5,zbi 17 .add 16 (zki 1),zmv 5 17])])
def Ql9:List (Nat × Md):=zdl [0,1,5]
def QnQ:TCode :=
 (zsq [(.reg [zmv 26 1,zmv 4 26]),.ret])
def Qwm:TCode :=
 (zsq [(.reg [zmv 4 (zki 0)]),(.reg [zmv 6 1,zmv 7 0,zle 8 7,zbi 9 .sub 6 8,zmv 1 9]),(zsq [(.reg [zmv 10 1,zbi 11 .lss 10 (zki 0)]),(.cond 11 (zsq [(.reg [zmv 4 (zki (-1))]),.ret]) .skip)]),(zsq [(.reg [zmv 5 (zki 0)]),(.block 0 (.loop Ql9 Qsy))]),QnQ])
def Qle:List (ARv × Md):=[(.t 4,.one .d)]
def Qp1:Qb:=TQ 0 0 Qle K
def QAG:Qb:=Qseq (tawp Qff 0 QnQ (Qp1 K)) (Qp1 K)
def Qzs:Qb:=Qblk 0 (QAG K)
def Qg3 (a:List (List Int)) (left1:Int) (i:Int):Prop:=Loop Qff 0 Ql9 Qsy (Qzs K) ⟨[(0,(zcs [(.sl [TI])] a)),(1,(zci left1)),(5,(zci i))],[],0⟩
theorem Qxh (a:List (List Int)) (left1:Int) (i:Int) (h :
 (zif (decide (i<(a.length:Int))) ((((0:Int)≤i∧Int.toNat i<a.length)∧(p_sz (α:=List Int) (gtd ([]:List Int) a (Int.toNat i)) left1))∧(zif (decide ((m_sz (α:=List Int) (gtd ([]:List Int) a (Int.toNat i)) left1)<(0:Int))) (K (JU (-1:Int))) (Qg3 K a (m_sz (α:=List Int) (gtd ([]:List Int) a (Int.toNat i)) left1) (w64 (i+(1:Int)))))) (K (JU left1)))):Qg3 K a left1 i :=
 Loop.of (by kernel_rfl) h
theorem Qw5 (a:List (List Int)) (left:Int) (h :
 (zif (decide ((w64 (left-(a.length:Int)))<(0:Int))) (K (JU (-1:Int))) (Qg3 K a (w64 (left-(a.length:Int))) 0))):Hold (tawp Qff (0+0) Qwm (TQ 0 0 Qle K) (Qf [(.c (.sl [(.sl [TI])]) a),(.c TI left)])) :=
 Hold.of (by kernel_rfl) h
theorem Qwi (a:List (List Int)) (left:Int) (hp:p_sz (α:=List (List Int)) a left):TCon Tryz.prog 58 [(.c (.sl [(.sl [TI])]) a),(.c TI left)] (JU (m_sz (α:=List (List Int)) a left)):=by
 refine Qj rfl fun hb=>tcg (Γ:=Qff) (n:=27) (sg:=Qby.sg) Qi (TOkL.cons Qyy TOkL.nil) (by kernel_rfl) (by kernel_rfl) (Qw5 _ a left ?_)
 exact QhF (Q:=fun x=>JU x=JU (m_sz (α:=List (List Int)) a left)) ([]:List Int) hp hb.1.1 (fun l i h=>Qxh _ a l i h) rfl
theorem QfP:Qg Tryz.prog Qby:=Qk fun x h=>Qwi x.1 x.2.1 h
def QeU (t:Int):TRes:=zre (zci t)
def QhH:TRow:=Qh 60 [(.a Zi),(.c TI)] fun x=>(some (p_sz (α:=Qr) x.1 x.2.1),QeU (m_sz (α:=Qr) x.1 x.2.1))
def Qpc:TTab:=⟨[Qby],false⟩
def QzZ:TCode :=
 (zsq [(.reg [zop 2 (.box 28 0 3),zmv 4 (zki 0)]),(.reg [zfa 5 2 0,zld 6 5 1,zmv 7 1,zca 8 58 [6,7],zmv 1 8]),(zsq [(.reg [zmv 9 1,zbi 10 .lss 9 (zki 0)]),(.cond 10 (zsq [(.reg [zmv 4 (zki (-1))]),.ret]) .skip)]),(.reg [zmv 11 1,zmv 4 11]),.ret])
def QzM:List (ARv × Md):=[(.t 4,.one .d)]
theorem QFH (a:Qr) (left:Int) (h :
 ((p_sz (α:=List (List Int)) a.1 left)∧(zif (decide ((m_sz (α:=List (List Int)) a.1 left)<(0:Int))) (K (QeU (-1:Int))) (K (QeU (m_sz (α:=List (List Int)) a.1 left)))))):Hold (tawp Qpc (0+0) QzZ (TQ 0 0 QzM K) (Qf [(.a (Tup.cells Zi a)),(.c TI left)])) :=
 Hold.of (by kernel_rfl) h
theorem Qy4 (a:Qr) (left:Int) (hp:p_sz (α:=Qr) a left):TCon Tryz.prog 60 [(.a (Tup.cells Zi a)),(.c TI left)] (QeU (m_sz (α:=Qr) a left)):=by
 refine Qj rfl fun hb=>tcg (Γ:=Qpc) (n:=12) (sg:=QhH.sg) Qi (TOkL.cons QfP TOkL.nil) (by kernel_rfl) (by kernel_rfl) (QFH _ a left ?_)
 refine ⟨hp,fun h=>R_eq (Z5 (of_decide_eq_true h) (by first | omega | (simp only [QL,QI,QS];omega)) hp.1),fun h=>?_⟩
 exact R_eq (congrArg (ZF · _) (by first | rfl | omega | (simp only [QL,QI,QS];omega)))
theorem QCr:Qg Tryz.prog QhH:=Qk fun x h=>Qy4 x.1 x.2.1 h
def Jt (t:(List Int)):TRes:=⟨(.r [TI] 0 0 t.length),[(.sl 3 [TI] (.dp 0 true []) t)],[],false,[]⟩
def QbV:TRow:=Qh 29 [(.c (.sl [TI]))] fun x=>(some (p_to (α:=List Int) x.1),Jt (id (α:=List Int) x.1))
def Qev:TTab:=⟨[],true⟩
def QnZ:TCode :=
 (zsq [(zsq [(.reg [zmv 8 4,zmv 9 0,zle 10 9,zbi 11 .lss 8 10]),(.cond 11 .skip (.exit 0))]),(.block 1 (.reg [zmv 14 3,zmv 15 4,zmv 16 0,zmv 17 4,zia 18 16 17 [TI],zld 19 18 1,zia 20 14 15 [TI],zst 20 19 1])),(.reg [zmv 12 4,zbi 13 .add 12 (zki 1),zmv 4 13])])
def Qo0:List (Nat × Md):=[(0,.one .d),(3,.one .f),(4,.one .d)]
def Qn6:TCode :=
 (zsq [(.reg [zmv 21 3,zmv 2 21]),.ret])
def QzW:TCode :=
 (zsq [(.reg [zmv 2 (.k (.n [TI]))]),(.reg [zmv 5 0,zle 6 5,zop 7 (.mk 3 [TI] [(zci 0)] 6),zmv 3 7]),(zsq [(.reg [zmv 4 (zki 0)]),(.block 0 (.loop Qo0 QnZ))]),Qn6])
def QnV:List (ARv × Md):=[(.t 2,.one (.p 3))]
def QoJ:Qb:=TQ 0 0 QnV K
def Qwg:Qb:=Qseq (tawp Qev 0 Qn6 (QoJ K)) (QoJ K)
def QF8:Qb:=Qblk 0 (Qwg K)
def QfE (a:List Int) (i:Int) (out:List Int):Prop:=Loop Qev 0 Qo0 QnZ (QF8 K) ⟨[(0,(zcs [TI] a)),(3,(.r [TI] 0 0 out.length)),(4,(zci i))],[(0,(.sl 3 [TI] (.dp 0 true []) out))],1⟩
theorem QnT (a:List Int) (i:Int) (out:List Int) (h :
 (zif (decide (i<(a.length:Int))) ((((0:Int)≤i∧Int.toNat i<a.length)∧(((0:Int)≤i∧Int.toNat i<out.length)∧((0+(Int.toNat i))<out.length)))∧(QfE K a (w64 (i+(1:Int))) (List.take out.length ((out).set (0+(Int.toNat i)) (gtd (0:Int) a (Int.toNat i)))))) (K (Jt (List.take out.length out))))):QfE K a i out :=
 Loop.of (by kernel_rfl) h
theorem QEp (a:List Int) (h :
 (((0:Int)≤(a.length:Int)∧(a.length:Int)≤big)∧(QfE K a 0 (List.take (Int.toNat (a.length:Int)) (List.replicate (Int.toNat (a.length:Int)) (0:Int)))))):Hold (tawp Qev (0+0) QzW (TQ 0 0 QnV K) (Qf [(.c (.sl [TI]) a)])) :=
 Hold.of (by kernel_rfl) h
theorem QzU (a:List Int) (hp:p_to (α:=List Int) a):TCon Tryz.prog 29 [(.c (.sl [TI]) a)] (Jt (id (α:=List Int) a)):=by
 refine Qj rfl fun hb=>tcg (Γ:=Qev) (n:=22) (sg:=QbV.sg) Qi TOkL.nil (by kernel_rfl) (by kernel_rfl) (QEp _ a ?_)
 refine ⟨⟨by omega,by rw [bigI];have:=Yx hp;omega⟩,?_⟩
 refine Qb7 a (A:=fun ii ll=>QfE (fun r'=>r'=Jt (id (α:=List Int) a)) a ii ll) (Q:=fun z=>Jt z=Jt (id (α:=List Int) a)) hp ?_ ?_ rfl
 ·intro k x out hlt hg ho hx hA
  have hw:w64 (((k:Nat):Int)+1)=((k+1:Nat):Int):=by have:=Yx hp;rw [Qv (by omega) (by omega)];omega
  have hlo:k<out.length:=by omega
  refine QnT (fun r'=>r'=Jt (id (α:=List Int) a)) a ((k:Nat):Int) out ?_
  refine ⟨fun _=>?_,fun h=>absurd h (by simp;omega)⟩
  simp only [Int.toNat_natCast,Nat.zero_add,hg,hw,hlt,hlo,QbG,List.drop_zero,List.take_length,id_eq,and_true,true_and,Int.natCast_nonneg]
  first | exact hA | exact ⟨hx,hA⟩
 ·intro out ho hq
  refine QnT (fun r'=>r'=Jt (id (α:=List Int) a)) a ((a.length:Nat):Int) out ?_
  refine ⟨fun h=>absurd h (by simp),fun _=>?_⟩
  simp only [List.drop_zero,List.take_length]
  exact hq
theorem QgB:Qg Tryz.prog QbV:=Qk fun x h=>QzU x.1 h
def QgV (t:(List Int)):TRes:=⟨(.a [(.r [TI] 0 0 t.length)]),[(.sl 3 [TI] (.dp 0 true []) t)],[],false,[]⟩
def QhK:TRow:=Qh 164 [(.a [(.sl [TI])])] fun x=>(some (p_to (α:=List Int) x.1),QgV (id (α:=List Int) x.1))
def Qqd:TTab:=⟨[QbV],true⟩
def Qyx:TCode :=
 (zsq [(.reg [zop 1 (.box 189 0 1),zop 2 (.new 106 [(.n [TI])])]),(.reg [zop 3 (.new 106 [(.n [TI])])]),(.reg [zfa 4 1 0,zld 5 4 1,zca 6 29 [5],zfa 7 3 0,zst 7 6 1]),(.reg [zLd 8 3 1,zst 2 8 1]),.ret])
def QAr:List (ARv × Md):=[(.l 2 1 true,.b [.p 3])]
theorem Qus (a:List Int) (h :
 ((p_to (α:=List Int) a)∧K (QgV (List.take ((id (α:=List Int) a).length) (id (α:=List Int) a))))):Hold (tawp Qqd (0+0) Qyx (TQ 0 0 QAr K) (Qf [(.a [(.c (.sl [TI]) a)])])) :=
 Hold.of (by kernel_rfl) h
theorem Quk (a:List Int) (hp:p_to (α:=List Int) a):TCon Tryz.prog 164 [(.a [(.c (.sl [TI]) a)])] (QgV (id (α:=List Int) a)):=by
 refine Qj rfl fun hb=>tcg (Γ:=Qqd) (n:=9) (sg:=QhK.sg) Qi (TOkL.cons QgB TOkL.nil) (by kernel_rfl) (by kernel_rfl) (Qus _ a ?_)
 repeat' (first | refine And.intro ?_ ?_ | exact R_eq (by simp))
 all_goals (simp only [p_to,QL,QI,QS,List.drop_zero,List.take_length,id_eq] at hp ⊢;omega)
theorem QGD:Qg Tryz.prog QhK:=Qk fun x h=>Quk x.1 h
def Jx (t:(List (List Int))):TRes:=⟨(.r [(.sl [TI])] 0 0 t.length),[(.sl 106 [(.sl [TI])] (.dp 0 true []) t)],[],false,[]⟩
def Qci:TRow:=Qh 68 [(.c (.sl [(.sl [TI])]))] fun x=>(some (p_to (α:=List (List Int)) x.1),Jx (id (α:=List (List Int)) x.1))
def Qd4:TTab:=⟨[QhK],true⟩
def Qop:TCode :=
 (zsq [(zsq [(.reg [zmv 8 4,zmv 9 0,zle 10 9,zbi 11 .lss 8 10]),(.cond 11 .skip (.exit 0))]),(.block 1 (.reg [zmv 14 3,zmv 15 4,zmv 16 0,zmv 17 4,zia 18 16 17 [(.sl [TI])],zLd 19 18 1,zca 20 164 [19],zia 21 14 15 [(.sl [TI])],zst 21 20 1])),(.reg [zmv 12 4,zbi 13 .add 12 (zki 1),zmv 4 13])])
def Qr1:List (Nat × Md):=[(0,.one .d),(3,.one .f),(4,.one .d)]
def Qqk:TCode :=
 (zsq [(.reg [zmv 22 3,zmv 2 22]),.ret])
def Qvu:TCode :=
 (zsq [(.reg [zmv 2 (.k (.n [(.sl [TI])]))]),(.reg [zmv 5 0,zle 6 5,zop 7 (.mk 106 [(.sl [TI])] [(.n [TI])] 6),zmv 3 7]),(zsq [(.reg [zmv 4 (zki 0)]),(.block 0 (.loop Qr1 Qop))]),Qqk])
def Qm0:List (ARv × Md):=[(.t 2,.one (.p 106))]
def QsS:Qb:=TQ 0 0 Qm0 K
def Qx4:Qb:=Qseq (tawp Qd4 0 Qqk (QsS K)) (QsS K)
def QGO:Qb:=Qblk 0 (Qx4 K)
def Qdk (a:List (List Int)) (i:Int) (out:List (List Int)):Prop:=Loop Qd4 0 Qr1 Qop (QGO K) ⟨[(0,(zcs [(.sl [TI])] a)),(3,(.r [(.sl [TI])] 0 0 out.length)),(4,(zci i))],[(0,(.sl 106 [(.sl [TI])] (.dp 0 true []) out))],1⟩
theorem Qos (a:List (List Int)) (i:Int) (out:List (List Int)) (h :
 (zif (decide (i<(a.length:Int))) ((((0:Int)≤i∧Int.toNat i<a.length)∧((p_to (α:=List Int) (gtd ([]:List Int) a (Int.toNat i)))∧(((0:Int)≤i∧Int.toNat i<out.length)∧((0+(Int.toNat i))<out.length))))∧(Qdk K a (w64 (i+(1:Int))) (List.take out.length ((out).set (0+(Int.toNat i)) (List.take ((id (α:=List Int) (gtd ([]:List Int) a (Int.toNat i))).length) (List.drop 0 (id (α:=List Int) (gtd ([]:List Int) a (Int.toNat i))))))))) (K (Jx (List.take out.length out))))):Qdk K a i out :=
 Loop.of (by kernel_rfl) h
theorem QBL (a:List (List Int)) (h :
 (((0:Int)≤(a.length:Int)∧(a.length:Int)≤big)∧(Qdk K a 0 (List.take (Int.toNat (a.length:Int)) (List.replicate (Int.toNat (a.length:Int)) ([]:List Int)))))):Hold (tawp Qd4 (0+0) Qvu (TQ 0 0 Qm0 K) (Qf [(.c (.sl [(.sl [TI])]) a)])) :=
 Hold.of (by kernel_rfl) h
theorem QEF (a:List (List Int)) (hp:p_to (α:=List (List Int)) a):TCon Tryz.prog 68 [(.c (.sl [(.sl [TI])]) a)] (Jx (id (α:=List (List Int)) a)):=by
 refine Qj rfl fun hb=>tcg (Γ:=Qd4) (n:=23) (sg:=Qci.sg) Qi (TOkL.cons QGD TOkL.nil) (by kernel_rfl) (by kernel_rfl) (QBL _ a ?_)
 refine ⟨⟨by omega,by rw [bigI];have:=Yx hp;omega⟩,?_⟩
 refine Qb7 a (A:=fun ii ll=>Qdk (fun r'=>r'=Jx (id (α:=List (List Int)) a)) a ii ll) (Q:=fun z=>Jx z=Jx (id (α:=List (List Int)) a)) hp ?_ ?_ rfl
 ·intro k x out hlt hg ho hx hA
  have hw:w64 (((k:Nat):Int)+1)=((k+1:Nat):Int):=by have:=Yx hp;rw [Qv (by omega) (by omega)];omega
  have hlo:k<out.length:=by omega
  refine Qos (fun r'=>r'=Jx (id (α:=List (List Int)) a)) a ((k:Nat):Int) out ?_
  refine ⟨fun _=>?_,fun h=>absurd h (by simp;omega)⟩
  simp only [Int.toNat_natCast,Nat.zero_add,hg,hw,hlt,hlo,QbG,List.drop_zero,List.take_length,id_eq,and_true,true_and,Int.natCast_nonneg]
  first | exact hA | exact ⟨hx,hA⟩
 ·intro out ho hq
  refine Qos (fun r'=>r'=Jx (id (α:=List (List Int)) a)) a ((a.length:Nat):Int) out ?_
  refine ⟨fun h=>absurd h (by simp),fun _=>?_⟩
  simp only [List.drop_zero,List.take_length]
  exact hq
theorem Qh8:Qg Tryz.prog Qci:=Qk fun x h=>QEF x.1 h
def Qie (t:Qr):TRes:=⟨(.a [(.r [(.sl [TI])] 0 0 ((t.1).length)),(zci t.2.1),(zcb t.2.2)]),[(.sl 106 [(.sl [TI])] (.dp 0 true []) t.1)],[],false,[]⟩
def Qhj:TRow:=Qh 69 [(.a Zi)] fun x=>(some (p_to (α:=Qr) x.1),Qie (id (α:=Qr) x.1))
def Qq0:TTab:=⟨[Qci],true⟩
def Qy6:TCode :=
 (zsq [(.reg [zop 1 (.box 28 0 3),zop 2 (.new 37 (z0s Zi))]),(.reg [zop 3 (.new 37 (z0s Zi))]),(.reg [zfa 4 1 0,zld 5 4 1,zca 6 68 [5],zfa 7 3 0,zst 7 6 1]),(.reg [zfa 8 1 1,zld 9 8 1,zfa 10 3 1,zst 10 9 1]),(.reg [zfa 11 1 2,zld 12 11 1,zfa 13 3 2,zst 13 12 1]),(.reg [zLd 14 3 3,zst 2 14 3]),.ret])
def QED:List (ARv × Md):=[(.l 2 3 true,.b [.p 106,.d,.d])]
theorem QB5 (a:Qr) (h :
 ((p_to (α:=List (List Int)) a.1)∧K (Qie ((List.take ((id (α:=List (List Int)) a.1).length) (id (α:=List (List Int)) a.1)),a.2.1,a.2.2)))):Hold (tawp Qq0 (0+0) Qy6 (TQ 0 0 QED K) (Qf [(.a (Tup.cells Zi a))])) :=
 Hold.of (by kernel_rfl) h
theorem Qyg (a:Qr) (hp:p_to (α:=Qr) a):TCon Tryz.prog 69 [(.a (Tup.cells Zi a))] (Qie (id (α:=Qr) a)):=by
 refine Qj rfl fun hb=>tcg (Γ:=Qq0) (n:=15) (sg:=Qhj.sg) Qi (TOkL.cons Qh8 TOkL.nil) (by kernel_rfl) (by kernel_rfl) (QB5 _ a ?_)
 repeat' (first | refine And.intro ?_ ?_ | exact R_eq (by simp))
 all_goals (simp only [p_to,QL,QI,QS,List.drop_zero,List.take_length,id_eq] at hp ⊢;omega)
theorem QE5:Qg Tryz.prog Qhj:=Qk fun x h=>Qyg x.1 h
def JW (t:Bool):TRes:=zre (zcb t)
def QbY:TRow:=Qh 23 [(.c (.sl [TI])),(.c (.sl [TI]))] fun x=>(none,JW (m_eq (α:=List Int) x.1 x.2.1))
def Qdy:TTab:=⟨[],false⟩
def Qkv:TCode :=
 (zsq [(zsq [(.reg [zmv 11 5,zmv 12 0,zle 13 12,zbi 14 .lss 11 13]),(.cond 14 .skip (.exit 0))]),(.block 1 (zsq [(.draw [zmv 17 0,zmv 18 5,zia 19 17 18 [TI],zld 20 19 1,zmv 21 1,zmv 22 5,zia 23 21 22 [TI],zld 24 23 1,zbi 25 .neq 20 24] []),(.cond 25 (zsq [(.reg [zmv 4 (zkb false)]),.ret]) .skip)])),(.reg [zmv 15 5,zbi 16 .add 15 (zki 1),zmv 5 16])])
def QpO:List (Nat × Md):=zdl [0,1,5]
def QpK:TCode :=
 (zsq [(.reg [zmv 4 (zkb true)]),.ret])
def QzE:TCode :=
 (zsq [(.reg [zmv 4 (zkb false)]),(zsq [(.reg [zmv 6 0,zle 7 6,zmv 8 1,zle 9 8,zbi 10 .neq 7 9]),(.cond 10 (zsq [(.reg [zmv 4 (zkb false)]),.ret]) .skip)]),(zsq [(.reg [zmv 5 (zki 0)]),(.block 0 (.loop QpO Qkv))]),QpK])
def Qq1:List (ARv × Md):=[(.t 4,.one .d)]
def QnE:Qb:=TQ 0 0 Qq1 K
def Qt6:Qb:=Qseq (tawp Qdy 0 QpK (QnE K)) (QnE K)
def QFA:Qb:=Qblk 0 (Qt6 K)
def Qh5 (a:List Int) (b:List Int) (i:Int):Prop:=Loop Qdy 0 QpO Qkv (QFA K) ⟨[(0,(zcs [TI] a)),(1,(zcs [TI] b)),(5,(zci i))],[],0⟩
theorem Qxr (a:List Int) (b:List Int) (i:Int) (h :
 (zif (decide (i<(a.length:Int))) ((((0:Int)≤i∧Int.toNat i<a.length)∧((0:Int)≤i∧Int.toNat i<b.length))∧(zif ((gtd (0:Int) a (Int.toNat i)) != (gtd (0:Int) b (Int.toNat i))) (K (JW false)) (Qh5 K a b (w64 (i+(1:Int)))))) (K (JW true)))):Qh5 K a b i :=
 Loop.of (by kernel_rfl) h
theorem Qx6 (a:List Int) (b:List Int) (h :
 (zif ((a.length:Int) != (b.length:Int)) (K (JW false)) (Qh5 K a b 0))):Hold (tawp Qdy (0+0) QzE (TQ 0 0 Qq1 K) (Qf [(.c (.sl [TI]) a),(.c (.sl [TI]) b)])) :=
 Hold.of (by kernel_rfl) h
theorem QE8 (a:List Int) (b:List Int):TCon Tryz.prog 23 [(.c (.sl [TI]) a),(.c (.sl [TI]) b)] (JW (m_eq (α:=List Int) a b)):=by
 refine Qj rfl fun hb=>tcg (Γ:=Qdy) (n:=26) (sg:=QbY.sg) Qi TOkL.nil (by kernel_rfl) (by kernel_rfl) (Qx6 _ a b ?_)
 exact Qyb hb.1.1 (fun i h=>Qxr _ a b i h) (Q:=fun x=>JW x=JW (m_eq (α:=List Int) a b)) rfl
theorem QjL:Qg Tryz.prog QbY:=Qk fun x _=>QE8 x.1 x.2.1
def Qel (t:Bool):TRes:=zre (zcb t)
def QhG:TRow:=Qh 174 [(.a [(.sl [TI])]),(.a [(.sl [TI])])] fun x=>(none,Qel (m_eq (α:=List Int) x.1 x.2.1))
def Qq4:TTab:=⟨[QbY],false⟩
def QDv:TCode :=
 (zsq [(.reg [zop 2 (.box 106 0 1),zop 3 (.box 106 1 1),zmv 4 (zkb false)]),(zsq [(.reg [zfa 5 2 0,zld 6 5 1,zfa 7 3 0,zld 8 7 1,zca 9 23 [6,8],zno 10 9]),(.cond 10 (zsq [(.reg [zmv 4 (zkb false)]),.ret]) .skip)]),(.reg [zmv 4 (zkb true)]),.ret])
def Qwa:List (ARv × Md):=[(.t 4,.one .d)]
theorem QFZ (a:List Int) (b:List Int) (h :
 (zif (!(m_eq (α:=List Int) a b)) (K (Qel false)) (K (Qel true)))):Hold (tawp Qq4 (0+0) QDv (TQ 0 0 Qwa K) (Qf [(.a [(.c (.sl [TI]) a)]),(.a [(.c (.sl [TI]) b)])])) :=
 Hold.of (by kernel_rfl) h
theorem QCH (a:List Int) (b:List Int):TCon Tryz.prog 174 [(.a [(.c (.sl [TI]) a)]),(.a [(.c (.sl [TI]) b)])] (Qel (m_eq (α:=List Int) a b)):=by
 refine Qj rfl fun hb=>tcg (Γ:=Qq4) (n:=11) (sg:=QhG.sg) Qi (TOkL.cons QjL TOkL.nil) (by kernel_rfl) (by kernel_rfl) (QFZ _ a b ?_)
 refine ⟨fun h=>R_eq (Eq.symm (decide_eq_false (by rintro rfl;simp [m_eq] at h))),fun h0=>?_⟩
 refine R_eq (Eq.symm (decide_eq_true ?_))
 simp [m_eq] at h0
 simp [Prod.ext_iff, *]
theorem QAE:Qg Tryz.prog QhG:=Qk fun x _=>QCH x.1 x.2.1
def J2 (t:Bool):TRes:=zre (zcb t)
def QbT:TRow:=Qh 78 [(.c (.sl [(.sl [TI])])),(.c (.sl [(.sl [TI])]))] fun x=>(none,J2 (m_eq (α:=List (List Int)) x.1 x.2.1))
def Qex:TTab:=⟨[QhG],false⟩
def Qtg:TCode :=
 (zsq [(zsq [(.reg [zmv 11 5,zmv 12 0,zle 13 12,zbi 14 .lss 11 13]),(.cond 14 .skip (.exit 0))]),(.block 1 (zsq [(.draw [zmv 17 0,zmv 18 5,zia 19 17 18 [(.sl [TI])],zLd 20 19 1,zmv 21 1,zmv 22 5,zia 23 21 22 [(.sl [TI])],zLd 24 23 1,zca 25 174 [20,24],zno 26 25] []),(.cond 26 (zsq [(.reg [zmv 4 (zkb false)]),.ret]) .skip)])),(.reg [zmv 15 5,zbi 16 .add 15 (zki 1),zmv 5 16])])
def Qmv:List (Nat × Md):=zdl [0,1,5]
def Qk0:TCode :=
 (zsq [(.reg [zmv 4 (zkb true)]),.ret])
def Qwf:TCode :=
 (zsq [(.reg [zmv 4 (zkb false)]),(zsq [(.reg [zmv 6 0,zle 7 6,zmv 8 1,zle 9 8,zbi 10 .neq 7 9]),(.cond 10 (zsq [(.reg [zmv 4 (zkb false)]),.ret]) .skip)]),(zsq [(.reg [zmv 5 (zki 0)]),(.block 0 (.loop Qmv Qtg))]),Qk0])
def Qli:List (ARv × Md):=[(.t 4,.one .d)]
def Qq6:Qb:=TQ 0 0 Qli K
def Qvd:Qb:=Qseq (tawp Qex 0 Qk0 (Qq6 K)) (Qq6 K)
def Qwd:Qb:=Qblk 0 (Qvd K)
def Qgi (a:List (List Int)) (b:List (List Int)) (i:Int):Prop:=Loop Qex 0 Qmv Qtg (Qwd K) ⟨[(0,(zcs [(.sl [TI])] a)),(1,(zcs [(.sl [TI])] b)),(5,(zci i))],[],0⟩
theorem Qvv (a:List (List Int)) (b:List (List Int)) (i:Int) (h :
 (zif (decide (i<(a.length:Int))) ((((0:Int)≤i∧Int.toNat i<a.length)∧((0:Int)≤i∧Int.toNat i<b.length))∧(zif (!(m_eq (α:=List Int) (gtd ([]:List Int) a (Int.toNat i)) (gtd ([]:List Int) b (Int.toNat i)))) (K (J2 false)) (Qgi K a b (w64 (i+(1:Int)))))) (K (J2 true)))):Qgi K a b i :=
 Loop.of (by kernel_rfl) h
theorem QtT (a:List (List Int)) (b:List (List Int)) (h :
 (zif ((a.length:Int) != (b.length:Int)) (K (J2 false)) (Qgi K a b 0))):Hold (tawp Qex (0+0) Qwf (TQ 0 0 Qli K) (Qf [(.c (.sl [(.sl [TI])]) a),(.c (.sl [(.sl [TI])]) b)])) :=
 Hold.of (by kernel_rfl) h
theorem QD6 (a:List (List Int)) (b:List (List Int)):TCon Tryz.prog 78 [(.c (.sl [(.sl [TI])]) a),(.c (.sl [(.sl [TI])]) b)] (J2 (m_eq (α:=List (List Int)) a b)):=by
 refine Qj rfl fun hb=>tcg (Γ:=Qex) (n:=27) (sg:=QbT.sg) Qi (TOkL.cons QAE TOkL.nil) (by kernel_rfl) (by kernel_rfl) (QtT _ a b ?_)
 exact Qcm ([]:List Int) (E:=m_eq) (fun _ _=>rfl) hb.1.1 (fun i h=>Qvv _ a b i h) (Q:=fun x=>J2 x=J2 (m_eq (α:=List (List Int)) a b)) rfl
theorem QjD:Qg Tryz.prog QbT:=Qk fun x _=>QD6 x.1 x.2.1
def QaU (t:Bool):TRes:=zre (zcb t)
def Qf4:TRow:=Qh 46 [(.a Zi),(.a Zi)] fun x=>(none,QaU (m_eq (α:=Qr) x.1 x.2.1))
def QqT:TTab:=⟨[QbT],false⟩
def Qzi:TCode :=
 (zsq [(.reg [zop 2 (.box 37 0 3),zop 3 (.box 37 1 3),zmv 4 (zkb false)]),(zsq [(.reg [zfa 5 2 0,zld 6 5 1,zfa 7 3 0,zld 8 7 1,zca 9 78 [6,8],zno 10 9]),(.cond 10 (zsq [(.reg [zmv 4 (zkb false)]),.ret]) .skip)]),(zsq [(.reg [zfa 11 2 1,zld 12 11 1,zfa 13 3 1,zld 14 13 1,zbi 15 .neq 12 14]),(.cond 15 (zsq [(.reg [zmv 4 (zkb false)]),.ret]) .skip)]),(zsq [(.reg [zfa 16 2 2,zld 17 16 1,zfa 18 3 2,zld 19 18 1,zop 20 (.eqb true 17 19)]),(.cond 20 (zsq [(.reg [zmv 4 (zkb false)]),.ret]) .skip)]),(.reg [zmv 4 (zkb true)]),.ret])
def QGo:List (ARv × Md):=[(.t 4,.one .d)]
theorem Qze (a:Qr) (b:Qr) (h :
 (zif (!(m_eq (α:=List (List Int)) a.1 b.1)) (K (QaU false)) (zif (a.2.1 != b.2.1) (K (QaU false)) (zif (!(a.2.2==b.2.2)) (K (QaU false)) (K (QaU true)))))):Hold (tawp QqT (0+0) Qzi (TQ 0 0 QGo K) (Qf [(.a (Tup.cells Zi a)),(.a (Tup.cells Zi b))])) :=
 Hold.of (by kernel_rfl) h
theorem QEM (a:Qr) (b:Qr):TCon Tryz.prog 46 [(.a (Tup.cells Zi a)),(.a (Tup.cells Zi b))] (QaU (m_eq (α:=Qr) a b)):=by
 refine Qj rfl fun hb=>tcg (Γ:=QqT) (n:=21) (sg:=Qf4.sg) Qi (TOkL.cons QjD TOkL.nil) (by kernel_rfl) (by kernel_rfl) (Qze _ a b ?_)
 refine ⟨fun h=>R_eq (Eq.symm (decide_eq_false (by rintro rfl;simp [m_eq] at h))),fun h0=>?_⟩
 refine ⟨fun h=>R_eq (Eq.symm (decide_eq_false (by rintro rfl;simp [m_eq] at h))),fun h1=>?_⟩
 refine ⟨fun h=>R_eq (Eq.symm (decide_eq_false (by rintro rfl;simp [m_eq] at h))),fun h2=>?_⟩
 refine R_eq (Eq.symm (decide_eq_true ?_))
 simp [m_eq] at h0 h1 h2
 simp [Prod.ext_iff, *]
theorem QuE:Qg Tryz.prog Qf4:=Qk fun x _=>QEM x.1 x.2.1
end
end Go.Proofs.YtdplaepmjogjjaaGreat.Am

