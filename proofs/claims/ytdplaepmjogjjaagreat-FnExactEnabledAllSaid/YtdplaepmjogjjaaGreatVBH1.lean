/- -/
import Derived.Test.YtdplaepmjogjjaaGreatVBGF
namespace Go.Proofs.YtdplaepmjogjjaaGreat.Am
open Go Go.RowKit Go.Proofs.YtdplaepmjogjjaaGreat
set_option linter.all false
noncomputable section
variable (K:TRes→Prop)
def Qa5 (t:Int):TRes:=zre (zci t)
def JN:TRow:=Qi 59 [(.c (.sl [TI])),(.c TI)] fun x=>(some (p_sz (α:=List Int) x.1 x.2.1),Qa5 (m_sz (α:=List Int) x.1 x.2.1))
def QlP:TTab:=⟨[],false⟩
def Qzf:TCode :=
 (zsq [(.reg [zmv 4 (zki 0)]),(.reg [zmv 5 1,zmv 6 0,zle 7 6,zbi 8 .sub 5 7,zmv 1 8]),(zsq [(.reg [zmv 9 1,zbi 10 .lss 9 (zki 0)]),(.cond 10 (zsq [(.reg [zmv 4 (zki (-1))]),.ret]) .skip)]),(.reg [zmv 11 1,zmv 4 11]),.ret])
def Qtd:List (ARv × Md):=[(.t 4,.one .d)]
theorem Qub (a:List Int) (left:Int) (h :
 (zif (decide ((w64 (left-(a.length:Int)))<(0:Int))) (K (Qa5 (-1:Int))) (K (Qa5 (w64 (left-(a.length:Int))))))):Hold (tawp QlP (0+0) Qzf (TQ 0 0 Qtd K) (Qg [(.c (.sl [TI]) a),(.c TI left)])) :=
 Hold.of (by kernel_rfl) h
theorem Quu (a:List Int) (left:Int) (hp:p_sz (α:=List Int) a left):TCon Tryz.prog 59 [(.c (.sl [TI]) a),(.c TI left)] (Qa5 (m_sz (α:=List Int) a left)):=by
 refine Qk rfl fun hb=>tcg (Γ:=QlP) (n:=12) (sg:=JN.sg) Ql TOkL.nil (by kernel_rfl) (by kernel_rfl) (Qub _ a left ?_)
 exact QjX (Q:=fun x=>Qa5 x=Qa5 (m_sz (α:=List Int) a left)) (fun _=>rfl) hp hb.1.1 rfl
theorem QbJ:Qj Tryz.prog JN:=Qn fun x h=>Quu x.1 x.2.1 h
def Qcy (t:Int):TRes:=zre (zci t)
def Qfm:TRow:=Qi 154 [(.a [(.sl [TI])]),(.c TI)] fun x=>(some (p_sz (α:=List Int) x.1 x.2.1),Qcy (m_sz (α:=List Int) x.1 x.2.1))
def Qoe:TTab:=⟨[JN],false⟩
def QCh:TCode :=
 (zsq [(.reg [zop 2 (.box 189 0 1),zmv 4 (zki 0)]),(.reg [zfa 5 2 0,zld 6 5 1,zmv 7 1,zca 8 59 [6,7],zmv 1 8]),(zsq [(.reg [zmv 9 1,zbi 10 .lss 9 (zki 0)]),(.cond 10 (zsq [(.reg [zmv 4 (zki (-1))]),.ret]) .skip)]),(.reg [zmv 11 1,zmv 4 11]),.ret])
def QEe:List (ARv × Md):=[(.t 4,.one .d)]
theorem QC9 (a:List Int) (left:Int) (h :
 ((p_sz (α:=List Int) a left)∧(zif (decide ((m_sz (α:=List Int) a left)<(0:Int))) (K (Qcy (-1:Int))) (K (Qcy (m_sz (α:=List Int) a left)))))):Hold (tawp Qoe (0+0) QCh (TQ 0 0 QEe K) (Qg [(.a [(.c (.sl [TI]) a)]),(.c TI left)])) :=
 Hold.of (by kernel_rfl) h
theorem QE2 (a:List Int) (left:Int) (hp:p_sz (α:=List Int) a left):TCon Tryz.prog 154 [(.a [(.c (.sl [TI]) a)]),(.c TI left)] (Qcy (m_sz (α:=List Int) a left)):=by
 refine Qk rfl fun hb=>tcg (Γ:=Qoe) (n:=12) (sg:=Qfm.sg) Ql (TOkL.cons QbJ TOkL.nil) (by kernel_rfl) (by kernel_rfl) (QC9 _ a left ?_)
 refine ⟨hp,fun h=>R_eq (Q6 (of_decide_eq_true h) (by first | omega | (simp only [QD,QE,QK];omega)) hp.1),fun h=>?_⟩
 exact R_eq (congrArg (Za · _) (by first | rfl | omega | (simp only [QD,QE,QK];omega)))
theorem Qwt:Qj Tryz.prog Qfm:=Qn fun x h=>QE2 x.1 x.2.1 h
def Qay (t:Int):TRes:=zre (zci t)
def Qb6:TRow:=Qi 58 [(.c (.sl [(.sl [TI])])),(.c TI)] fun x=>(some (p_sz (α:=List (List Int)) x.1 x.2.1),Qay (m_sz (α:=List (List Int)) x.1 x.2.1))
def QeB:TTab:=⟨[Qfm],false⟩
def Qpm:TCode :=
 (zsq [(zsq [(.reg [zmv 12 5,zmv 13 0,zle 14 13,zbi 15 .lss 12 14]),(.cond 15 .skip (.exit 0))]),(.block 1 (zsq [(.reg [zmv 18 0,zmv 19 5,zia 20 18 19 [(.sl [TI])],zLd 21 20 1,zmv 22 1,zca 23 154 [21,22],zmv 1 23]),(.reg [zmv 24 1,zbi 25 .lss 24 (zki 0)]),(.cond 25 (zsq [(.reg [zmv 4 (zki (-1))]),.ret]) .skip)])),(.reg [zmv 16 5,zbi 17 .add 16 (zki 1),zmv 5 17])])
def QnS:List (Nat × Md):=zdl [0,1,5]
def Qke:TCode :=
 (zsq [(.reg [zmv 26 1,zmv 4 26]),.ret])
def QBz:TCode :=
 (zsq [(.reg [zmv 4 (zki 0)]),(.reg [zmv 6 1,zmv 7 0,zle 8 7,zbi 9 .sub 6 8,zmv 1 9]),(zsq [(.reg [zmv 10 1,zbi 11 .lss 10 (zki 0)]),(.cond 11 (zsq [(.reg [zmv 4 (zki (-1))]),.ret]) .skip)]),(zsq [(.reg [zmv 5 (zki 0)]),(.block 0 (.loop QnS Qpm))]),Qke])
def Qo0:List (ARv × Md):=[(.t 4,.one .d)]
def Qm1:Qb:=TQ 0 0 Qo0 K
def QAS:Qb:=Qseq (tawp QeB 0 Qke (Qm1 K)) (Qm1 K)
def QC7:Qb:=Qblk 0 (QAS K)
def Qf4 (a:List (List Int)) (left1:Int) (i:Int):Prop:=Loop QeB 0 QnS Qpm (QC7 K) ⟨[(0,(zcs [(.sl [TI])] a)),(1,(zci left1)),(5,(zci i))],[],0⟩
theorem QEA (a:List (List Int)) (left1:Int) (i:Int) (h :
 (zif (decide (i<(a.length:Int))) ((((0:Int)≤i∧Int.toNat i<a.length)∧(p_sz (α:=List Int) (gtd ([]:List Int) a (Int.toNat i)) left1))∧(zif (decide ((m_sz (α:=List Int) (gtd ([]:List Int) a (Int.toNat i)) left1)<(0:Int))) (K (Qay (-1:Int))) (Qf4 K a (m_sz (α:=List Int) (gtd ([]:List Int) a (Int.toNat i)) left1) (w64 (i+(1:Int)))))) (K (Qay left1)))):Qf4 K a left1 i :=
 Loop.of (by kernel_rfl) h
theorem QuT (a:List (List Int)) (left:Int) (h :
 (zif (decide ((w64 (left-(a.length:Int)))<(0:Int))) (K (Qay (-1:Int))) (Qf4 K a (w64 (left-(a.length:Int))) 0))):Hold (tawp QeB (0+0) QBz (TQ 0 0 Qo0 K) (Qg [(.c (.sl [(.sl [TI])]) a),(.c TI left)])) :=
 Hold.of (by kernel_rfl) h
theorem Qv5 (a:List (List Int)) (left:Int) (hp:p_sz (α:=List (List Int)) a left):TCon Tryz.prog 58 [(.c (.sl [(.sl [TI])]) a),(.c TI left)] (Qay (m_sz (α:=List (List Int)) a left)):=by
 refine Qk rfl fun hb=>tcg (Γ:=QeB) (n:=27) (sg:=Qb6.sg) Ql (TOkL.cons Qwt TOkL.nil) (by kernel_rfl) (by kernel_rfl) (QuT _ a left ?_)
 exact JM (Q:=fun x=>Qay x=Qay (m_sz (α:=List (List Int)) a left)) ([]:List Int) hp hb.1.1 (fun l i h=>QEA _ a l i h) rfl
theorem QiG:Qj Tryz.prog Qb6:=Qn fun x h=>Qv5 x.1 x.2.1 h
def Qeq (t:Int):TRes:=zre (zci t)
def QhS:TRow:=Qi 60 [(.a ZA),(.c TI)] fun x=>(some (p_sz (α:=QT) x.1 x.2.1),Qeq (m_sz (α:=QT) x.1 x.2.1))
def Qpp:TTab:=⟨[Qb6],false⟩
def Qs0:TCode :=
 (zsq [(.reg [zop 2 (.box 28 0 3),zmv 4 (zki 0)]),(.reg [zfa 5 2 0,zld 6 5 1,zmv 7 1,zca 8 58 [6,7],zmv 1 8]),(zsq [(.reg [zmv 9 1,zbi 10 .lss 9 (zki 0)]),(.cond 10 (zsq [(.reg [zmv 4 (zki (-1))]),.ret]) .skip)]),(.reg [zmv 11 1,zmv 4 11]),.ret])
def QsL:List (ARv × Md):=[(.t 4,.one .d)]
theorem QAW (a:QT) (left:Int) (h :
 ((p_sz (α:=List (List Int)) a.1 left)∧(zif (decide ((m_sz (α:=List (List Int)) a.1 left)<(0:Int))) (K (Qeq (-1:Int))) (K (Qeq (m_sz (α:=List (List Int)) a.1 left)))))):Hold (tawp Qpp (0+0) Qs0 (TQ 0 0 QsL K) (Qg [(.a (Tup.cells ZA a)),(.c TI left)])) :=
 Hold.of (by kernel_rfl) h
theorem QAx (a:QT) (left:Int) (hp:p_sz (α:=QT) a left):TCon Tryz.prog 60 [(.a (Tup.cells ZA a)),(.c TI left)] (Qeq (m_sz (α:=QT) a left)):=by
 refine Qk rfl fun hb=>tcg (Γ:=Qpp) (n:=12) (sg:=QhS.sg) Ql (TOkL.cons QiG TOkL.nil) (by kernel_rfl) (by kernel_rfl) (QAW _ a left ?_)
 refine ⟨hp,fun h=>R_eq (Q6 (of_decide_eq_true h) (by first | omega | (simp only [QD,QE,QK];omega)) hp.1),fun h=>?_⟩
 exact R_eq (congrArg (Za · _) (by first | rfl | omega | (simp only [QD,QE,QK];omega)))
theorem QwN:Qj Tryz.prog QhS:=Qn fun x h=>QAx x.1 x.2.1 h
def Qbr (t:Int):TRes:=zre (zci t)
def Qgp:TRow:=Qi 116 [(.a QA),(.c TI)] fun x=>(some (p_sz (α:=Qh) x.1 x.2.1),Qbr (m_sz (α:=Qh) x.1 x.2.1))
def Qmi:TTab:=⟨[JN],false⟩
def QAv:TCode :=
 (zsq [(.reg [zop 2 (.box 151 0 2),zmv 4 (zki 0)]),(.reg [zfa 5 2 0,zld 6 5 1,zmv 7 1,zca 8 59 [6,7],zmv 1 8]),(zsq [(.reg [zmv 9 1,zbi 10 .lss 9 (zki 0)]),(.cond 10 (zsq [(.reg [zmv 4 (zki (-1))]),.ret]) .skip)]),(.reg [zfa 11 2 1,zld 12 11 1,zmv 13 1,zca 14 59 [12,13],zmv 1 14]),(zsq [(.reg [zmv 15 1,zbi 16 .lss 15 (zki 0)]),(.cond 16 (zsq [(.reg [zmv 4 (zki (-1))]),.ret]) .skip)]),(.reg [zmv 17 1,zmv 4 17]),.ret])
def QwF:List (ARv × Md):=[(.t 4,.one .d)]
theorem QzE (a:Qh) (left:Int) (h :
 ((p_sz (α:=List Int) a.1 left)∧(zif (decide ((m_sz (α:=List Int) a.1 left)<(0:Int))) (K (Qbr (-1:Int))) ((p_sz (α:=List Int) a.2 (m_sz (α:=List Int) a.1 left))∧(zif (decide ((m_sz (α:=List Int) a.2 (m_sz (α:=List Int) a.1 left))<(0:Int))) (K (Qbr (-1:Int))) (K (Qbr (m_sz (α:=List Int) a.2 (m_sz (α:=List Int) a.1 left))))))))):Hold (tawp Qmi (0+0) QAv (TQ 0 0 QwF K) (Qg [(.a [(.c (.sl [TI]) a.1),(.c (.sl [TI]) a.2)]),(.c TI left)])) :=
 Hold.of (by kernel_rfl) h
theorem QBJ (a:Qh) (left:Int) (hp:p_sz (α:=Qh) a left):TCon Tryz.prog 116 [(.a [(.c (.sl [TI]) a.1),(.c (.sl [TI]) a.2)]),(.c TI left)] (Qbr (m_sz (α:=Qh) a left)):=by
 refine Qk rfl fun hb=>tcg (Γ:=Qmi) (n:=18) (sg:=Qgp.sg) Ql (TOkL.cons QbJ TOkL.nil) (by kernel_rfl) (by kernel_rfl) (QzE _ a left ?_)
 refine ⟨hp,fun h=>R_eq (Q6 (of_decide_eq_true h) (by first | omega | (simp only [QD,QE,QK];omega)) hp.1),fun h=>?_⟩
 rw [ZW (Int.not_lt.1 (of_decide_eq_false h))]
 refine ⟨ZU hp,fun h=>R_eq (Q6 (of_decide_eq_true h) (by first | omega | (simp only [QD,QE,QK];omega)) hp.1),fun h=>?_⟩
 exact R_eq (congrArg (Za · _) (by first | rfl | omega | (simp only [QD,QE,QK];omega)))
theorem Qvi:Qj Tryz.prog Qgp:=Qn fun x h=>QBJ x.1 x.2.1 h
def Qam (t:Int):TRes:=zre (zci t)
def Qg1:TRow:=Qi 34 [(.c (.sl QA)),(.c TI)] fun x=>(some (p_sz (α:=List Qh) x.1 x.2.1),Qam (m_sz (α:=List Qh) x.1 x.2.1))
def Qc8:TTab:=⟨[Qgp],false⟩
def Qri:TCode :=
 (zsq [(zsq [(.reg [zmv 12 5,zmv 13 0,zle 14 13,zbi 15 .lss 12 14]),(.cond 15 .skip (.exit 0))]),(.block 1 (zsq [(.reg [zmv 18 0,zmv 19 5,zia 20 18 19 QA,zLd 21 20 2,zmv 22 1,zca 23 116 [21,22],zmv 1 23]),(.reg [zmv 24 1,zbi 25 .lss 24 (zki 0)]),(.cond 25 (zsq [(.reg [zmv 4 (zki (-1))]),.ret]) .skip)])),(.reg [zmv 16 5,zbi 17 .add 16 (zki 1),zmv 5 17])])
def Qqc:List (Nat × Md):=zdl [0,1,5]
def QkX:TCode :=
 (zsq [(.reg [zmv 26 1,zmv 4 26]),.ret])
def QE6:TCode :=
 (zsq [(.reg [zmv 4 (zki 0)]),(.reg [zmv 6 1,zmv 7 0,zle 8 7,zbi 9 .sub 6 8,zmv 1 9]),(zsq [(.reg [zmv 10 1,zbi 11 .lss 10 (zki 0)]),(.cond 11 (zsq [(.reg [zmv 4 (zki (-1))]),.ret]) .skip)]),(zsq [(.reg [zmv 5 (zki 0)]),(.block 0 (.loop Qqc Qri))]),QkX])
def Qnp:List (ARv × Md):=[(.t 4,.one .d)]
def QrG:Qb:=TQ 0 0 Qnp K
def Qvn:Qb:=Qseq (tawp Qc8 0 QkX (QrG K)) (QrG K)
def Qzo:Qb:=Qblk 0 (Qvn K)
def Qf1 (a:List Qh) (left1:Int) (i:Int):Prop:=Loop Qc8 0 Qqc Qri (Qzo K) ⟨[(0,(zcs QA a)),(1,(zci left1)),(5,(zci i))],[],0⟩
theorem Qvk (a:List Qh) (left1:Int) (i:Int) (h :
 (zif (decide (i<(a.length:Int))) ((((0:Int)≤i∧Int.toNat i<a.length)∧(p_sz (α:=Qh) (gtd QZ a (Int.toNat i)) left1))∧(zif (decide ((m_sz (α:=Qh) (gtd QZ a (Int.toNat i)) left1)<(0:Int))) (K (Qam (-1:Int))) (Qf1 K a (m_sz (α:=Qh) (gtd QZ a (Int.toNat i)) left1) (w64 (i+(1:Int)))))) (K (Qam left1)))):Qf1 K a left1 i :=
 Loop.of (by kernel_rfl) h
theorem QzN (a:List Qh) (left:Int) (h :
 (zif (decide ((w64 (left-(a.length:Int)))<(0:Int))) (K (Qam (-1:Int))) (Qf1 K a (w64 (left-(a.length:Int))) 0))):Hold (tawp Qc8 (0+0) QE6 (TQ 0 0 Qnp K) (Qg [(.c (.sl QA) a),(.c TI left)])) :=
 Hold.of (by kernel_rfl) h
theorem Qxy (a:List Qh) (left:Int) (hp:p_sz (α:=List Qh) a left):TCon Tryz.prog 34 [(.c (.sl QA) a),(.c TI left)] (Qam (m_sz (α:=List Qh) a left)):=by
 refine Qk rfl fun hb=>tcg (Γ:=Qc8) (n:=27) (sg:=Qg1.sg) Ql (TOkL.cons Qvi TOkL.nil) (by kernel_rfl) (by kernel_rfl) (QzN _ a left ?_)
 exact JM (Q:=fun x=>Qam x=Qam (m_sz (α:=List Qh) a left)) QZ hp hb.1.1 (fun l i h=>Qvk _ a l i h) rfl
theorem QzV:Qj Tryz.prog Qg1:=Qn fun x h=>Qxy x.1 x.2.1 h
def Y7 (t:(List Int)):TRes:=⟨(.r [TI] 0 0 t.length),[(.sl 3 [TI] (.dp 0 true []) t)],[],false,[]⟩
def JO:TRow:=Qi 29 [(.c (.sl [TI]))] fun x=>(some (p_to (α:=List Int) x.1),Y7 (id (α:=List Int) x.1))
def Qds:TTab:=⟨[],true⟩
def Qqe:TCode :=
 (zsq [(zsq [(.reg [zmv 8 4,zmv 9 0,zle 10 9,zbi 11 .lss 8 10]),(.cond 11 .skip (.exit 0))]),(.block 1 (.reg [zmv 14 3,zmv 15 4,zmv 16 0,zmv 17 4,zia 18 16 17 [TI],zld 19 18 1,zia 20 14 15 [TI],zst 20 19 1])),(.reg [zmv 12 4,zbi 13 .add 12 (zki 1),zmv 4 13])])
def Qkk:List (Nat × Md):=[(0,.one .d),(3,.one .f),(4,.one .d)]
def QlC:TCode :=
 (zsq [(.reg [zmv 21 3,zmv 2 21]),.ret])
def QxG:TCode :=
 (zsq [(.reg [zmv 2 (.k (.n [TI]))]),(.reg [zmv 5 0,zle 6 5,zop 7 (.mk 3 [TI] [(zci 0)] 6),zmv 3 7]),(zsq [(.reg [zmv 4 (zki 0)]),(.block 0 (.loop Qkk Qqe))]),QlC])
def Qjz:List (ARv × Md):=[(.t 2,.one (.p 3))]
def Qld:Qb:=TQ 0 0 Qjz K
def Qzb:Qb:=Qseq (tawp Qds 0 QlC (Qld K)) (Qld K)
def Qzr:Qb:=Qblk 0 (Qzb K)
def Qef (a:List Int) (i:Int) (out:List Int):Prop:=Loop Qds 0 Qkk Qqe (Qzr K) ⟨[(0,(zcs [TI] a)),(3,(.r [TI] 0 0 out.length)),(4,(zci i))],[(0,(.sl 3 [TI] (.dp 0 true []) out))],1⟩
theorem QkT (a:List Int) (i:Int) (out:List Int) (h :
 (zif (decide (i<(a.length:Int))) ((((0:Int)≤i∧Int.toNat i<a.length)∧(((0:Int)≤i∧Int.toNat i<out.length)∧((0+(Int.toNat i))<out.length)))∧(Qef K a (w64 (i+(1:Int))) (List.take out.length ((out).set (0+(Int.toNat i)) (gtd (0:Int) a (Int.toNat i)))))) (K (Y7 (List.take out.length out))))):Qef K a i out :=
 Loop.of (by kernel_rfl) h
theorem Qs9 (a:List Int) (h :
 (((0:Int)≤(a.length:Int)∧(a.length:Int)≤big)∧(Qef K a 0 (List.take (Int.toNat (a.length:Int)) (List.replicate (Int.toNat (a.length:Int)) (0:Int)))))):Hold (tawp Qds (0+0) QxG (TQ 0 0 Qjz K) (Qg [(.c (.sl [TI]) a)])) :=
 Hold.of (by kernel_rfl) h
theorem QuD (a:List Int) (hp:p_to (α:=List Int) a):TCon Tryz.prog 29 [(.c (.sl [TI]) a)] (Y7 (id (α:=List Int) a)):=by
 refine Qk rfl fun hb=>tcg (Γ:=Qds) (n:=22) (sg:=JO.sg) Ql TOkL.nil (by kernel_rfl) (by kernel_rfl) (Qs9 _ a ?_)
 refine ⟨⟨by omega,by rw [bigI];have:=Zh hp;omega⟩,?_⟩
 refine YW a (A:=fun ii ll=>Qef (fun r'=>r'=Y7 (id (α:=List Int) a)) a ii ll) (Q:=fun z=>Y7 z=Y7 (id (α:=List Int) a)) hp ?_ ?_ rfl
 ·intro k x out hlt hg ho hx hA
  have hw:w64 (((k:Nat):Int)+1)=((k+1:Nat):Int):=by have:=Zh hp;rw [Qw (by omega) (by omega)];omega
  have hlo:k<out.length:=by omega
  refine QkT (fun r'=>r'=Y7 (id (α:=List Int) a)) a ((k:Nat):Int) out ?_
  refine ⟨fun _=>?_,fun h=>absurd h (by simp;omega)⟩
  simp only [Int.toNat_natCast,Nat.zero_add,hg,hw,hlt,hlo,YB,List.drop_zero,List.take_length,id_eq,and_true,true_and,Int.natCast_nonneg]
  first | exact hA | exact ⟨hx,hA⟩
 ·intro out ho hq
  refine QkT (fun r'=>r'=Y7 (id (α:=List Int) a)) a ((a.length:Nat):Int) out ?_
  refine ⟨fun h=>absurd h (by simp),fun _=>?_⟩
  simp only [List.drop_zero,List.take_length]
  exact hq
theorem QbF:Qj Tryz.prog JO:=Qn fun x h=>QuD x.1 h
def Qh0 (t:(List Int)):TRes:=⟨(.a [(.r [TI] 0 0 t.length)]),[(.sl 3 [TI] (.dp 0 true []) t)],[],false,[]⟩
def Qgk:TRow:=Qi 164 [(.a [(.sl [TI])])] fun x=>(some (p_to (α:=List Int) x.1),Qh0 (id (α:=List Int) x.1))
def Qjh:TTab:=⟨[JO],true⟩
def QDD:TCode :=
 (zsq [(.reg [zop 1 (.box 189 0 1),zop 2 (.new 106 [(.n [TI])])]),(.reg [zop 3 (.new 106 [(.n [TI])])]),(.reg [zfa 4 1 0,zld 5 4 1,zca 6 29 [5],zfa 7 3 0,zst 7 6 1]),(.reg [zLd 8 3 1,zst 2 8 1]),.ret])
def QE7:List (ARv × Md):=[(.l 2 1 true,.b [.p 3])]
theorem QsC (a:List Int) (h :
 ((p_to (α:=List Int) a)∧K (Qh0 (List.take ((id (α:=List Int) a).length) (id (α:=List Int) a))))):Hold (tawp Qjh (0+0) QDD (TQ 0 0 QE7 K) (Qg [(.a [(.c (.sl [TI]) a)])])) :=
 Hold.of (by kernel_rfl) h
theorem QEG (a:List Int) (hp:p_to (α:=List Int) a):TCon Tryz.prog 164 [(.a [(.c (.sl [TI]) a)])] (Qh0 (id (α:=List Int) a)):=by
 refine Qk rfl fun hb=>tcg (Γ:=Qjh) (n:=9) (sg:=Qgk.sg) Ql (TOkL.cons QbF TOkL.nil) (by kernel_rfl) (by kernel_rfl) (QsC _ a ?_)
 repeat' (first | refine And.intro ?_ ?_ | exact R_eq (by simp))
 all_goals (simp only [p_to,QD,QE,QK,List.drop_zero,List.take_length,id_eq] at hp ⊢;omega)
theorem Qtl:Qj Tryz.prog Qgk:=Qn fun x h=>QEG x.1 h
def Y9 (t:(List (List Int))):TRes:=⟨(.r [(.sl [TI])] 0 0 t.length),[(.sl 106 [(.sl [TI])] (.dp 0 true []) t)],[],false,[]⟩
def QbO:TRow:=Qi 68 [(.c (.sl [(.sl [TI])]))] fun x=>(some (p_to (α:=List (List Int)) x.1),Y9 (id (α:=List (List Int)) x.1))
def Qdl:TTab:=⟨[Qgk],true⟩
def Qlj:TCode :=
 (zsq [(zsq [(.reg [zmv 8 4,zmv 9 0,zle 10 9,zbi 11 .lss 8 10]),(.cond 11 .skip (.exit 0))]),(.block 1 (.reg [zmv 14 3,zmv 15 4,zmv 16 0,zmv 17 4,zia 18 16 17 [(.sl [TI])],zLd 19 18 1,zca 20 164 [19],zia 21 14 15 [(.sl [TI])],zst 21 20 1])),(.reg [zmv 12 4,zbi 13 .add 12 (zki 1),zmv 4 13])])
def Qi9:List (Nat × Md):=[(0,.one .d),(3,.one .f),(4,.one .d)]
def Qoq:TCode :=
 (zsq [(.reg [zmv 22 3,zmv 2 22]),.ret])
def Qun:TCode :=
 (zsq [(.reg [zmv 2 (.k (.n [(.sl [TI])]))]),(.reg [zmv 5 0,zle 6 5,zop 7 (.mk 106 [(.sl [TI])] [(.n [TI])] 6),zmv 3 7]),(zsq [(.reg [zmv 4 (zki 0)]),(.block 0 (.loop Qi9 Qlj))]),Qoq])
def QoH:List (ARv × Md):=[(.t 2,.one (.p 106))]
def Qkv:Qb:=TQ 0 0 QoH K
def Qz6:Qb:=Qseq (tawp Qdl 0 Qoq (Qkv K)) (Qkv K)
def Qu7:Qb:=Qblk 0 (Qz6 K)
def QcH (a:List (List Int)) (i:Int) (out:List (List Int)):Prop:=Loop Qdl 0 Qi9 Qlj (Qu7 K) ⟨[(0,(zcs [(.sl [TI])] a)),(3,(.r [(.sl [TI])] 0 0 out.length)),(4,(zci i))],[(0,(.sl 106 [(.sl [TI])] (.dp 0 true []) out))],1⟩
theorem Qop (a:List (List Int)) (i:Int) (out:List (List Int)) (h :
 (zif (decide (i<(a.length:Int))) ((((0:Int)≤i∧Int.toNat i<a.length)∧((p_to (α:=List Int) (gtd ([]:List Int) a (Int.toNat i)))∧(((0:Int)≤i∧Int.toNat i<out.length)∧((0+(Int.toNat i))<out.length))))∧(QcH K a (w64 (i+(1:Int))) (List.take out.length ((out).set (0+(Int.toNat i)) (List.take ((id (α:=List Int) (gtd ([]:List Int) a (Int.toNat i))).length) (List.drop 0 (id (α:=List Int) (gtd ([]:List Int) a (Int.toNat i))))))))) (K (Y9 (List.take out.length out))))):QcH K a i out :=
 Loop.of (by kernel_rfl) h
theorem QxV (a:List (List Int)) (h :
 (((0:Int)≤(a.length:Int)∧(a.length:Int)≤big)∧(QcH K a 0 (List.take (Int.toNat (a.length:Int)) (List.replicate (Int.toNat (a.length:Int)) ([]:List Int)))))):Hold (tawp Qdl (0+0) Qun (TQ 0 0 QoH K) (Qg [(.c (.sl [(.sl [TI])]) a)])) :=
 Hold.of (by kernel_rfl) h
theorem QEY (a:List (List Int)) (hp:p_to (α:=List (List Int)) a):TCon Tryz.prog 68 [(.c (.sl [(.sl [TI])]) a)] (Y9 (id (α:=List (List Int)) a)):=by
 refine Qk rfl fun hb=>tcg (Γ:=Qdl) (n:=23) (sg:=QbO.sg) Ql (TOkL.cons Qtl TOkL.nil) (by kernel_rfl) (by kernel_rfl) (QxV _ a ?_)
 refine ⟨⟨by omega,by rw [bigI];have:=Zh hp;omega⟩,?_⟩
 refine YW a (A:=fun ii ll=>QcH (fun r'=>r'=Y9 (id (α:=List (List Int)) a)) a ii ll) (Q:=fun z=>Y9 z=Y9 (id (α:=List (List Int)) a)) hp ?_ ?_ rfl
 ·intro k x out hlt hg ho hx hA
  have hw:w64 (((k:Nat):Int)+1)=((k+1:Nat):Int):=by have:=Zh hp;rw [Qw (by omega) (by omega)];omega
  have hlo:k<out.length:=by omega
  refine Qop (fun r'=>r'=Y9 (id (α:=List (List Int)) a)) a ((k:Nat):Int) out ?_
  refine ⟨fun _=>?_,fun h=>absurd h (by simp;omega)⟩
  simp only [Int.toNat_natCast,Nat.zero_add,hg,hw,hlt,hlo,YB,List.drop_zero,List.take_length,id_eq,and_true,true_and,Int.natCast_nonneg]
  first | exact hA | exact ⟨hx,hA⟩
 ·intro out ho hq
  refine Qop (fun r'=>r'=Y9 (id (α:=List (List Int)) a)) a ((a.length:Nat):Int) out ?_
  refine ⟨fun h=>absurd h (by simp),fun _=>?_⟩
  simp only [List.drop_zero,List.take_length]
  exact hq
theorem Qh7:Qj Tryz.prog QbO:=Qn fun x h=>QEY x.1 h
def Qfv (t:QT):TRes:=⟨(.a [(.r [(.sl [TI])] 0 0 ((t.1).length)),(zci t.2.1),(zcb t.2.2)]),[(.sl 106 [(.sl [TI])] (.dp 0 true []) t.1)],[],false,[]⟩
def Qf6:TRow:=Qi 69 [(.a ZA)] fun x=>(some (p_to (α:=QT) x.1),Qfv (id (α:=QT) x.1))
def Qm0:TTab:=⟨[QbO],true⟩
def Qsm:TCode :=
 (zsq [(.reg [zop 1 (.box 28 0 3),zop 2 (.new 37 (z0s ZA))]),(.reg [zop 3 (.new 37 (z0s ZA))]),(.reg [zfa 4 1 0,zld 5 4 1,zca 6 68 [5],zfa 7 3 0,zst 7 6 1]),(.reg [zfa 8 1 1,zld 9 8 1,zfa 10 3 1,zst 10 9 1]),(.reg [zfa 11 1 2,zld 12 11 1,zfa 13 3 2,zst 13 12 1]),(.reg [zLd 14 3 3,zst 2 14 3]),.ret])
def QCl:List (ARv × Md):=[(.l 2 3 true,.b [.p 106,.d,.d])]
theorem QCy (a:QT) (h :
 ((p_to (α:=List (List Int)) a.1)∧K (Qfv ((List.take ((id (α:=List (List Int)) a.1).length) (id (α:=List (List Int)) a.1)),a.2.1,a.2.2)))):Hold (tawp Qm0 (0+0) Qsm (TQ 0 0 QCl K) (Qg [(.a (Tup.cells ZA a))])) :=
 Hold.of (by kernel_rfl) h
theorem QE9 (a:QT) (hp:p_to (α:=QT) a):TCon Tryz.prog 69 [(.a (Tup.cells ZA a))] (Qfv (id (α:=QT) a)):=by
 refine Qk rfl fun hb=>tcg (Γ:=Qm0) (n:=15) (sg:=Qf6.sg) Ql (TOkL.cons Qh7 TOkL.nil) (by kernel_rfl) (by kernel_rfl) (QCy _ a ?_)
 repeat' (first | refine And.intro ?_ ?_ | exact R_eq (by simp))
 all_goals (simp only [p_to,QD,QE,QK,List.drop_zero,List.take_length,id_eq] at hp ⊢;omega)
theorem QED:Qj Tryz.prog Qf6:=Qn fun x h=>QE9 x.1 h
def Qgm (t:Qh):TRes:=⟨(.a [(.r [TI] 0 0 ((t.1).length)),(.r [TI] 1 0 ((t.2).length))]),[(.sl 3 [TI] (.dp 0 true []) t.1),(.sl 3 [TI] (.dp 0 true []) t.2)],[],false,[]⟩
def QfY:TRow:=Qi 124 [(.a QA)] fun x=>(some (p_to (α:=Qh) x.1),Qgm (id (α:=Qh) x.1))
def QoL:TTab:=⟨[JO],true⟩
def Qtj:TCode :=
 (zsq [(.reg [zop 1 (.box 151 0 2),zop 2 (.new 154 (z0s QA))]),(.reg [zop 3 (.new 154 (z0s QA))]),(.reg [zfa 4 1 0,zld 5 4 1,zca 6 29 [5],zfa 7 3 0,zst 7 6 1]),(.reg [zfa 8 1 1,zld 9 8 1,zca 10 29 [9],zfa 11 3 1,zst 11 10 1]),(.reg [zLd 12 3 2,zst 2 12 2]),.ret])
def QFb:List (ARv × Md):=[(.l 2 2 true,.b [.p 3,.p 3])]
theorem Qsz (a:Qh) (h :
 ((p_to (α:=List Int) a.1)∧((p_to (α:=List Int) a.2)∧K (Qgm ((List.take ((id (α:=List Int) a.1).length) (id (α:=List Int) a.1)),(List.take ((id (α:=List Int) a.2).length) (id (α:=List Int) a.2))))))):Hold (tawp QoL (0+0) Qtj (TQ 0 0 QFb K) (Qg [(.a [(.c (.sl [TI]) a.1),(.c (.sl [TI]) a.2)])])) :=
 Hold.of (by kernel_rfl) h
theorem Qsc (a:Qh) (hp:p_to (α:=Qh) a):TCon Tryz.prog 124 [(.a [(.c (.sl [TI]) a.1),(.c (.sl [TI]) a.2)])] (Qgm (id (α:=Qh) a)):=by
 refine Qk rfl fun hb=>tcg (Γ:=QoL) (n:=13) (sg:=QfY.sg) Ql (TOkL.cons QbF TOkL.nil) (by kernel_rfl) (by kernel_rfl) (Qsz _ a ?_)
 repeat' (first | refine And.intro ?_ ?_ | exact R_eq (by simp))
 all_goals (simp only [p_to,QD,QE,QK,List.drop_zero,List.take_length,id_eq] at hp ⊢;omega)
theorem Qyz:Qj Tryz.prog QfY:=Qn fun x h=>Qsc x.1 h
def Jc (t:(List Qh)):TRes:=⟨(.r QA 0 0 t.length),[(.sl 154 QA (.dp 0 true []) t)],[],false,[]⟩
def QhH:TRow:=Qi 37 [(.c (.sl QA))] fun x=>(some (p_to (α:=List Qh) x.1),Jc (id (α:=List Qh) x.1))
def Qdd:TTab:=⟨[QfY],true⟩
def QpU:TCode :=
 (zsq [(zsq [(.reg [zmv 8 4,zmv 9 0,zle 10 9,zbi 11 .lss 8 10]),(.cond 11 .skip (.exit 0))]),(.block 1 (.reg [zmv 14 3,zmv 15 4,zmv 16 0,zmv 17 4,zia 18 16 17 QA,zLd 19 18 2,zca 20 124 [19],zia 21 14 15 QA,zst 21 20 2])),(.reg [zmv 12 4,zbi 13 .add 12 (zki 1),zmv 4 13])])
def QoX:List (Nat × Md):=[(0,.one .d),(3,.one .f),(4,.one .d)]
def Qov:TCode :=
 (zsq [(.reg [zmv 22 3,zmv 2 22]),.ret])
def QyN:TCode :=
 (zsq [(.reg [zmv 2 (.k (.n QA))]),(.reg [zmv 5 0,zle 6 5,zop 7 (.mk 154 QA (z0s QA) 6),zmv 3 7]),(zsq [(.reg [zmv 4 (zki 0)]),(.block 0 (.loop QoX QpU))]),Qov])
def Qm5:List (ARv × Md):=[(.t 2,.one (.p 154))]
def QmO:Qb:=TQ 0 0 Qm5 K
def QA4:Qb:=Qseq (tawp Qdd 0 Qov (QmO K)) (QmO K)
def Qvf:Qb:=Qblk 0 (QA4 K)
def Qc0 (a:List Qh) (i:Int) (out:List Qh):Prop:=Loop Qdd 0 QoX QpU (Qvf K) ⟨[(0,(zcs QA a)),(3,(.r QA 0 0 out.length)),(4,(zci i))],[(0,(.sl 154 QA (.dp 0 true []) out))],1⟩
theorem Ql6 (a:List Qh) (i:Int) (out:List Qh) (h :
 (zif (decide (i<(a.length:Int))) ((((0:Int)≤i∧Int.toNat i<a.length)∧((p_to (α:=Qh) (gtd QZ a (Int.toNat i)))∧(((0:Int)≤i∧Int.toNat i<out.length)∧((0+(Int.toNat i))<out.length))))∧(Qc0 K a (w64 (i+(1:Int))) (List.take out.length ((out).set (0+(Int.toNat i)) ((List.take (((id (α:=Qh) (gtd QZ a (Int.toNat i))).1).length) (List.drop 0 ((id (α:=Qh) (gtd QZ a (Int.toNat i))).1))),(List.take (((id (α:=Qh) (gtd QZ a (Int.toNat i))).2).length) (List.drop 0 ((id (α:=Qh) (gtd QZ a (Int.toNat i))).2)))))))) (K (Jc (List.take out.length out))))):Qc0 K a i out :=
 Loop.of (by kernel_rfl) h
theorem Qsr (a:List Qh) (h :
 (((0:Int)≤(a.length:Int)∧(a.length:Int)≤big)∧(Qc0 K a 0 (List.take (Int.toNat (a.length:Int)) (List.replicate (Int.toNat (a.length:Int)) ([],[])))))):Hold (tawp Qdd (0+0) QyN (TQ 0 0 Qm5 K) (Qg [(.c (.sl QA) a)])) :=
 Hold.of (by kernel_rfl) h
theorem QsA (a:List Qh) (hp:p_to (α:=List Qh) a):TCon Tryz.prog 37 [(.c (.sl QA) a)] (Jc (id (α:=List Qh) a)):=by
 refine Qk rfl fun hb=>tcg (Γ:=Qdd) (n:=23) (sg:=QhH.sg) Ql (TOkL.cons Qyz TOkL.nil) (by kernel_rfl) (by kernel_rfl) (Qsr _ a ?_)
 refine ⟨⟨by omega,by rw [bigI];have:=Zh hp;omega⟩,?_⟩
 refine YW a (A:=fun ii ll=>Qc0 (fun r'=>r'=Jc (id (α:=List Qh) a)) a ii ll) (Q:=fun z=>Jc z=Jc (id (α:=List Qh) a)) hp ?_ ?_ rfl
 ·intro k x out hlt hg ho hx hA
  have hw:w64 (((k:Nat):Int)+1)=((k+1:Nat):Int):=by have:=Zh hp;rw [Qw (by omega) (by omega)];omega
  have hlo:k<out.length:=by omega
  refine Ql6 (fun r'=>r'=Jc (id (α:=List Qh) a)) a ((k:Nat):Int) out ?_
  refine ⟨fun _=>?_,fun h=>absurd h (by simp;omega)⟩
  simp only [Int.toNat_natCast,Nat.zero_add,hg,hw,hlt,hlo,YB,List.drop_zero,List.take_length,id_eq,and_true,true_and,Int.natCast_nonneg]
  first | exact hA | exact ⟨hx,hA⟩
 ·intro out ho hq
  refine Ql6 (fun r'=>r'=Jc (id (α:=List Qh) a)) a ((a.length:Nat):Int) out ?_
  refine ⟨fun h=>absurd h (by simp),fun _=>?_⟩
  simp only [List.drop_zero,List.take_length]
  exact hq
theorem QBB:Qj Tryz.prog QhH:=Qn fun x h=>QsA x.1 h
def Qae (t:Bool):TRes:=zre (zcb t)
def Jt:TRow:=Qi 23 [(.c (.sl [TI])),(.c (.sl [TI]))] fun x=>(none,Qae (m_eq (α:=List Int) x.1 x.2.1))
def QdU:TTab:=⟨[],false⟩
def Qmu:TCode :=
 (zsq [(zsq [(.reg [zmv 11 5,zmv 12 0,zle 13 12,zbi 14 .lss 11 13]),(.cond 14 .skip (.exit 0))]),(.block 1 (zsq [(.draw [zmv 17 0,zmv 18 5,zia 19 17 18 [TI],zld 20 19 1,zmv 21 1,zmv 22 5,zia 23 21 22 [TI],zld 24 23 1,zbi 25 .neq 20 24] []),(.cond 25 (zsq [(.reg [zmv 4 (zkb false)]),.ret]) .skip)])),(.reg [zmv 15 5,zbi 16 .add 15 (zki 1),zmv 5 16])])
def Qol:List (Nat × Md):=zdl [0,1,5]
def Qqm:TCode :=
 (zsq [(.reg [zmv 4 (zkb true)]),.ret])
def QDs:TCode :=
 (zsq [(.reg [zmv 4 (zkb false)]),(zsq [(.reg [zmv 6 0,zle 7 6,zmv 8 1,zle 9 8,zbi 10 .neq 7 9]),(.cond 10 (zsq [(.reg [zmv 4 (zkb false)]),.ret]) .skip)]),(zsq [(.reg [zmv 5 (zki 0)]),(.block 0 (.loop Qol Qmu))]),Qqm])
def Qjq:List (ARv × Md):=[(.t 4,.one .d)]
def QnF:Qb:=TQ 0 0 Qjq K
def Qvy:Qb:=Qseq (tawp QdU 0 Qqm (QnF K)) (QnF K)
def Qsu:Qb:=Qblk 0 (Qvy K)
def Qiz (a:List Int) (b:List Int) (i:Int):Prop:=Loop QdU 0 Qol Qmu (Qsu K) ⟨[(0,(zcs [TI] a)),(1,(zcs [TI] b)),(5,(zci i))],[],0⟩
theorem Qs4 (a:List Int) (b:List Int) (i:Int) (h :
 (zif (decide (i<(a.length:Int))) ((((0:Int)≤i∧Int.toNat i<a.length)∧((0:Int)≤i∧Int.toNat i<b.length))∧(zif ((gtd (0:Int) a (Int.toNat i)) != (gtd (0:Int) b (Int.toNat i))) (K (Qae false)) (Qiz K a b (w64 (i+(1:Int)))))) (K (Qae true)))):Qiz K a b i :=
 Loop.of (by kernel_rfl) h
theorem QCk (a:List Int) (b:List Int) (h :
 (zif ((a.length:Int) != (b.length:Int)) (K (Qae false)) (Qiz K a b 0))):Hold (tawp QdU (0+0) QDs (TQ 0 0 Qjq K) (Qg [(.c (.sl [TI]) a),(.c (.sl [TI]) b)])) :=
 Hold.of (by kernel_rfl) h
theorem QvL (a:List Int) (b:List Int):TCon Tryz.prog 23 [(.c (.sl [TI]) a),(.c (.sl [TI]) b)] (Qae (m_eq (α:=List Int) a b)):=by
 refine Qk rfl fun hb=>tcg (Γ:=QdU) (n:=26) (sg:=Jt.sg) Ql TOkL.nil (by kernel_rfl) (by kernel_rfl) (QCk _ a b ?_)
 exact QDH hb.1.1 (fun i h=>Qs4 _ a b i h) (Q:=fun x=>Qae x=Qae (m_eq (α:=List Int) a b)) rfl
theorem Qa0:Qj Tryz.prog Jt:=Qn fun x _=>QvL x.1 x.2.1
def Qc9 (t:Bool):TRes:=zre (zcb t)
def Qir:TRow:=Qi 174 [(.a [(.sl [TI])]),(.a [(.sl [TI])])] fun x=>(none,Qc9 (m_eq (α:=List Int) x.1 x.2.1))
def Qj6:TTab:=⟨[Jt],false⟩
def QFe:TCode :=
 (zsq [(.reg [zop 2 (.box 106 0 1),zop 3 (.box 106 1 1),zmv 4 (zkb false)]),(zsq [(.reg [zfa 5 2 0,zld 6 5 1,zfa 7 3 0,zld 8 7 1,zca 9 23 [6,8],zno 10 9]),(.cond 10 (zsq [(.reg [zmv 4 (zkb false)]),.ret]) .skip)]),(.reg [zmv 4 (zkb true)]),.ret])
def Qt3:List (ARv × Md):=[(.t 4,.one .d)]
theorem QEE (a:List Int) (b:List Int) (h :
 (zif (!(m_eq (α:=List Int) a b)) (K (Qc9 false)) (K (Qc9 true)))):Hold (tawp Qj6 (0+0) QFe (TQ 0 0 Qt3 K) (Qg [(.a [(.c (.sl [TI]) a)]),(.a [(.c (.sl [TI]) b)])])) :=
 Hold.of (by kernel_rfl) h
theorem QE3 (a:List Int) (b:List Int):TCon Tryz.prog 174 [(.a [(.c (.sl [TI]) a)]),(.a [(.c (.sl [TI]) b)])] (Qc9 (m_eq (α:=List Int) a b)):=by
 refine Qk rfl fun hb=>tcg (Γ:=Qj6) (n:=11) (sg:=Qir.sg) Ql (TOkL.cons Qa0 TOkL.nil) (by kernel_rfl) (by kernel_rfl) (QEE _ a b ?_)
 refine ⟨fun h=>R_eq (Eq.symm (decide_eq_false (by rintro rfl;simp [m_eq] at h))),fun h0=>?_⟩
 refine R_eq (Eq.symm (decide_eq_true ?_))
 simp [m_eq] at h0
 simp [Prod.ext_iff, *]
theorem Qx4:Qj Tryz.prog Qir:=Qn fun x _=>QE3 x.1 x.2.1
def QaA (t:Bool):TRes:=zre (zcb t)
def Qcc:TRow:=Qi 78 [(.c (.sl [(.sl [TI])])),(.c (.sl [(.sl [TI])]))] fun x=>(none,QaA (m_eq (α:=List (List Int)) x.1 x.2.1))
def Qeg:TTab:=⟨[Qir],false⟩
def Qko:TCode :=
 (zsq [(zsq [(.reg [zmv 11 5,zmv 12 0,zle 13 12,zbi 14 .lss 11 13]),(.cond 14 .skip (.exit 0))]),(.block 1 (zsq [(.draw [zmv 17 0,zmv 18 5,zia 19 17 18 [(.sl [TI])],zLd 20 19 1,zmv 21 1,zmv 22 5,zia 23 21 22 [(.sl [TI])],zLd 24 23 1,zca 25 174 [20,24],zno 26 25] []),(.cond 26 (zsq [(.reg [zmv 4 (zkb false)]),.ret]) .skip)])),(.reg [zmv 15 5,zbi 16 .add 15 (zki 1),zmv 5 16])])
def QpH:List (Nat × Md):=zdl [0,1,5]
def QmK:TCode :=
 (zsq [(.reg [zmv 4 (zkb true)]),.ret])
def Qw9:TCode :=
 (zsq [(.reg [zmv 4 (zkb false)]),(zsq [(.reg [zmv 6 0,zle 7 6,zmv 8 1,zle 9 8,zbi 10 .neq 7 9]),(.cond 10 (zsq [(.reg [zmv 4 (zkb false)]),.ret]) .skip)]),(zsq [(.reg [zmv 5 (zki 0)]),(.block 0 (.loop QpH Qko))]),QmK])
def QqR:List (ARv × Md):=[(.t 4,.one .d)]
def Qro:Qb:=TQ 0 0 QqR K
def QBI:Qb:=Qseq (tawp Qeg 0 QmK (Qro K)) (Qro K)
def QuL:Qb:=Qblk 0 (QBI K)
def QgH (a:List (List Int)) (b:List (List Int)) (i:Int):Prop:=Loop Qeg 0 QpH Qko (QuL K) ⟨[(0,(zcs [(.sl [TI])] a)),(1,(zcs [(.sl [TI])] b)),(5,(zci i))],[],0⟩
theorem QBt (a:List (List Int)) (b:List (List Int)) (i:Int) (h :
 (zif (decide (i<(a.length:Int))) ((((0:Int)≤i∧Int.toNat i<a.length)∧((0:Int)≤i∧Int.toNat i<b.length))∧(zif (!(m_eq (α:=List Int) (gtd ([]:List Int) a (Int.toNat i)) (gtd ([]:List Int) b (Int.toNat i)))) (K (QaA false)) (QgH K a b (w64 (i+(1:Int)))))) (K (QaA true)))):QgH K a b i :=
 Loop.of (by kernel_rfl) h
theorem QBr (a:List (List Int)) (b:List (List Int)) (h :
 (zif ((a.length:Int) != (b.length:Int)) (K (QaA false)) (QgH K a b 0))):Hold (tawp Qeg (0+0) Qw9 (TQ 0 0 QqR K) (Qg [(.c (.sl [(.sl [TI])]) a),(.c (.sl [(.sl [TI])]) b)])) :=
 Hold.of (by kernel_rfl) h
theorem QAE (a:List (List Int)) (b:List (List Int)):TCon Tryz.prog 78 [(.c (.sl [(.sl [TI])]) a),(.c (.sl [(.sl [TI])]) b)] (QaA (m_eq (α:=List (List Int)) a b)):=by
 refine Qk rfl fun hb=>tcg (Γ:=Qeg) (n:=27) (sg:=Qcc.sg) Ql (TOkL.cons Qx4 TOkL.nil) (by kernel_rfl) (by kernel_rfl) (QBr _ a b ?_)
 exact YH ([]:List Int) (E:=m_eq) (fun _ _=>rfl) hb.1.1 (fun i h=>QBt _ a b i h) (Q:=fun x=>QaA x=QaA (m_eq (α:=List (List Int)) a b)) rfl
theorem QfH:Qj Tryz.prog Qcc:=Qn fun x _=>QAE x.1 x.2.1
def QaV (t:Bool):TRes:=zre (zcb t)
def QiT:TRow:=Qi 46 [(.a ZA),(.a ZA)] fun x=>(none,QaV (m_eq (α:=QT) x.1 x.2.1))
def QkW:TTab:=⟨[Qcc],false⟩
def QuP:TCode :=
 (zsq [(.reg [zop 2 (.box 37 0 3),zop 3 (.box 37 1 3),zmv 4 (zkb false)]),(zsq [(.reg [zfa 5 2 0,zld 6 5 1,zfa 7 3 0,zld 8 7 1,zca 9 78 [6,8],zno 10 9]),(.cond 10 (zsq [(.reg [zmv 4 (zkb false)]),.ret]) .skip)]),(zsq [(.reg [zfa 11 2 1,zld 12 11 1,zfa 13 3 1,zld 14 13 1,zbi 15 .neq 12 14]),(.cond 15 (zsq [(.reg [zmv 4 (zkb false)]),.ret]) .skip)]),(zsq [(.reg [zfa 16 2 2,zld 17 16 1,zfa 18 3 2,zld 19 18 1,zop 20 (.eqb true 17 19)]),(.cond 20 (zsq [(.reg [zmv 4 (zkb false)]),.ret]) .skip)]),(.reg [zmv 4 (zkb true)]),.ret])
def QvT:List (ARv × Md):=[(.t 4,.one .d)]
theorem Qxh (a:QT) (b:QT) (h :
 (zif (!(m_eq (α:=List (List Int)) a.1 b.1)) (K (QaV false)) (zif (a.2.1 != b.2.1) (K (QaV false)) (zif (!(a.2.2==b.2.2)) (K (QaV false)) (K (QaV true)))))):Hold (tawp QkW (0+0) QuP (TQ 0 0 QvT K) (Qg [(.a (Tup.cells ZA a)),(.a (Tup.cells ZA b))])) :=
 Hold.of (by kernel_rfl) h
theorem Qyu (a:QT) (b:QT):TCon Tryz.prog 46 [(.a (Tup.cells ZA a)),(.a (Tup.cells ZA b))] (QaV (m_eq (α:=QT) a b)):=by
 refine Qk rfl fun hb=>tcg (Γ:=QkW) (n:=21) (sg:=QiT.sg) Ql (TOkL.cons QfH TOkL.nil) (by kernel_rfl) (by kernel_rfl) (Qxh _ a b ?_)
 refine ⟨fun h=>R_eq (Eq.symm (decide_eq_false (by rintro rfl;simp [m_eq] at h))),fun h0=>?_⟩
 refine ⟨fun h=>R_eq (Eq.symm (decide_eq_false (by rintro rfl;simp [m_eq] at h))),fun h1=>?_⟩
 refine ⟨fun h=>R_eq (Eq.symm (decide_eq_false (by rintro rfl;simp [m_eq] at h))),fun h2=>?_⟩
 refine R_eq (Eq.symm (decide_eq_true ?_))
 simp [m_eq] at h0 h1 h2
 simp [Prod.ext_iff, *]
theorem QDh:Qj Tryz.prog QiT:=Qn fun x _=>Qyu x.1 x.2.1
def Qbj (t:Bool):TRes:=zre (zcb t)
def QgP:TRow:=Qi 133 [(.a QA),(.a QA)] fun x=>(none,Qbj (m_eq (α:=Qh) x.1 x.2.1))
def QjY:TTab:=⟨[Jt],false⟩
def Quy:TCode :=
 (zsq [(.reg [zop 2 (.box 154 0 2),zop 3 (.box 154 1 2),zmv 4 (zkb false)]),(zsq [(.reg [zfa 5 2 0,zld 6 5 1,zfa 7 3 0,zld 8 7 1,zca 9 23 [6,8],zno 10 9]),(.cond 10 (zsq [(.reg [zmv 4 (zkb false)]),.ret]) .skip)]),(zsq [(.reg [zfa 11 2 1,zld 12 11 1,zfa 13 3 1,zld 14 13 1,zca 15 23 [12,14],zno 16 15]),(.cond 16 (zsq [(.reg [zmv 4 (zkb false)]),.ret]) .skip)]),(.reg [zmv 4 (zkb true)]),.ret])
def Qvh:List (ARv × Md):=[(.t 4,.one .d)]
theorem QCF (a:Qh) (b:Qh) (h :
 (zif (!(m_eq (α:=List Int) a.1 b.1)) (K (Qbj false)) (zif (!(m_eq (α:=List Int) a.2 b.2)) (K (Qbj false)) (K (Qbj true))))):Hold (tawp QjY (0+0) Quy (TQ 0 0 Qvh K) (Qg [(.a [(.c (.sl [TI]) a.1),(.c (.sl [TI]) a.2)]),(.a [(.c (.sl [TI]) b.1),(.c (.sl [TI]) b.2)])])) :=
 Hold.of (by kernel_rfl) h
theorem QDK (a:Qh) (b:Qh):TCon Tryz.prog 133 [(.a [(.c (.sl [TI]) a.1),(.c (.sl [TI]) a.2)]),(.a [(.c (.sl [TI]) b.1),(.c (.sl [TI]) b.2)])] (Qbj (m_eq (α:=Qh) a b)):=by
 refine Qk rfl fun hb=>tcg (Γ:=QjY) (n:=17) (sg:=QgP.sg) Ql (TOkL.cons Qa0 TOkL.nil) (by kernel_rfl) (by kernel_rfl) (QCF _ a b ?_)
 refine ⟨fun h=>R_eq (Eq.symm (decide_eq_false (by rintro rfl;simp [m_eq] at h))),fun h0=>?_⟩
 refine ⟨fun h=>R_eq (Eq.symm (decide_eq_false (by rintro rfl;simp [m_eq] at h))),fun h1=>?_⟩
 refine R_eq (Eq.symm (decide_eq_true ?_))
 simp [m_eq] at h0 h1
 simp [Prod.ext_iff, *]
theorem QB5:Qj Tryz.prog QgP:=Qn fun x _=>QDK x.1 x.2.1
def J0 (t:Bool):TRes:=zre (zcb t)
def QfC:TRow:=Qi 40 [(.c (.sl QA)),(.c (.sl QA))] fun x=>(none,J0 (m_eq (α:=List Qh) x.1 x.2.1))
def Qd4:TTab:=⟨[QgP],false⟩
def QjW:TCode :=
 (zsq [(zsq [(.reg [zmv 11 5,zmv 12 0,zle 13 12,zbi 14 .lss 11 13]),(.cond 14 .skip (.exit 0))]),(.block 1 (zsq [(.draw [zmv 17 0,zmv 18 5,zia 19 17 18 QA,zLd 20 19 2,zmv 21 1,zmv 22 5,zia 23 21 22 QA,zLd 24 23 2,zca 25 133 [20,24],zno 26 25] []),(.cond 26 (zsq [(.reg [zmv 4 (zkb false)]),.ret]) .skip)])),(.reg [zmv 15 5,zbi 16 .add 15 (zki 1),zmv 5 16])])
def Qnf:List (Nat × Md):=zdl [0,1,5]
def QkZ:TCode :=
 (zsq [(.reg [zmv 4 (zkb true)]),.ret])
def Qsq:TCode :=
 (zsq [(.reg [zmv 4 (zkb false)]),(zsq [(.reg [zmv 6 0,zle 7 6,zmv 8 1,zle 9 8,zbi 10 .neq 7 9]),(.cond 10 (zsq [(.reg [zmv 4 (zkb false)]),.ret]) .skip)]),(zsq [(.reg [zmv 5 (zki 0)]),(.block 0 (.loop Qnf QjW))]),QkZ])
def Qmv:List (ARv × Md):=[(.t 4,.one .d)]
def Qor:Qb:=TQ 0 0 Qmv K
def Qx3:Qb:=Qseq (tawp Qd4 0 QkZ (Qor K)) (Qor K)
def QDE:Qb:=Qblk 0 (Qx3 K)
def QhT (a:List Qh) (b:List Qh) (i:Int):Prop:=Loop Qd4 0 Qnf QjW (QDE K) ⟨[(0,(zcs QA a)),(1,(zcs QA b)),(5,(zci i))],[],0⟩
theorem Qzp (a:List Qh) (b:List Qh) (i:Int) (h :
 (zif (decide (i<(a.length:Int))) ((((0:Int)≤i∧Int.toNat i<a.length)∧((0:Int)≤i∧Int.toNat i<b.length))∧(zif (!(m_eq (α:=Qh) (gtd QZ a (Int.toNat i)) (gtd QZ b (Int.toNat i)))) (K (J0 false)) (QhT K a b (w64 (i+(1:Int)))))) (K (J0 true)))):QhT K a b i :=
 Loop.of (by kernel_rfl) h
theorem Qu8 (a:List Qh) (b:List Qh) (h :
 (zif ((a.length:Int) != (b.length:Int)) (K (J0 false)) (QhT K a b 0))):Hold (tawp Qd4 (0+0) Qsq (TQ 0 0 Qmv K) (Qg [(.c (.sl QA) a),(.c (.sl QA) b)])) :=
 Hold.of (by kernel_rfl) h
theorem Qw2 (a:List Qh) (b:List Qh):TCon Tryz.prog 40 [(.c (.sl QA) a),(.c (.sl QA) b)] (J0 (m_eq (α:=List Qh) a b)):=by
 refine Qk rfl fun hb=>tcg (Γ:=Qd4) (n:=27) (sg:=QfC.sg) Ql (TOkL.cons QB5 TOkL.nil) (by kernel_rfl) (by kernel_rfl) (Qu8 _ a b ?_)
 exact YH QZ (E:=m_eq) (fun _ _=>rfl) hb.1.1 (fun i h=>Qzp _ a b i h) (Q:=fun x=>J0 x=J0 (m_eq (α:=List Qh) a b)) rfl
theorem Qui:Qj Tryz.prog QfC:=Qn fun x _=>Qw2 x.1 x.2.1
end
end Go.Proofs.YtdplaepmjogjjaaGreat.Am

