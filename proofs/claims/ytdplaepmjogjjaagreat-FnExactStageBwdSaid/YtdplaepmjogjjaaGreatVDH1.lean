/- -/
import Derived.Test.YtdplaepmjogjjaaGreatVDGF
namespace Go.Proofs.YtdplaepmjogjjaaGreat.Am
open Go Go.RowKit Go.Proofs.YtdplaepmjogjjaaGreat
set_option linter.all false
noncomputable section
variable (K:TRes→Prop)
def QbP (t:Int):TRes:=zre (zci t)
def QdD:TRow:=Qg 59 [(.c (.sl [TI])),(.c TI)] fun x=>(some (p_sz (α:=List Int) x.1 x.2.1),QbP (m_sz (α:=List Int) x.1 x.2.1))
def Qmx:TTab:=⟨[],false⟩
def QHU:TCode :=
 (zsq [(.reg [zmv 4 (zki 0)]),(.reg [zmv 5 1,zmv 6 0,zle 7 6,zbi 8 .sub 5 7,zmv 1 8]),(zsq [(.reg [zmv 9 1,zbi 10 .lss 9 (zki 0)]),(.cond 10 (zsq [(.reg [zmv 4 (zki (-1))]),.ret]) .skip)]),(.reg [zmv 11 1,zmv 4 11]),.ret])
def QFY:List (ARv × Md):=[(.t 4,.one .d)]
theorem QEP (a:List Int) (left:Int) (h :
 (zif (decide ((w64 (left-(a.length:Int)))<(0:Int))) (K (QbP (-1:Int))) (K (QbP (w64 (left-(a.length:Int))))))):Hold (tawp Qmx (0+0) QHU (TQ 0 0 QFY K) (Qd [(.c (.sl [TI]) a),(.c TI left)])) :=
 Hold.of (by kernel_rfl) h
theorem QIN (a:List Int) (left:Int) (hp:p_sz (α:=List Int) a left):TCon Tryz.prog 59 [(.c (.sl [TI]) a),(.c TI left)] (QbP (m_sz (α:=List Int) a left)):=by
 refine Qh rfl fun hb=>tcg (Γ:=Qmx) (n:=12) (sg:=QdD.sg) Qi TOkL.nil (by kernel_rfl) (by kernel_rfl) (QEP _ a left ?_)
 exact QmK (Q:=fun x=>QbP x=QbP (m_sz (α:=List Int) a left)) (fun _=>rfl) hp hb.1.1 rfl
theorem Qhn:Qf Tryz.prog QdD:=Qj fun x h=>QIN x.1 x.2.1 h
def Qgn (t:Int):TRes:=zre (zci t)
def Qkw:TRow:=Qg 154 [(.a [(.sl [TI])]),(.c TI)] fun x=>(some (p_sz (α:=List Int) x.1 x.2.1),Qgn (m_sz (α:=List Int) x.1 x.2.1))
def QpJ:TTab:=⟨[QdD],false⟩
def QCR:TCode :=
 (zsq [(.reg [zop 2 (.box 189 0 1),zmv 4 (zki 0)]),(.reg [zfa 5 2 0,zld 6 5 1,zmv 7 1,zca 8 59 [6,7],zmv 1 8]),(zsq [(.reg [zmv 9 1,zbi 10 .lss 9 (zki 0)]),(.cond 10 (zsq [(.reg [zmv 4 (zki (-1))]),.ret]) .skip)]),(.reg [zmv 11 1,zmv 4 11]),.ret])
def QEv:List (ARv × Md):=[(.t 4,.one .d)]
theorem QEy (a:List Int) (left:Int) (h :
 ((p_sz (α:=List Int) a left)∧(zif (decide ((m_sz (α:=List Int) a left)<(0:Int))) (K (Qgn (-1:Int))) (K (Qgn (m_sz (α:=List Int) a left)))))):Hold (tawp QpJ (0+0) QCR (TQ 0 0 QEv K) (Qd [(.a [(.c (.sl [TI]) a)]),(.c TI left)])) :=
 Hold.of (by kernel_rfl) h
theorem Qzy (a:List Int) (left:Int) (hp:p_sz (α:=List Int) a left):TCon Tryz.prog 154 [(.a [(.c (.sl [TI]) a)]),(.c TI left)] (Qgn (m_sz (α:=List Int) a left)):=by
 refine Qh rfl fun hb=>tcg (Γ:=QpJ) (n:=12) (sg:=Qkw.sg) Qi (TOkL.cons Qhn TOkL.nil) (by kernel_rfl) (by kernel_rfl) (QEy _ a left ?_)
 refine ⟨hp,fun h=>R_eq (Yl (of_decide_eq_true h) (by first | omega | (simp only [QZ,QK,Q0];omega)) hp.1),fun h=>?_⟩
 exact R_eq (congrArg (Z1 · _) (by first | rfl | omega | (simp only [QZ,QK,Q0];omega)))
theorem QD3:Qf Tryz.prog Qkw:=Qj fun x h=>Qzy x.1 x.2.1 h
def QaE (t:Int):TRes:=zre (zci t)
def Qdm:TRow:=Qg 58 [(.c (.sl [(.sl [TI])])),(.c TI)] fun x=>(some (p_sz (α:=List (List Int)) x.1 x.2.1),QaE (m_sz (α:=List (List Int)) x.1 x.2.1))
def QgC:TTab:=⟨[Qkw],false⟩
def QmG:TCode :=
 (zsq [(zsq [(.reg [zmv 12 5,zmv 13 0,zle 14 13,zbi 15 .lss 12 14]),(.cond 15 .skip (.exit 0))]),(.block 1 (zsq [(.reg [zmv 18 0,zmv 19 5,zia 20 18 19 [(.sl [TI])],zLd 21 20 1,zmv 22 1,zca 23 154 [21,22],zmv 1 23]),(.reg [zmv 24 1,zbi 25 .lss 24 (zki 0)]),(.cond 25 (zsq [(.reg [zmv 4 (zki (-1))]),.ret]) .skip)])),(.reg [zmv 16 5,zbi 17 .add 16 (zki 1),zmv 5 17])])
def Qoa:List (Nat × Md):=zdl [0,1,5]
def QlN:TCode :=
 (zsq [(.reg [zmv 26 1,zmv 4 26]),.ret])
def QBX:TCode :=
 (zsq [(.reg [zmv 4 (zki 0)]),(.reg [zmv 6 1,zmv 7 0,zle 8 7,zbi 9 .sub 6 8,zmv 1 9]),(zsq [(.reg [zmv 10 1,zbi 11 .lss 10 (zki 0)]),(.cond 11 (zsq [(.reg [zmv 4 (zki (-1))]),.ret]) .skip)]),(zsq [(.reg [zmv 5 (zki 0)]),(.block 0 (.loop Qoa QmG))]),QlN])
def QpE:List (ARv × Md):=[(.t 4,.one .d)]
def QsS:Qb:=TQ 0 0 QpE K
def QBB:Qb:=Qseq (tawp QgC 0 QlN (QsS K)) (QsS K)
def QAR:Qb:=Qblk 0 (QBB K)
def Qi0 (a:List (List Int)) (left1:Int) (i:Int):Prop:=Loop QgC 0 Qoa QmG (QAR K) ⟨[(0,(zcs [(.sl [TI])] a)),(1,(zci left1)),(5,(zci i))],[],0⟩
theorem QCX (a:List (List Int)) (left1:Int) (i:Int) (h :
 (zif (decide (i<(a.length:Int))) ((((0:Int)≤i∧Int.toNat i<a.length)∧(p_sz (α:=List Int) (gtd ([]:List Int) a (Int.toNat i)) left1))∧(zif (decide ((m_sz (α:=List Int) (gtd ([]:List Int) a (Int.toNat i)) left1)<(0:Int))) (K (QaE (-1:Int))) (Qi0 K a (m_sz (α:=List Int) (gtd ([]:List Int) a (Int.toNat i)) left1) (w64 (i+(1:Int)))))) (K (QaE left1)))):Qi0 K a left1 i :=
 Loop.of (by kernel_rfl) h
theorem QAG (a:List (List Int)) (left:Int) (h :
 (zif (decide ((w64 (left-(a.length:Int)))<(0:Int))) (K (QaE (-1:Int))) (Qi0 K a (w64 (left-(a.length:Int))) 0))):Hold (tawp QgC (0+0) QBX (TQ 0 0 QpE K) (Qd [(.c (.sl [(.sl [TI])]) a),(.c TI left)])) :=
 Hold.of (by kernel_rfl) h
theorem QEg (a:List (List Int)) (left:Int) (hp:p_sz (α:=List (List Int)) a left):TCon Tryz.prog 58 [(.c (.sl [(.sl [TI])]) a),(.c TI left)] (QaE (m_sz (α:=List (List Int)) a left)):=by
 refine Qh rfl fun hb=>tcg (Γ:=QgC) (n:=27) (sg:=Qdm.sg) Qi (TOkL.cons QD3 TOkL.nil) (by kernel_rfl) (by kernel_rfl) (QAG _ a left ?_)
 exact QiD (Q:=fun x=>QaE x=QaE (m_sz (α:=List (List Int)) a left)) ([]:List Int) hp hb.1.1 (fun l i h=>QCX _ a l i h) rfl
theorem QiC:Qf Tryz.prog Qdm:=Qj fun x h=>QEg x.1 x.2.1 h
def Qfd (t:Int):TRes:=zre (zci t)
def Qji:TRow:=Qg 60 [(.a QE),(.c TI)] fun x=>(some (p_sz (α:=Qm) x.1 x.2.1),Qfd (m_sz (α:=Qm) x.1 x.2.1))
def Qoc:TTab:=⟨[Qdm],false⟩
def QGg:TCode :=
 (zsq [(.reg [zop 2 (.box 28 0 3),zmv 4 (zki 0)]),(.reg [zfa 5 2 0,zld 6 5 1,zmv 7 1,zca 8 58 [6,7],zmv 1 8]),(zsq [(.reg [zmv 9 1,zbi 10 .lss 9 (zki 0)]),(.cond 10 (zsq [(.reg [zmv 4 (zki (-1))]),.ret]) .skip)]),(.reg [zmv 11 1,zmv 4 11]),.ret])
def QHn:List (ARv × Md):=[(.t 4,.one .d)]
theorem QAX (a:Qm) (left:Int) (h :
 ((p_sz (α:=List (List Int)) a.1 left)∧(zif (decide ((m_sz (α:=List (List Int)) a.1 left)<(0:Int))) (K (Qfd (-1:Int))) (K (Qfd (m_sz (α:=List (List Int)) a.1 left)))))):Hold (tawp Qoc (0+0) QGg (TQ 0 0 QHn K) (Qd [(.a (Tup.cells QE a)),(.c TI left)])) :=
 Hold.of (by kernel_rfl) h
theorem Qv0 (a:Qm) (left:Int) (hp:p_sz (α:=Qm) a left):TCon Tryz.prog 60 [(.a (Tup.cells QE a)),(.c TI left)] (Qfd (m_sz (α:=Qm) a left)):=by
 refine Qh rfl fun hb=>tcg (Γ:=Qoc) (n:=12) (sg:=Qji.sg) Qi (TOkL.cons QiC TOkL.nil) (by kernel_rfl) (by kernel_rfl) (QAX _ a left ?_)
 refine ⟨hp,fun h=>R_eq (Yl (of_decide_eq_true h) (by first | omega | (simp only [QZ,QK,Q0];omega)) hp.1),fun h=>?_⟩
 exact R_eq (congrArg (Z1 · _) (by first | rfl | omega | (simp only [QZ,QK,Q0];omega)))
theorem Qwc:Qf Tryz.prog Qji:=Qj fun x h=>Qv0 x.1 x.2.1 h
def J2 (t:(List Int)):TRes:=⟨(.r [TI] 0 0 t.length),[(.sl 3 [TI] (.dp 0 true []) t)],[],false,[]⟩
def Qby:TRow:=Qg 29 [(.c (.sl [TI]))] fun x=>(some (p_to (α:=List Int) x.1),J2 (id (α:=List Int) x.1))
def QfW:TTab:=⟨[],true⟩
def QqG:TCode :=
 (zsq [(zsq [(.reg [zmv 8 4,zmv 9 0,zle 10 9,zbi 11 .lss 8 10]),(.cond 11 .skip (.exit 0))]),(.block 1 (.reg [zmv 14 3,zmv 15 4,zmv 16 0,zmv 17 4,zia 18 16 17 [TI],zld 19 18 1,zia 20 14 15 [TI],zst 20 19 1])),(.reg [zmv 12 4,zbi 13 .add 12 (zki 1),zmv 4 13])])
def Qvs:List (Nat × Md):=[(0,.one .d),(3,.one .f),(4,.one .d)]
def Qu3:TCode :=
 (zsq [(.reg [zmv 21 3,zmv 2 21]),.ret])
def Qyf:TCode :=
 (zsq [(.reg [zmv 2 (.k (.n [TI]))]),(.reg [zmv 5 0,zle 6 5,zop 7 (.mk 3 [TI] [(zci 0)] 6),zmv 3 7]),(zsq [(.reg [zmv 4 (zki 0)]),(.block 0 (.loop Qvs QqG))]),Qu3])
def QoT:List (ARv × Md):=[(.t 2,.one (.p 3))]
def QnF:Qb:=TQ 0 0 QoT K
def QEs:Qb:=Qseq (tawp QfW 0 Qu3 (QnF K)) (QnF K)
def Qw7:Qb:=Qblk 0 (QEs K)
def QdJ (a:List Int) (i:Int) (out:List Int):Prop:=Loop QfW 0 Qvs QqG (Qw7 K) ⟨[(0,(zcs [TI] a)),(3,(.r [TI] 0 0 out.length)),(4,(zci i))],[(0,(.sl 3 [TI] (.dp 0 true []) out))],1⟩
theorem Qt6 (a:List Int) (i:Int) (out:List Int) (h :
 (zif (decide (i<(a.length:Int))) ((((0:Int)≤i∧Int.toNat i<a.length)∧(((0:Int)≤i∧Int.toNat i<out.length)∧((0+(Int.toNat i))<out.length)))∧(QdJ K a (w64 (i+(1:Int))) (List.take out.length ((out).set (0+(Int.toNat i)) (gtd (0:Int) a (Int.toNat i)))))) (K (J2 (List.take out.length out))))):QdJ K a i out :=
 Loop.of (by kernel_rfl) h
theorem QCT (a:List Int) (h :
 (((0:Int)≤(a.length:Int)∧(a.length:Int)≤big)∧(QdJ K a 0 (List.take (Int.toNat (a.length:Int)) (List.replicate (Int.toNat (a.length:Int)) (0:Int)))))):Hold (tawp QfW (0+0) Qyf (TQ 0 0 QoT K) (Qd [(.c (.sl [TI]) a)])) :=
 Hold.of (by kernel_rfl) h
theorem Qxr (a:List Int) (hp:p_to (α:=List Int) a):TCon Tryz.prog 29 [(.c (.sl [TI]) a)] (J2 (id (α:=List Int) a)):=by
 refine Qh rfl fun hb=>tcg (Γ:=QfW) (n:=22) (sg:=Qby.sg) Qi TOkL.nil (by kernel_rfl) (by kernel_rfl) (QCT _ a ?_)
 refine ⟨⟨by omega,by rw [bigI];have:=YT hp;omega⟩,?_⟩
 refine Qdq a (A:=fun ii ll=>QdJ (fun r'=>r'=J2 (id (α:=List Int) a)) a ii ll) (Q:=fun z=>J2 z=J2 (id (α:=List Int) a)) hp ?_ ?_ rfl
 ·intro k x out hlt hg ho hx hA
  have hw:w64 (((k:Nat):Int)+1)=((k+1:Nat):Int):=by have:=YT hp;rw [Qx (by omega) (by omega)];omega
  have hlo:k<out.length:=by omega
  refine Qt6 (fun r'=>r'=J2 (id (α:=List Int) a)) a ((k:Nat):Int) out ?_
  refine ⟨fun _=>?_,fun h=>absurd h (by simp;omega)⟩
  simp only [Int.toNat_natCast,Nat.zero_add,hg,hw,hlt,hlo,Qc9,List.drop_zero,List.take_length,id_eq,and_true,true_and,Int.natCast_nonneg]
  first | exact hA | exact ⟨hx,hA⟩
 ·intro out ho hq
  refine Qt6 (fun r'=>r'=J2 (id (α:=List Int) a)) a ((a.length:Nat):Int) out ?_
  refine ⟨fun h=>absurd h (by simp),fun _=>?_⟩
  simp only [List.drop_zero,List.take_length]
  exact hq
theorem Qf4:Qf Tryz.prog Qby:=Qj fun x h=>Qxr x.1 h
def QkI (t:(List Int)):TRes:=⟨(.a [(.r [TI] 0 0 t.length)]),[(.sl 3 [TI] (.dp 0 true []) t)],[],false,[]⟩
def QhH:TRow:=Qg 164 [(.a [(.sl [TI])])] fun x=>(some (p_to (α:=List Int) x.1),QkI (id (α:=List Int) x.1))
def QuS:TTab:=⟨[Qby],true⟩
def QCt:TCode :=
 (zsq [(.reg [zop 1 (.box 189 0 1),zop 2 (.new 106 [(.n [TI])])]),(.reg [zop 3 (.new 106 [(.n [TI])])]),(.reg [zfa 4 1 0,zld 5 4 1,zca 6 29 [5],zfa 7 3 0,zst 7 6 1]),(.reg [zLd 8 3 1,zst 2 8 1]),.ret])
def QCA:List (ARv × Md):=[(.l 2 1 true,.b [.p 3])]
theorem Qyr (a:List Int) (h :
 ((p_to (α:=List Int) a)∧K (QkI (List.take ((id (α:=List Int) a).length) (id (α:=List Int) a))))):Hold (tawp QuS (0+0) QCt (TQ 0 0 QCA K) (Qd [(.a [(.c (.sl [TI]) a)])])) :=
 Hold.of (by kernel_rfl) h
theorem Qwd (a:List Int) (hp:p_to (α:=List Int) a):TCon Tryz.prog 164 [(.a [(.c (.sl [TI]) a)])] (QkI (id (α:=List Int) a)):=by
 refine Qh rfl fun hb=>tcg (Γ:=QuS) (n:=9) (sg:=QhH.sg) Qi (TOkL.cons Qf4 TOkL.nil) (by kernel_rfl) (by kernel_rfl) (Qyr _ a ?_)
 repeat' (first | refine And.intro ?_ ?_ | exact R_eq (by simp))
 all_goals (simp only [p_to,QZ,QK,Q0,List.drop_zero,List.take_length,id_eq] at hp ⊢;omega)
theorem QAo:Qf Tryz.prog QhH:=Qj fun x h=>Qwd x.1 h
def J7 (t:(List (List Int))):TRes:=⟨(.r [(.sl [TI])] 0 0 t.length),[(.sl 106 [(.sl [TI])] (.dp 0 true []) t)],[],false,[]⟩
def QcY:TRow:=Qg 68 [(.c (.sl [(.sl [TI])]))] fun x=>(some (p_to (α:=List (List Int)) x.1),J7 (id (α:=List (List Int)) x.1))
def QeK:TTab:=⟨[QhH],true⟩
def Qom:TCode :=
 (zsq [(zsq [(.reg [zmv 8 4,zmv 9 0,zle 10 9,zbi 11 .lss 8 10]),(.cond 11 .skip (.exit 0))]),(.block 1 (.reg [zmv 14 3,zmv 15 4,zmv 16 0,zmv 17 4,zia 18 16 17 [(.sl [TI])],zLd 19 18 1,zca 20 164 [19],zia 21 14 15 [(.sl [TI])],zst 21 20 1])),(.reg [zmv 12 4,zbi 13 .add 12 (zki 1),zmv 4 13])])
def Qsr:List (Nat × Md):=[(0,.one .d),(3,.one .f),(4,.one .d)]
def QrC:TCode :=
 (zsq [(.reg [zmv 22 3,zmv 2 22]),.ret])
def Qyz:TCode :=
 (zsq [(.reg [zmv 2 (.k (.n [(.sl [TI])]))]),(.reg [zmv 5 0,zle 6 5,zop 7 (.mk 106 [(.sl [TI])] [(.n [TI])] 6),zmv 3 7]),(zsq [(.reg [zmv 4 (zki 0)]),(.block 0 (.loop Qsr Qom))]),QrC])
def QnE:List (ARv × Md):=[(.t 2,.one (.p 106))]
def QqX:Qb:=TQ 0 0 QnE K
def QH5:Qb:=Qseq (tawp QeK 0 QrC (QqX K)) (QqX K)
def QAN:Qb:=Qblk 0 (QH5 K)
def Qfb (a:List (List Int)) (i:Int) (out:List (List Int)):Prop:=Loop QeK 0 Qsr Qom (QAN K) ⟨[(0,(zcs [(.sl [TI])] a)),(3,(.r [(.sl [TI])] 0 0 out.length)),(4,(zci i))],[(0,(.sl 106 [(.sl [TI])] (.dp 0 true []) out))],1⟩
theorem Qq4 (a:List (List Int)) (i:Int) (out:List (List Int)) (h :
 (zif (decide (i<(a.length:Int))) ((((0:Int)≤i∧Int.toNat i<a.length)∧((p_to (α:=List Int) (gtd ([]:List Int) a (Int.toNat i)))∧(((0:Int)≤i∧Int.toNat i<out.length)∧((0+(Int.toNat i))<out.length))))∧(Qfb K a (w64 (i+(1:Int))) (List.take out.length ((out).set (0+(Int.toNat i)) (List.take ((id (α:=List Int) (gtd ([]:List Int) a (Int.toNat i))).length) (List.drop 0 (id (α:=List Int) (gtd ([]:List Int) a (Int.toNat i))))))))) (K (J7 (List.take out.length out))))):Qfb K a i out :=
 Loop.of (by kernel_rfl) h
theorem QGL (a:List (List Int)) (h :
 (((0:Int)≤(a.length:Int)∧(a.length:Int)≤big)∧(Qfb K a 0 (List.take (Int.toNat (a.length:Int)) (List.replicate (Int.toNat (a.length:Int)) ([]:List Int)))))):Hold (tawp QeK (0+0) Qyz (TQ 0 0 QnE K) (Qd [(.c (.sl [(.sl [TI])]) a)])) :=
 Hold.of (by kernel_rfl) h
theorem QGa (a:List (List Int)) (hp:p_to (α:=List (List Int)) a):TCon Tryz.prog 68 [(.c (.sl [(.sl [TI])]) a)] (J7 (id (α:=List (List Int)) a)):=by
 refine Qh rfl fun hb=>tcg (Γ:=QeK) (n:=23) (sg:=QcY.sg) Qi (TOkL.cons QAo TOkL.nil) (by kernel_rfl) (by kernel_rfl) (QGL _ a ?_)
 refine ⟨⟨by omega,by rw [bigI];have:=YT hp;omega⟩,?_⟩
 refine Qdq a (A:=fun ii ll=>Qfb (fun r'=>r'=J7 (id (α:=List (List Int)) a)) a ii ll) (Q:=fun z=>J7 z=J7 (id (α:=List (List Int)) a)) hp ?_ ?_ rfl
 ·intro k x out hlt hg ho hx hA
  have hw:w64 (((k:Nat):Int)+1)=((k+1:Nat):Int):=by have:=YT hp;rw [Qx (by omega) (by omega)];omega
  have hlo:k<out.length:=by omega
  refine Qq4 (fun r'=>r'=J7 (id (α:=List (List Int)) a)) a ((k:Nat):Int) out ?_
  refine ⟨fun _=>?_,fun h=>absurd h (by simp;omega)⟩
  simp only [Int.toNat_natCast,Nat.zero_add,hg,hw,hlt,hlo,Qc9,List.drop_zero,List.take_length,id_eq,and_true,true_and,Int.natCast_nonneg]
  first | exact hA | exact ⟨hx,hA⟩
 ·intro out ho hq
  refine Qq4 (fun r'=>r'=J7 (id (α:=List (List Int)) a)) a ((a.length:Nat):Int) out ?_
  refine ⟨fun h=>absurd h (by simp),fun _=>?_⟩
  simp only [List.drop_zero,List.take_length]
  exact hq
theorem Qis:Qf Tryz.prog QcY:=Qj fun x h=>QGa x.1 h
def QiS (t:Qm):TRes:=⟨(.a [(.r [(.sl [TI])] 0 0 ((t.1).length)),(zci t.2.1),(zcb t.2.2)]),[(.sl 106 [(.sl [TI])] (.dp 0 true []) t.1)],[],false,[]⟩
def QjJ:TRow:=Qg 69 [(.a QE)] fun x=>(some (p_to (α:=Qm) x.1),QiS (id (α:=Qm) x.1))
def Qvt:TTab:=⟨[QcY],true⟩
def QJw:TCode :=
 (zsq [(.reg [zop 1 (.box 28 0 3),zop 2 (.new 37 (z0s QE))]),(.reg [zop 3 (.new 37 (z0s QE))]),(.reg [zfa 4 1 0,zld 5 4 1,zca 6 68 [5],zfa 7 3 0,zst 7 6 1]),(.reg [zfa 8 1 1,zld 9 8 1,zfa 10 3 1,zst 10 9 1]),(.reg [zfa 11 1 2,zld 12 11 1,zfa 13 3 2,zst 13 12 1]),(.reg [zLd 14 3 3,zst 2 14 3]),.ret])
def QvZ:List (ARv × Md):=[(.l 2 3 true,.b [.p 106,.d,.d])]
theorem QHq (a:Qm) (h :
 ((p_to (α:=List (List Int)) a.1)∧K (QiS ((List.take ((id (α:=List (List Int)) a.1).length) (id (α:=List (List Int)) a.1)),a.2.1,a.2.2)))):Hold (tawp Qvt (0+0) QJw (TQ 0 0 QvZ K) (Qd [(.a (Tup.cells QE a))])) :=
 Hold.of (by kernel_rfl) h
theorem QDQ (a:Qm) (hp:p_to (α:=Qm) a):TCon Tryz.prog 69 [(.a (Tup.cells QE a))] (QiS (id (α:=Qm) a)):=by
 refine Qh rfl fun hb=>tcg (Γ:=Qvt) (n:=15) (sg:=QjJ.sg) Qi (TOkL.cons Qis TOkL.nil) (by kernel_rfl) (by kernel_rfl) (QHq _ a ?_)
 repeat' (first | refine And.intro ?_ ?_ | exact R_eq (by simp))
 all_goals (simp only [p_to,QZ,QK,Q0,List.drop_zero,List.take_length,id_eq] at hp ⊢;omega)
theorem QIa:Qf Tryz.prog QjJ:=Qj fun x h=>QDQ x.1 h
def Qav (t:Bool):TRes:=zre (zcb t)
def Qb0:TRow:=Qg 23 [(.c (.sl [TI])),(.c (.sl [TI]))] fun x=>(none,Qav (m_eq (α:=List Int) x.1 x.2.1))
def Qgu:TTab:=⟨[],false⟩
def QrF:TCode :=
 (zsq [(zsq [(.reg [zmv 11 5,zmv 12 0,zle 13 12,zbi 14 .lss 11 13]),(.cond 14 .skip (.exit 0))]),(.block 1 (zsq [(.draw [zmv 17 0,zmv 18 5,zia 19 17 18 [TI],zld 20 19 1,zmv 21 1,zmv 22 5,zia 23 21 22 [TI],zld 24 23 1,zbi 25 .neq 20 24] []),(.cond 25 (zsq [(.reg [zmv 4 (zkb false)]),.ret]) .skip)])),(.reg [zmv 15 5,zbi 16 .add 15 (zki 1),zmv 5 16])])
def Ql1:List (Nat × Md):=zdl [0,1,5]
def QtR:TCode :=
 (zsq [(.reg [zmv 4 (zkb true)]),.ret])
def QCs:TCode :=
 (zsq [(.reg [zmv 4 (zkb false)]),(zsq [(.reg [zmv 6 0,zle 7 6,zmv 8 1,zle 9 8,zbi 10 .neq 7 9]),(.cond 10 (zsq [(.reg [zmv 4 (zkb false)]),.ret]) .skip)]),(zsq [(.reg [zmv 5 (zki 0)]),(.block 0 (.loop Ql1 QrF))]),QtR])
def QrB:List (ARv × Md):=[(.t 4,.one .d)]
def QrP:Qb:=TQ 0 0 QrB K
def QFm:Qb:=Qseq (tawp Qgu 0 QtR (QrP K)) (QrP K)
def QJH:Qb:=Qblk 0 (QFm K)
def QjK (a:List Int) (b:List Int) (i:Int):Prop:=Loop Qgu 0 Ql1 QrF (QJH K) ⟨[(0,(zcs [TI] a)),(1,(zcs [TI] b)),(5,(zci i))],[],0⟩
theorem QGv (a:List Int) (b:List Int) (i:Int) (h :
 (zif (decide (i<(a.length:Int))) ((((0:Int)≤i∧Int.toNat i<a.length)∧((0:Int)≤i∧Int.toNat i<b.length))∧(zif ((gtd (0:Int) a (Int.toNat i)) != (gtd (0:Int) b (Int.toNat i))) (K (Qav false)) (QjK K a b (w64 (i+(1:Int)))))) (K (Qav true)))):QjK K a b i :=
 Loop.of (by kernel_rfl) h
theorem Qx5 (a:List Int) (b:List Int) (h :
 (zif ((a.length:Int) != (b.length:Int)) (K (Qav false)) (QjK K a b 0))):Hold (tawp Qgu (0+0) QCs (TQ 0 0 QrB K) (Qd [(.c (.sl [TI]) a),(.c (.sl [TI]) b)])) :=
 Hold.of (by kernel_rfl) h
theorem QGl (a:List Int) (b:List Int):TCon Tryz.prog 23 [(.c (.sl [TI]) a),(.c (.sl [TI]) b)] (Qav (m_eq (α:=List Int) a b)):=by
 refine Qh rfl fun hb=>tcg (Γ:=Qgu) (n:=26) (sg:=Qb0.sg) Qi TOkL.nil (by kernel_rfl) (by kernel_rfl) (Qx5 _ a b ?_)
 exact QDz hb.1.1 (fun i h=>QGv _ a b i h) (Q:=fun x=>Qav x=Qav (m_eq (α:=List Int) a b)) rfl
theorem QfO:Qf Tryz.prog Qb0:=Qj fun x _=>QGl x.1 x.2.1
def QgB (t:Bool):TRes:=zre (zcb t)
def Qkm:TRow:=Qg 174 [(.a [(.sl [TI])]),(.a [(.sl [TI])])] fun x=>(none,QgB (m_eq (α:=List Int) x.1 x.2.1))
def QuU:TTab:=⟨[Qb0],false⟩
def QBn:TCode :=
 (zsq [(.reg [zop 2 (.box 106 0 1),zop 3 (.box 106 1 1),zmv 4 (zkb false)]),(zsq [(.reg [zfa 5 2 0,zld 6 5 1,zfa 7 3 0,zld 8 7 1,zca 9 23 [6,8],zno 10 9]),(.cond 10 (zsq [(.reg [zmv 4 (zkb false)]),.ret]) .skip)]),(.reg [zmv 4 (zkb true)]),.ret])
def QHt:List (ARv × Md):=[(.t 4,.one .d)]
theorem QCj (a:List Int) (b:List Int) (h :
 (zif (!(m_eq (α:=List Int) a b)) (K (QgB false)) (K (QgB true)))):Hold (tawp QuU (0+0) QBn (TQ 0 0 QHt K) (Qd [(.a [(.c (.sl [TI]) a)]),(.a [(.c (.sl [TI]) b)])])) :=
 Hold.of (by kernel_rfl) h
theorem QDn (a:List Int) (b:List Int):TCon Tryz.prog 174 [(.a [(.c (.sl [TI]) a)]),(.a [(.c (.sl [TI]) b)])] (QgB (m_eq (α:=List Int) a b)):=by
 refine Qh rfl fun hb=>tcg (Γ:=QuU) (n:=11) (sg:=Qkm.sg) Qi (TOkL.cons QfO TOkL.nil) (by kernel_rfl) (by kernel_rfl) (QCj _ a b ?_)
 refine ⟨fun h=>R_eq (Eq.symm (decide_eq_false (by rintro rfl;simp [m_eq] at h))),fun h0=>?_⟩
 refine R_eq (Eq.symm (decide_eq_true ?_))
 simp [m_eq] at h0
 simp [Prod.ext_iff, *]
theorem QwC:Qf Tryz.prog Qkm:=Qj fun x _=>QDn x.1 x.2.1
def Qbc (t:Bool):TRes:=zre (zcb t)
def Qb7:TRow:=Qg 78 [(.c (.sl [(.sl [TI])])),(.c (.sl [(.sl [TI])]))] fun x=>(none,Qbc (m_eq (α:=List (List Int)) x.1 x.2.1))
def QeQ:TTab:=⟨[Qkm],false⟩
def QuW:TCode :=
 (zsq [(zsq [(.reg [zmv 11 5,zmv 12 0,zle 13 12,zbi 14 .lss 11 13]),(.cond 14 .skip (.exit 0))]),(.block 1 (zsq [(.draw [zmv 17 0,zmv 18 5,zia 19 17 18 [(.sl [TI])],zLd 20 19 1,zmv 21 1,zmv 22 5,zia 23 21 22 [(.sl [TI])],zLd 24 23 1,zca 25 174 [20,24],zno 26 25] []),(.cond 26 (zsq [(.reg [zmv 4 (zkb false)]),.ret]) .skip)])),(.reg [zmv 15 5,zbi 16 .add 15 (zki 1),zmv 5 16])])
def QtM:List (Nat × Md):=zdl [0,1,5]
def QsU:TCode :=
 (zsq [(.reg [zmv 4 (zkb true)]),.ret])
def QEi:TCode :=
 (zsq [(.reg [zmv 4 (zkb false)]),(zsq [(.reg [zmv 6 0,zle 7 6,zmv 8 1,zle 9 8,zbi 10 .neq 7 9]),(.cond 10 (zsq [(.reg [zmv 4 (zkb false)]),.ret]) .skip)]),(zsq [(.reg [zmv 5 (zki 0)]),(.block 0 (.loop QtM QuW))]),QsU])
def Qn9:List (ARv × Md):=[(.t 4,.one .d)]
def QtS:Qb:=TQ 0 0 Qn9 K
def QHh:Qb:=Qseq (tawp QeQ 0 QsU (QtS K)) (QtS K)
def QIr:Qb:=Qblk 0 (QHh K)
def Qkv (a:List (List Int)) (b:List (List Int)) (i:Int):Prop:=Loop QeQ 0 QtM QuW (QIr K) ⟨[(0,(zcs [(.sl [TI])] a)),(1,(zcs [(.sl [TI])] b)),(5,(zci i))],[],0⟩
theorem Qw1 (a:List (List Int)) (b:List (List Int)) (i:Int) (h :
 (zif (decide (i<(a.length:Int))) ((((0:Int)≤i∧Int.toNat i<a.length)∧((0:Int)≤i∧Int.toNat i<b.length))∧(zif (!(m_eq (α:=List Int) (gtd ([]:List Int) a (Int.toNat i)) (gtd ([]:List Int) b (Int.toNat i)))) (K (Qbc false)) (Qkv K a b (w64 (i+(1:Int)))))) (K (Qbc true)))):Qkv K a b i :=
 Loop.of (by kernel_rfl) h
theorem QHS (a:List (List Int)) (b:List (List Int)) (h :
 (zif ((a.length:Int) != (b.length:Int)) (K (Qbc false)) (Qkv K a b 0))):Hold (tawp QeQ (0+0) QEi (TQ 0 0 Qn9 K) (Qd [(.c (.sl [(.sl [TI])]) a),(.c (.sl [(.sl [TI])]) b)])) :=
 Hold.of (by kernel_rfl) h
theorem QDo (a:List (List Int)) (b:List (List Int)):TCon Tryz.prog 78 [(.c (.sl [(.sl [TI])]) a),(.c (.sl [(.sl [TI])]) b)] (Qbc (m_eq (α:=List (List Int)) a b)):=by
 refine Qh rfl fun hb=>tcg (Γ:=QeQ) (n:=27) (sg:=Qb7.sg) Qi (TOkL.cons QwC TOkL.nil) (by kernel_rfl) (by kernel_rfl) (QHS _ a b ?_)
 exact Qcg ([]:List Int) (E:=m_eq) (fun _ _=>rfl) hb.1.1 (fun i h=>Qw1 _ a b i h) (Q:=fun x=>Qbc x=Qbc (m_eq (α:=List (List Int)) a b)) rfl
theorem Qky:Qf Tryz.prog Qb7:=Qj fun x _=>QDo x.1 x.2.1
def QbA (t:Bool):TRes:=zre (zcb t)
def Qkg:TRow:=Qg 46 [(.a QE),(.a QE)] fun x=>(none,QbA (m_eq (α:=Qm) x.1 x.2.1))
def QrN:TTab:=⟨[Qb7],false⟩
def QJz:TCode :=
 (zsq [(.reg [zop 2 (.box 37 0 3),zop 3 (.box 37 1 3),zmv 4 (zkb false)]),(zsq [(.reg [zfa 5 2 0,zld 6 5 1,zfa 7 3 0,zld 8 7 1,zca 9 78 [6,8],zno 10 9]),(.cond 10 (zsq [(.reg [zmv 4 (zkb false)]),.ret]) .skip)]),(zsq [(.reg [zfa 11 2 1,zld 12 11 1,zfa 13 3 1,zld 14 13 1,zbi 15 .neq 12 14]),(.cond 15 (zsq [(.reg [zmv 4 (zkb false)]),.ret]) .skip)]),(zsq [(.reg [zfa 16 2 2,zld 17 16 1,zfa 18 3 2,zld 19 18 1,zop 20 (.eqb true 17 19)]),(.cond 20 (zsq [(.reg [zmv 4 (zkb false)]),.ret]) .skip)]),(.reg [zmv 4 (zkb true)]),.ret])
def Qzv:List (ARv × Md):=[(.t 4,.one .d)]
theorem QHe (a:Qm) (b:Qm) (h :
 (zif (!(m_eq (α:=List (List Int)) a.1 b.1)) (K (QbA false)) (zif (a.2.1 != b.2.1) (K (QbA false)) (zif (!(a.2.2==b.2.2)) (K (QbA false)) (K (QbA true)))))):Hold (tawp QrN (0+0) QJz (TQ 0 0 Qzv K) (Qd [(.a (Tup.cells QE a)),(.a (Tup.cells QE b))])) :=
 Hold.of (by kernel_rfl) h
theorem Qys (a:Qm) (b:Qm):TCon Tryz.prog 46 [(.a (Tup.cells QE a)),(.a (Tup.cells QE b))] (QbA (m_eq (α:=Qm) a b)):=by
 refine Qh rfl fun hb=>tcg (Γ:=QrN) (n:=21) (sg:=Qkg.sg) Qi (TOkL.cons Qky TOkL.nil) (by kernel_rfl) (by kernel_rfl) (QHe _ a b ?_)
 refine ⟨fun h=>R_eq (Eq.symm (decide_eq_false (by rintro rfl;simp [m_eq] at h))),fun h0=>?_⟩
 refine ⟨fun h=>R_eq (Eq.symm (decide_eq_false (by rintro rfl;simp [m_eq] at h))),fun h1=>?_⟩
 refine ⟨fun h=>R_eq (Eq.symm (decide_eq_false (by rintro rfl;simp [m_eq] at h))),fun h2=>?_⟩
 refine R_eq (Eq.symm (decide_eq_true ?_))
 simp [m_eq] at h0 h1 h2
 simp [Prod.ext_iff, *]
theorem QJe:Qf Tryz.prog Qkg:=Qj fun x _=>Qys x.1 x.2.1
end
end Go.Proofs.YtdplaepmjogjjaaGreat.Am

