/- -/
import Derived.Test.YtdplaepmjogjjaaGreatVEGF
namespace Go.Proofs.YtdplaepmjogjjaaGreat.Am
open Go Go.RowKit Go.Proofs.YtdplaepmjogjjaaGreat
set_option linter.all false
noncomputable section
variable (K:TRes→Prop)
def Qbi (t:Int):TRes:=zre (zci t)
def Qb2:TRow:=Qg 59 [(.c (.sl [TI])),(.c TI)] fun x=>(some (p_sz (α:=List Int) x.1 x.2.1),Qbi (m_sz (α:=List Int) x.1 x.2.1))
def QrQ:TTab:=⟨[],false⟩
def QBh:TCode :=
 (zsq [(.reg [zmv 4 (zki 0)]),(.reg [zmv 5 1,zmv 6 0,zle 7 6,zbi 8 .sub 5 7,zmv 1 8]),(zsq [(.reg [zmv 9 1,zbi 10 .lss 9 (zki 0)]),(.cond 10 (zsq [(.reg [zmv 4 (zki (-1))]),.ret]) .skip)]),(.reg [zmv 11 1,zmv 4 11]),.ret])
def QEO:List (ARv × Md):=[(.t 4,.one .d)]
theorem QAr (a:List Int) (left:Int) (h :
 (zif (decide ((w64 (left-(a.length:Int)))<(0:Int))) (K (Qbi (-1:Int))) (K (Qbi (w64 (left-(a.length:Int))))))):Hold (tawp QrQ (0+0) QBh (TQ 0 0 QEO K) (Qe [(.c (.sl [TI]) a),(.c TI left)])) :=
 Hold.of (by kernel_rfl) h
theorem QvB (a:List Int) (left:Int) (hp:p_sz (α:=List Int) a left):TCon Tryz.prog 59 [(.c (.sl [TI]) a),(.c TI left)] (Qbi (m_sz (α:=List Int) a left)):=by
 refine Ql rfl fun hb=>tcg (Γ:=QrQ) (n:=12) (sg:=Qb2.sg) Qk TOkL.nil (by kernel_rfl) (by kernel_rfl) (QAr _ a left ?_)
 exact QpR (Q:=fun x=>Qbi x=Qbi (m_sz (α:=List Int) a left)) (fun _=>rfl) hp hb.1.1 rfl
theorem QhG:Qi Tryz.prog Qb2:=Qm fun x h=>QvB x.1 x.2.1 h
def Qbq (t:Int):TRes:=zre (zci t)
def Qg5:TRow:=Qg 115 [(.c (.sl [.bool])),(.c TI)] fun x=>(some (p_sz (α:=List Bool) x.1 x.2.1),Qbq (m_sz (α:=List Bool) x.1 x.2.1))
def QrL:TTab:=⟨[],false⟩
def QDj:TCode :=
 (zsq [(.reg [zmv 4 (zki 0)]),(.reg [zmv 5 1,zmv 6 0,zle 7 6,zbi 8 .sub 5 7,zmv 1 8]),(zsq [(.reg [zmv 9 1,zbi 10 .lss 9 (zki 0)]),(.cond 10 (zsq [(.reg [zmv 4 (zki (-1))]),.ret]) .skip)]),(.reg [zmv 11 1,zmv 4 11]),.ret])
def Qwi:List (ARv × Md):=[(.t 4,.one .d)]
theorem Qvv (a:List Bool) (left:Int) (h :
 (zif (decide ((w64 (left-(a.length:Int)))<(0:Int))) (K (Qbq (-1:Int))) (K (Qbq (w64 (left-(a.length:Int))))))):Hold (tawp QrL (0+0) QDj (TQ 0 0 Qwi K) (Qe [(.c (.sl [.bool]) a),(.c TI left)])) :=
 Hold.of (by kernel_rfl) h
theorem QAj (a:List Bool) (left:Int) (hp:p_sz (α:=List Bool) a left):TCon Tryz.prog 115 [(.c (.sl [.bool]) a),(.c TI left)] (Qbq (m_sz (α:=List Bool) a left)):=by
 refine Ql rfl fun hb=>tcg (Γ:=QrL) (n:=12) (sg:=Qg5.sg) Qk TOkL.nil (by kernel_rfl) (by kernel_rfl) (Qvv _ a left ?_)
 exact QpR (Q:=fun x=>Qbq x=Qbq (m_sz (α:=List Bool) a left)) (fun _=>rfl) hp hb.1.1 rfl
theorem QFT:Qi Tryz.prog Qg5:=Qm fun x h=>QAj x.1 x.2.1 h
def Qb9 (t:Int):TRes:=zre (zci t)
def Qgz:TRow:=Qg 116 [(.a Qj),(.c TI)] fun x=>(some (p_sz (α:=Qc) x.1 x.2.1),Qb9 (m_sz (α:=Qc) x.1 x.2.1))
def Qne:TTab:=⟨[Qb2],false⟩
def QEq:TCode :=
 (zsq [(.reg [zop 2 (.box 151 0 2),zmv 4 (zki 0)]),(.reg [zfa 5 2 0,zld 6 5 1,zmv 7 1,zca 8 59 [6,7],zmv 1 8]),(zsq [(.reg [zmv 9 1,zbi 10 .lss 9 (zki 0)]),(.cond 10 (zsq [(.reg [zmv 4 (zki (-1))]),.ret]) .skip)]),(.reg [zfa 11 2 1,zld 12 11 1,zmv 13 1,zca 14 59 [12,13],zmv 1 14]),(zsq [(.reg [zmv 15 1,zbi 16 .lss 15 (zki 0)]),(.cond 16 (zsq [(.reg [zmv 4 (zki (-1))]),.ret]) .skip)]),(.reg [zmv 17 1,zmv 4 17]),.ret])
def QIx:List (ARv × Md):=[(.t 4,.one .d)]
theorem QGX (a:Qc) (left:Int) (h :
 ((p_sz (α:=List Int) a.1 left)∧(zif (decide ((m_sz (α:=List Int) a.1 left)<(0:Int))) (K (Qb9 (-1:Int))) ((p_sz (α:=List Int) a.2 (m_sz (α:=List Int) a.1 left))∧(zif (decide ((m_sz (α:=List Int) a.2 (m_sz (α:=List Int) a.1 left))<(0:Int))) (K (Qb9 (-1:Int))) (K (Qb9 (m_sz (α:=List Int) a.2 (m_sz (α:=List Int) a.1 left))))))))):Hold (tawp Qne (0+0) QEq (TQ 0 0 QIx K) (Qe [(.a [(.c (.sl [TI]) a.1),(.c (.sl [TI]) a.2)]),(.c TI left)])) :=
 Hold.of (by kernel_rfl) h
theorem Qz4 (a:Qc) (left:Int) (hp:p_sz (α:=Qc) a left):TCon Tryz.prog 116 [(.a [(.c (.sl [TI]) a.1),(.c (.sl [TI]) a.2)]),(.c TI left)] (Qb9 (m_sz (α:=Qc) a left)):=by
 refine Ql rfl fun hb=>tcg (Γ:=Qne) (n:=18) (sg:=Qgz.sg) Qk (TOkL.cons QhG TOkL.nil) (by kernel_rfl) (by kernel_rfl) (QGX _ a left ?_)
 refine ⟨hp,fun h=>R_eq (Y6 (of_decide_eq_true h) (by first | omega | (simp only [QM,QS,Za];omega)) hp.1),fun h=>?_⟩
 rw [Qdh (Int.not_lt.1 (of_decide_eq_false h))]
 refine ⟨QbJ hp,fun h=>R_eq (Y6 (of_decide_eq_true h) (by first | omega | (simp only [QM,QS,Za];omega)) hp.1),fun h=>?_⟩
 exact R_eq (congrArg (ZG · _) (by first | rfl | omega | (simp only [QM,QS,Za];omega)))
theorem Qvt:Qi Tryz.prog Qgz:=Qm fun x h=>Qz4 x.1 x.2.1 h
def Qag (t:Int):TRes:=zre (zci t)
def QiJ:TRow:=Qg 34 [(.c (.sl Qj)),(.c TI)] fun x=>(some (p_sz (α:=List Qc) x.1 x.2.1),Qag (m_sz (α:=List Qc) x.1 x.2.1))
def QfF:TTab:=⟨[Qgz],false⟩
def QrN:TCode :=
 (zsq [(zsq [(.reg [zmv 12 5,zmv 13 0,zle 14 13,zbi 15 .lss 12 14]),(.cond 15 .skip (.exit 0))]),(.block 1 (zsq [(.reg [zmv 18 0,zmv 19 5,zia 20 18 19 Qj,zLd 21 20 2,zmv 22 1,zca 23 116 [21,22],zmv 1 23]),(.reg [zmv 24 1,zbi 25 .lss 24 (zki 0)]),(.cond 25 (zsq [(.reg [zmv 4 (zki (-1))]),.ret]) .skip)])),(.reg [zmv 16 5,zbi 17 .add 16 (zki 1),zmv 5 17])])
def QqE:List (Nat × Md):=zdl [0,1,5]
def Qrr:TCode :=
 (zsq [(.reg [zmv 26 1,zmv 4 26]),.ret])
def QzN:TCode :=
 (zsq [(.reg [zmv 4 (zki 0)]),(.reg [zmv 6 1,zmv 7 0,zle 8 7,zbi 9 .sub 6 8,zmv 1 9]),(zsq [(.reg [zmv 10 1,zbi 11 .lss 10 (zki 0)]),(.cond 11 (zsq [(.reg [zmv 4 (zki (-1))]),.ret]) .skip)]),(zsq [(.reg [zmv 5 (zki 0)]),(.block 0 (.loop QqE QrN))]),Qrr])
def Qt0:List (ARv × Md):=[(.t 4,.one .d)]
def Ql5:Qb:=TQ 0 0 Qt0 K
def QFN:Qb:=Qseq (tawp QfF 0 Qrr (Ql5 K)) (Ql5 K)
def QFH:Qb:=Qblk 0 (QFN K)
def Qjx (a:List Qc) (left1:Int) (i:Int):Prop:=Loop QfF 0 QqE QrN (QFH K) ⟨[(0,(zcs Qj a)),(1,(zci left1)),(5,(zci i))],[],0⟩
theorem QI5 (a:List Qc) (left1:Int) (i:Int) (h :
 (zif (decide (i<(a.length:Int))) ((((0:Int)≤i∧Int.toNat i<a.length)∧(p_sz (α:=Qc) (gtd QC a (Int.toNat i)) left1))∧(zif (decide ((m_sz (α:=Qc) (gtd QC a (Int.toNat i)) left1)<(0:Int))) (K (Qag (-1:Int))) (Qjx K a (m_sz (α:=Qc) (gtd QC a (Int.toNat i)) left1) (w64 (i+(1:Int)))))) (K (Qag left1)))):Qjx K a left1 i :=
 Loop.of (by kernel_rfl) h
theorem QBf (a:List Qc) (left:Int) (h :
 (zif (decide ((w64 (left-(a.length:Int)))<(0:Int))) (K (Qag (-1:Int))) (Qjx K a (w64 (left-(a.length:Int))) 0))):Hold (tawp QfF (0+0) QzN (TQ 0 0 Qt0 K) (Qe [(.c (.sl Qj) a),(.c TI left)])) :=
 Hold.of (by kernel_rfl) h
theorem QDy (a:List Qc) (left:Int) (hp:p_sz (α:=List Qc) a left):TCon Tryz.prog 34 [(.c (.sl Qj) a),(.c TI left)] (Qag (m_sz (α:=List Qc) a left)):=by
 refine Ql rfl fun hb=>tcg (Γ:=QfF) (n:=27) (sg:=QiJ.sg) Qk (TOkL.cons Qvt TOkL.nil) (by kernel_rfl) (by kernel_rfl) (QBf _ a left ?_)
 exact QpV (Q:=fun x=>Qag x=Qag (m_sz (α:=List Qc) a left)) QC hp hb.1.1 (fun l i h=>QI5 _ a l i h) rfl
theorem QG0:Qi Tryz.prog QiJ:=Qm fun x h=>QDy x.1 x.2.1 h
def JA (t:(List Int)):TRes:=⟨(.r [TI] 0 0 t.length),[(.sl 3 [TI] (.dp 0 true []) t)],[],false,[]⟩
def Qcu:TRow:=Qg 29 [(.c (.sl [TI]))] fun x=>(some (p_to (α:=List Int) x.1),JA (id (α:=List Int) x.1))
def QfK:TTab:=⟨[],true⟩
def Qmj:TCode :=
 (zsq [(zsq [(.reg [zmv 8 4,zmv 9 0,zle 10 9,zbi 11 .lss 8 10]),(.cond 11 .skip (.exit 0))]),(.block 1 (.reg [zmv 14 3,zmv 15 4,zmv 16 0,zmv 17 4,zia 18 16 17 [TI],zld 19 18 1,zia 20 14 15 [TI],zst 20 19 1])),(.reg [zmv 12 4,zbi 13 .add 12 (zki 1),zmv 4 13])])
def QoR:List (Nat × Md):=[(0,.one .d),(3,.one .f),(4,.one .d)]
def Qsj:TCode :=
 (zsq [(.reg [zmv 21 3,zmv 2 21]),.ret])
def Qyh:TCode :=
 (zsq [(.reg [zmv 2 (.k (.n [TI]))]),(.reg [zmv 5 0,zle 6 5,zop 7 (.mk 3 [TI] [(zci 0)] 6),zmv 3 7]),(zsq [(.reg [zmv 4 (zki 0)]),(.block 0 (.loop QoR Qmj))]),Qsj])
def QmP:List (ARv × Md):=[(.t 2,.one (.p 3))]
def Qom:Qb:=TQ 0 0 QmP K
def QJy:Qb:=Qseq (tawp QfK 0 Qsj (Qom K)) (Qom K)
def QF9:Qb:=Qblk 0 (QJy K)
def Qf9 (a:List Int) (i:Int) (out:List Int):Prop:=Loop QfK 0 QoR Qmj (QF9 K) ⟨[(0,(zcs [TI] a)),(3,(.r [TI] 0 0 out.length)),(4,(zci i))],[(0,(.sl 3 [TI] (.dp 0 true []) out))],1⟩
theorem Qlo (a:List Int) (i:Int) (out:List Int) (h :
 (zif (decide (i<(a.length:Int))) ((((0:Int)≤i∧Int.toNat i<a.length)∧(((0:Int)≤i∧Int.toNat i<out.length)∧((0+(Int.toNat i))<out.length)))∧(Qf9 K a (w64 (i+(1:Int))) (List.take out.length ((out).set (0+(Int.toNat i)) (gtd (0:Int) a (Int.toNat i)))))) (K (JA (List.take out.length out))))):Qf9 K a i out :=
 Loop.of (by kernel_rfl) h
theorem QBd (a:List Int) (h :
 (((0:Int)≤(a.length:Int)∧(a.length:Int)≤big)∧(Qf9 K a 0 (List.take (Int.toNat (a.length:Int)) (List.replicate (Int.toNat (a.length:Int)) (0:Int)))))):Hold (tawp QfK (0+0) Qyh (TQ 0 0 QmP K) (Qe [(.c (.sl [TI]) a)])) :=
 Hold.of (by kernel_rfl) h
theorem QGz (a:List Int) (hp:p_to (α:=List Int) a):TCon Tryz.prog 29 [(.c (.sl [TI]) a)] (JA (id (α:=List Int) a)):=by
 refine Ql rfl fun hb=>tcg (Γ:=QfK) (n:=22) (sg:=Qcu.sg) Qk TOkL.nil (by kernel_rfl) (by kernel_rfl) (QBd _ a ?_)
 refine ⟨⟨by omega,by rw [bigI];have:=Jv hp;omega⟩,?_⟩
 refine QeT a (A:=fun ii ll=>Qf9 (fun r'=>r'=JA (id (α:=List Int) a)) a ii ll) (Q:=fun z=>JA z=JA (id (α:=List Int) a)) hp ?_ ?_ rfl
 ·intro k x out hlt hg ho hx hA
  have hw:w64 (((k:Nat):Int)+1)=((k+1:Nat):Int):=by have:=Jv hp;rw [Qx (by omega) (by omega)];omega
  have hlo:k<out.length:=by omega
  refine Qlo (fun r'=>r'=JA (id (α:=List Int) a)) a ((k:Nat):Int) out ?_
  refine ⟨fun _=>?_,fun h=>absurd h (by simp;omega)⟩
  simp only [Int.toNat_natCast,Nat.zero_add,hg,hw,hlt,hlo,QeV,List.drop_zero,List.take_length,id_eq,and_true,true_and,Int.natCast_nonneg]
  first | exact hA | exact ⟨hx,hA⟩
 ·intro out ho hq
  refine Qlo (fun r'=>r'=JA (id (α:=List Int) a)) a ((a.length:Nat):Int) out ?_
  refine ⟨fun h=>absurd h (by simp),fun _=>?_⟩
  simp only [List.drop_zero,List.take_length]
  exact hq
theorem QiZ:Qi Tryz.prog Qcu:=Qm fun x h=>QGz x.1 h
def JT (t:(List Bool)):TRes:=⟨(.r [.bool] 0 0 t.length),[(.sl 4 [.bool] (.dp 0 true []) t)],[],false,[]⟩
def Qig:TRow:=Qg 123 [(.c (.sl [.bool]))] fun x=>(some (p_to (α:=List Bool) x.1),JT (id (α:=List Bool) x.1))
def Qfq:TTab:=⟨[],true⟩
def QoA:TCode :=
 (zsq [(zsq [(.reg [zmv 8 4,zmv 9 0,zle 10 9,zbi 11 .lss 8 10]),(.cond 11 .skip (.exit 0))]),(.block 1 (.reg [zmv 14 3,zmv 15 4,zmv 16 0,zmv 17 4,zia 18 16 17 [.bool],zld 19 18 1,zia 20 14 15 [.bool],zst 20 19 1])),(.reg [zmv 12 4,zbi 13 .add 12 (zki 1),zmv 4 13])])
def Qt3:List (Nat × Md):=[(0,.one .d),(3,.one .f),(4,.one .d)]
def Qm6:TCode :=
 (zsq [(.reg [zmv 21 3,zmv 2 21]),.ret])
def QEh:TCode :=
 (zsq [(.reg [zmv 2 (.k (.n [.bool]))]),(.reg [zmv 5 0,zle 6 5,zop 7 (.mk 4 [.bool] [(zcb false)] 6),zmv 3 7]),(zsq [(.reg [zmv 4 (zki 0)]),(.block 0 (.loop Qt3 QoA))]),Qm6])
def Qtm:List (ARv × Md):=[(.t 2,.one (.p 4))]
def Qrw:Qb:=TQ 0 0 Qtm K
def Qyo:Qb:=Qseq (tawp Qfq 0 Qm6 (Qrw K)) (Qrw K)
def QIQ:Qb:=Qblk 0 (Qyo K)
def Qd0 (a:List Bool) (i:Int) (out:List Bool):Prop:=Loop Qfq 0 Qt3 QoA (QIQ K) ⟨[(0,(zcs [.bool] a)),(3,(.r [.bool] 0 0 out.length)),(4,(zci i))],[(0,(.sl 4 [.bool] (.dp 0 true []) out))],1⟩
theorem Qsr (a:List Bool) (i:Int) (out:List Bool) (h :
 (zif (decide (i<(a.length:Int))) ((((0:Int)≤i∧Int.toNat i<a.length)∧(((0:Int)≤i∧Int.toNat i<out.length)∧((0+(Int.toNat i))<out.length)))∧(Qd0 K a (w64 (i+(1:Int))) (List.take out.length ((out).set (0+(Int.toNat i)) (gtd (false:Bool) a (Int.toNat i)))))) (K (JT (List.take out.length out))))):Qd0 K a i out :=
 Loop.of (by kernel_rfl) h
theorem QAe (a:List Bool) (h :
 (((0:Int)≤(a.length:Int)∧(a.length:Int)≤big)∧(Qd0 K a 0 (List.take (Int.toNat (a.length:Int)) (List.replicate (Int.toNat (a.length:Int)) false))))):Hold (tawp Qfq (0+0) QEh (TQ 0 0 Qtm K) (Qe [(.c (.sl [.bool]) a)])) :=
 Hold.of (by kernel_rfl) h
theorem QF4 (a:List Bool) (hp:p_to (α:=List Bool) a):TCon Tryz.prog 123 [(.c (.sl [.bool]) a)] (JT (id (α:=List Bool) a)):=by
 refine Ql rfl fun hb=>tcg (Γ:=Qfq) (n:=22) (sg:=Qig.sg) Qk TOkL.nil (by kernel_rfl) (by kernel_rfl) (QAe _ a ?_)
 refine ⟨⟨by omega,by rw [bigI];have:=Jv hp;omega⟩,?_⟩
 refine QeT a (A:=fun ii ll=>Qd0 (fun r'=>r'=JT (id (α:=List Bool) a)) a ii ll) (Q:=fun z=>JT z=JT (id (α:=List Bool) a)) hp ?_ ?_ rfl
 ·intro k x out hlt hg ho hx hA
  have hw:w64 (((k:Nat):Int)+1)=((k+1:Nat):Int):=by have:=Jv hp;rw [Qx (by omega) (by omega)];omega
  have hlo:k<out.length:=by omega
  refine Qsr (fun r'=>r'=JT (id (α:=List Bool) a)) a ((k:Nat):Int) out ?_
  refine ⟨fun _=>?_,fun h=>absurd h (by simp;omega)⟩
  simp only [Int.toNat_natCast,Nat.zero_add,hg,hw,hlt,hlo,QeV,List.drop_zero,List.take_length,id_eq,and_true,true_and,Int.natCast_nonneg]
  first | exact hA | exact ⟨hx,hA⟩
 ·intro out ho hq
  refine Qsr (fun r'=>r'=JT (id (α:=List Bool) a)) a ((a.length:Nat):Int) out ?_
  refine ⟨fun h=>absurd h (by simp),fun _=>?_⟩
  simp only [List.drop_zero,List.take_length]
  exact hq
theorem QCF:Qi Tryz.prog Qig:=Qm fun x h=>QF4 x.1 h
def QgM (t:Qc):TRes:=⟨(.a [(.r [TI] 0 0 ((t.1).length)),(.r [TI] 1 0 ((t.2).length))]),[(.sl 3 [TI] (.dp 0 true []) t.1),(.sl 3 [TI] (.dp 0 true []) t.2)],[],false,[]⟩
def QgR:TRow:=Qg 124 [(.a Qj)] fun x=>(some (p_to (α:=Qc) x.1),QgM (id (α:=Qc) x.1))
def QuN:TTab:=⟨[Qcu],true⟩
def QIh:TCode :=
 (zsq [(.reg [zop 1 (.box 151 0 2),zop 2 (.new 154 (z0s Qj))]),(.reg [zop 3 (.new 154 (z0s Qj))]),(.reg [zfa 4 1 0,zld 5 4 1,zca 6 29 [5],zfa 7 3 0,zst 7 6 1]),(.reg [zfa 8 1 1,zld 9 8 1,zca 10 29 [9],zfa 11 3 1,zst 11 10 1]),(.reg [zLd 12 3 2,zst 2 12 2]),.ret])
def Qv0:List (ARv × Md):=[(.l 2 2 true,.b [.p 3,.p 3])]
theorem Qxw (a:Qc) (h :
 ((p_to (α:=List Int) a.1)∧((p_to (α:=List Int) a.2)∧K (QgM ((List.take ((id (α:=List Int) a.1).length) (id (α:=List Int) a.1)),(List.take ((id (α:=List Int) a.2).length) (id (α:=List Int) a.2))))))):Hold (tawp QuN (0+0) QIh (TQ 0 0 Qv0 K) (Qe [(.a [(.c (.sl [TI]) a.1),(.c (.sl [TI]) a.2)])])) :=
 Hold.of (by kernel_rfl) h
theorem QwG (a:Qc) (hp:p_to (α:=Qc) a):TCon Tryz.prog 124 [(.a [(.c (.sl [TI]) a.1),(.c (.sl [TI]) a.2)])] (QgM (id (α:=Qc) a)):=by
 refine Ql rfl fun hb=>tcg (Γ:=QuN) (n:=13) (sg:=QgR.sg) Qk (TOkL.cons QiZ TOkL.nil) (by kernel_rfl) (by kernel_rfl) (Qxw _ a ?_)
 repeat' (first | refine And.intro ?_ ?_ | exact R_eq (by simp))
 all_goals (simp only [p_to,QM,QS,Za,List.drop_zero,List.take_length,id_eq] at hp ⊢;omega)
theorem QwJ:Qi Tryz.prog QgR:=Qm fun x h=>QwG x.1 h
def J1 (t:(List Qc)):TRes:=⟨(.r Qj 0 0 t.length),[(.sl 154 Qj (.dp 0 true []) t)],[],false,[]⟩
def Qg2:TRow:=Qg 37 [(.c (.sl Qj))] fun x=>(some (p_to (α:=List Qc) x.1),J1 (id (α:=List Qc) x.1))
def Qfg:TTab:=⟨[QgR],true⟩
def QrI:TCode :=
 (zsq [(zsq [(.reg [zmv 8 4,zmv 9 0,zle 10 9,zbi 11 .lss 8 10]),(.cond 11 .skip (.exit 0))]),(.block 1 (.reg [zmv 14 3,zmv 15 4,zmv 16 0,zmv 17 4,zia 18 16 17 Qj,zLd 19 18 2,zca 20 124 [19],zia 21 14 15 Qj,zst 21 20 2])),(.reg [zmv 12 4,zbi 13 .add 12 (zki 1),zmv 4 13])])
def QlZ:List (Nat × Md):=[(0,.one .d),(3,.one .f),(4,.one .d)]
def QqG:TCode :=
 (zsq [(.reg [zmv 22 3,zmv 2 22]),.ret])
def QEn:TCode :=
 (zsq [(.reg [zmv 2 (.k (.n Qj))]),(.reg [zmv 5 0,zle 6 5,zop 7 (.mk 154 Qj (z0s Qj) 6),zmv 3 7]),(zsq [(.reg [zmv 4 (zki 0)]),(.block 0 (.loop QlZ QrI))]),QqG])
def Qq9:List (ARv × Md):=[(.t 2,.one (.p 154))]
def Qul:Qb:=TQ 0 0 Qq9 K
def Qw8:Qb:=Qseq (tawp Qfg 0 QqG (Qul K)) (Qul K)
def QJB:Qb:=Qblk 0 (Qw8 K)
def QdC (a:List Qc) (i:Int) (out:List Qc):Prop:=Loop Qfg 0 QlZ QrI (QJB K) ⟨[(0,(zcs Qj a)),(3,(.r Qj 0 0 out.length)),(4,(zci i))],[(0,(.sl 154 Qj (.dp 0 true []) out))],1⟩
theorem Qq6 (a:List Qc) (i:Int) (out:List Qc) (h :
 (zif (decide (i<(a.length:Int))) ((((0:Int)≤i∧Int.toNat i<a.length)∧((p_to (α:=Qc) (gtd QC a (Int.toNat i)))∧(((0:Int)≤i∧Int.toNat i<out.length)∧((0+(Int.toNat i))<out.length))))∧(QdC K a (w64 (i+(1:Int))) (List.take out.length ((out).set (0+(Int.toNat i)) ((List.take (((id (α:=Qc) (gtd QC a (Int.toNat i))).1).length) (List.drop 0 ((id (α:=Qc) (gtd QC a (Int.toNat i))).1))),(List.take (((id (α:=Qc) (gtd QC a (Int.toNat i))).2).length) (List.drop 0 ((id (α:=Qc) (gtd QC a (Int.toNat i))).2)))))))) (K (J1 (List.take out.length out))))):QdC K a i out :=
 Loop.of (by kernel_rfl) h
theorem QAB (a:List Qc) (h :
 (((0:Int)≤(a.length:Int)∧(a.length:Int)≤big)∧(QdC K a 0 (List.take (Int.toNat (a.length:Int)) (List.replicate (Int.toNat (a.length:Int)) ([],[])))))):Hold (tawp Qfg (0+0) QEn (TQ 0 0 Qq9 K) (Qe [(.c (.sl Qj) a)])) :=
 Hold.of (by kernel_rfl) h
theorem QAo (a:List Qc) (hp:p_to (α:=List Qc) a):TCon Tryz.prog 37 [(.c (.sl Qj) a)] (J1 (id (α:=List Qc) a)):=by
 refine Ql rfl fun hb=>tcg (Γ:=Qfg) (n:=23) (sg:=Qg2.sg) Qk (TOkL.cons QwJ TOkL.nil) (by kernel_rfl) (by kernel_rfl) (QAB _ a ?_)
 refine ⟨⟨by omega,by rw [bigI];have:=Jv hp;omega⟩,?_⟩
 refine QeT a (A:=fun ii ll=>QdC (fun r'=>r'=J1 (id (α:=List Qc) a)) a ii ll) (Q:=fun z=>J1 z=J1 (id (α:=List Qc) a)) hp ?_ ?_ rfl
 ·intro k x out hlt hg ho hx hA
  have hw:w64 (((k:Nat):Int)+1)=((k+1:Nat):Int):=by have:=Jv hp;rw [Qx (by omega) (by omega)];omega
  have hlo:k<out.length:=by omega
  refine Qq6 (fun r'=>r'=J1 (id (α:=List Qc) a)) a ((k:Nat):Int) out ?_
  refine ⟨fun _=>?_,fun h=>absurd h (by simp;omega)⟩
  simp only [Int.toNat_natCast,Nat.zero_add,hg,hw,hlt,hlo,QeV,List.drop_zero,List.take_length,id_eq,and_true,true_and,Int.natCast_nonneg]
  first | exact hA | exact ⟨hx,hA⟩
 ·intro out ho hq
  refine Qq6 (fun r'=>r'=J1 (id (α:=List Qc) a)) a ((a.length:Nat):Int) out ?_
  refine ⟨fun h=>absurd h (by simp),fun _=>?_⟩
  simp only [List.drop_zero,List.take_length]
  exact hq
theorem QHj:Qi Tryz.prog Qg2:=Qm fun x h=>QAo x.1 h
def QaF (t:Bool):TRes:=zre (zcb t)
def JD:TRow:=Qg 23 [(.c (.sl [TI])),(.c (.sl [TI]))] fun x=>(none,QaF (m_eq (α:=List Int) x.1 x.2.1))
def Qef:TTab:=⟨[],false⟩
def QmL:TCode :=
 (zsq [(zsq [(.reg [zmv 11 5,zmv 12 0,zle 13 12,zbi 14 .lss 11 13]),(.cond 14 .skip (.exit 0))]),(.block 1 (zsq [(.draw [zmv 17 0,zmv 18 5,zia 19 17 18 [TI],zld 20 19 1,zmv 21 1,zmv 22 5,zia 23 21 22 [TI],zld 24 23 1,zbi 25 .neq 20 24] []),(.cond 25 (zsq [(.reg [zmv 4 (zkb false)]),.ret]) .skip)])),(.reg [zmv 15 5,zbi 16 .add 15 (zki 1),zmv 5 16])])
def QkP:List (Nat × Md):=zdl [0,1,5]
def Qlh:TCode :=
 (zsq [(.reg [zmv 4 (zkb true)]),.ret])
def QHx:TCode :=
 (zsq [(.reg [zmv 4 (zkb false)]),(zsq [(.reg [zmv 6 0,zle 7 6,zmv 8 1,zle 9 8,zbi 10 .neq 7 9]),(.cond 10 (zsq [(.reg [zmv 4 (zkb false)]),.ret]) .skip)]),(zsq [(.reg [zmv 5 (zki 0)]),(.block 0 (.loop QkP QmL))]),Qlh])
def Qs3:List (ARv × Md):=[(.t 4,.one .d)]
def QlM:Qb:=TQ 0 0 Qs3 K
def Qw2:Qb:=Qseq (tawp Qef 0 Qlh (QlM K)) (QlM K)
def QJt:Qb:=Qblk 0 (Qw2 K)
def Qkx (a:List Int) (b:List Int) (i:Int):Prop:=Loop Qef 0 QkP QmL (QJt K) ⟨[(0,(zcs [TI] a)),(1,(zcs [TI] b)),(5,(zci i))],[],0⟩
theorem QCa (a:List Int) (b:List Int) (i:Int) (h :
 (zif (decide (i<(a.length:Int))) ((((0:Int)≤i∧Int.toNat i<a.length)∧((0:Int)≤i∧Int.toNat i<b.length))∧(zif ((gtd (0:Int) a (Int.toNat i)) != (gtd (0:Int) b (Int.toNat i))) (K (QaF false)) (Qkx K a b (w64 (i+(1:Int)))))) (K (QaF true)))):Qkx K a b i :=
 Loop.of (by kernel_rfl) h
theorem Qv1 (a:List Int) (b:List Int) (h :
 (zif ((a.length:Int) != (b.length:Int)) (K (QaF false)) (Qkx K a b 0))):Hold (tawp Qef (0+0) QHx (TQ 0 0 Qs3 K) (Qe [(.c (.sl [TI]) a),(.c (.sl [TI]) b)])) :=
 Hold.of (by kernel_rfl) h
theorem QF1 (a:List Int) (b:List Int):TCon Tryz.prog 23 [(.c (.sl [TI]) a),(.c (.sl [TI]) b)] (QaF (m_eq (α:=List Int) a b)):=by
 refine Ql rfl fun hb=>tcg (Γ:=Qef) (n:=26) (sg:=JD.sg) Qk TOkL.nil (by kernel_rfl) (by kernel_rfl) (Qv1 _ a b ?_)
 exact QxO hb.1.1 (fun i h=>QCa _ a b i h) (Q:=fun x=>QaF x=QaF (m_eq (α:=List Int) a b)) rfl
theorem Qbh:Qi Tryz.prog JD:=Qm fun x _=>QF1 x.1 x.2.1
def Qao (t:Bool):TRes:=zre (zcb t)
def Qj9:TRow:=Qg 132 [(.c (.sl [.bool])),(.c (.sl [.bool]))] fun x=>(none,Qao (m_eq (α:=List Bool) x.1 x.2.1))
def Qfu:TTab:=⟨[],false⟩
def QsM:TCode :=
 (zsq [(zsq [(.reg [zmv 11 5,zmv 12 0,zle 13 12,zbi 14 .lss 11 13]),(.cond 14 .skip (.exit 0))]),(.block 1 (zsq [(.draw [zmv 17 0,zmv 18 5,zia 19 17 18 [.bool],zld 20 19 1,zmv 21 1,zmv 22 5,zia 23 21 22 [.bool],zld 24 23 1,zop 25 (.eqb true 20 24)] []),(.cond 25 (zsq [(.reg [zmv 4 (zkb false)]),.ret]) .skip)])),(.reg [zmv 15 5,zbi 16 .add 15 (zki 1),zmv 5 16])])
def Qn4:List (Nat × Md):=zdl [0,1,5]
def Qos:TCode :=
 (zsq [(.reg [zmv 4 (zkb true)]),.ret])
def Qw7:TCode :=
 (zsq [(.reg [zmv 4 (zkb false)]),(zsq [(.reg [zmv 6 0,zle 7 6,zmv 8 1,zle 9 8,zbi 10 .neq 7 9]),(.cond 10 (zsq [(.reg [zmv 4 (zkb false)]),.ret]) .skip)]),(zsq [(.reg [zmv 5 (zki 0)]),(.block 0 (.loop Qn4 QsM))]),Qos])
def Qnn:List (ARv × Md):=[(.t 4,.one .d)]
def QkX:Qb:=TQ 0 0 Qnn K
def Qvl:Qb:=Qseq (tawp Qfu 0 Qos (QkX K)) (QkX K)
def QFA:Qb:=Qblk 0 (Qvl K)
def Qhn (a:List Bool) (b:List Bool) (i:Int):Prop:=Loop Qfu 0 Qn4 QsM (QFA K) ⟨[(0,(zcs [.bool] a)),(1,(zcs [.bool] b)),(5,(zci i))],[],0⟩
theorem QGC (a:List Bool) (b:List Bool) (i:Int) (h :
 (zif (decide (i<(a.length:Int))) ((((0:Int)≤i∧Int.toNat i<a.length)∧((0:Int)≤i∧Int.toNat i<b.length))∧(zif (!((gtd (false:Bool) a (Int.toNat i))==(gtd (false:Bool) b (Int.toNat i)))) (K (Qao false)) (Qhn K a b (w64 (i+(1:Int)))))) (K (Qao true)))):Qhn K a b i :=
 Loop.of (by kernel_rfl) h
theorem QEA (a:List Bool) (b:List Bool) (h :
 (zif ((a.length:Int) != (b.length:Int)) (K (Qao false)) (Qhn K a b 0))):Hold (tawp Qfu (0+0) Qw7 (TQ 0 0 Qnn K) (Qe [(.c (.sl [.bool]) a),(.c (.sl [.bool]) b)])) :=
 Hold.of (by kernel_rfl) h
theorem QIe (a:List Bool) (b:List Bool):TCon Tryz.prog 132 [(.c (.sl [.bool]) a),(.c (.sl [.bool]) b)] (Qao (m_eq (α:=List Bool) a b)):=by
 refine Ql rfl fun hb=>tcg (Γ:=Qfu) (n:=26) (sg:=Qj9.sg) Qk TOkL.nil (by kernel_rfl) (by kernel_rfl) (QEA _ a b ?_)
 exact Qvq hb.1.1 (fun i h=>QGC _ a b i h) (Q:=fun x=>Qao x=Qao (m_eq (α:=List Bool) a b)) rfl
theorem QCP:Qi Tryz.prog Qj9:=Qm fun x _=>QIe x.1 x.2.1
def Qe0 (t:Bool):TRes:=zre (zcb t)
def Qgx:TRow:=Qg 174 [(.a [(.sl [TI])]),(.a [(.sl [TI])])] fun x=>(none,Qe0 (m_eq (α:=List Int) x.1 x.2.1))
def QsE:TTab:=⟨[JD],false⟩
def Qyv:TCode :=
 (zsq [(.reg [zop 2 (.box 106 0 1),zop 3 (.box 106 1 1),zmv 4 (zkb false)]),(zsq [(.reg [zfa 5 2 0,zld 6 5 1,zfa 7 3 0,zld 8 7 1,zca 9 23 [6,8],zno 10 9]),(.cond 10 (zsq [(.reg [zmv 4 (zkb false)]),.ret]) .skip)]),(.reg [zmv 4 (zkb true)]),.ret])
def QAQ:List (ARv × Md):=[(.t 4,.one .d)]
theorem QwI (a:List Int) (b:List Int) (h :
 (zif (!(m_eq (α:=List Int) a b)) (K (Qe0 false)) (K (Qe0 true)))):Hold (tawp QsE (0+0) Qyv (TQ 0 0 QAQ K) (Qe [(.a [(.c (.sl [TI]) a)]),(.a [(.c (.sl [TI]) b)])])) :=
 Hold.of (by kernel_rfl) h
theorem QzH (a:List Int) (b:List Int):TCon Tryz.prog 174 [(.a [(.c (.sl [TI]) a)]),(.a [(.c (.sl [TI]) b)])] (Qe0 (m_eq (α:=List Int) a b)):=by
 refine Ql rfl fun hb=>tcg (Γ:=QsE) (n:=11) (sg:=Qgx.sg) Qk (TOkL.cons Qbh TOkL.nil) (by kernel_rfl) (by kernel_rfl) (QwI _ a b ?_)
 refine ⟨fun h=>R_eq (Eq.symm (decide_eq_false (by rintro rfl;simp [m_eq] at h))),fun h0=>?_⟩
 refine R_eq (Eq.symm (decide_eq_true ?_))
 simp [m_eq] at h0
 simp [Prod.ext_iff, *]
theorem QDB:Qi Tryz.prog Qgx:=Qm fun x _=>QzH x.1 x.2.1
def QaH (t:Bool):TRes:=zre (zcb t)
def Qde:TRow:=Qg 78 [(.c (.sl [(.sl [TI])])),(.c (.sl [(.sl [TI])]))] fun x=>(none,QaH (m_eq (α:=List (List Int)) x.1 x.2.1))
def Qdr:TTab:=⟨[Qgx],false⟩
def Qk7:TCode :=
 (zsq [(zsq [(.reg [zmv 11 5,zmv 12 0,zle 13 12,zbi 14 .lss 11 13]),(.cond 14 .skip (.exit 0))]),(.block 1 (zsq [(.draw [zmv 17 0,zmv 18 5,zia 19 17 18 [(.sl [TI])],zLd 20 19 1,zmv 21 1,zmv 22 5,zia 23 21 22 [(.sl [TI])],zLd 24 23 1,zca 25 174 [20,24],zno 26 25] []),(.cond 26 (zsq [(.reg [zmv 4 (zkb false)]),.ret]) .skip)])),(.reg [zmv 15 5,zbi 16 .add 15 (zki 1),zmv 5 16])])
def Qmk:List (Nat × Md):=zdl [0,1,5]
def Qqx:TCode :=
 (zsq [(.reg [zmv 4 (zkb true)]),.ret])
def QCy:TCode :=
 (zsq [(.reg [zmv 4 (zkb false)]),(zsq [(.reg [zmv 6 0,zle 7 6,zmv 8 1,zle 9 8,zbi 10 .neq 7 9]),(.cond 10 (zsq [(.reg [zmv 4 (zkb false)]),.ret]) .skip)]),(zsq [(.reg [zmv 5 (zki 0)]),(.block 0 (.loop Qmk Qk7))]),Qqx])
def QlP:List (ARv × Md):=[(.t 4,.one .d)]
def Qn8:Qb:=TQ 0 0 QlP K
def QBS:Qb:=Qseq (tawp Qdr 0 Qqx (Qn8 K)) (Qn8 K)
def Qwn:Qb:=Qblk 0 (QBS K)
def Qi6 (a:List (List Int)) (b:List (List Int)) (i:Int):Prop:=Loop Qdr 0 Qmk Qk7 (Qwn K) ⟨[(0,(zcs [(.sl [TI])] a)),(1,(zcs [(.sl [TI])] b)),(5,(zci i))],[],0⟩
theorem Qyy (a:List (List Int)) (b:List (List Int)) (i:Int) (h :
 (zif (decide (i<(a.length:Int))) ((((0:Int)≤i∧Int.toNat i<a.length)∧((0:Int)≤i∧Int.toNat i<b.length))∧(zif (!(m_eq (α:=List Int) (gtd ([]:List Int) a (Int.toNat i)) (gtd ([]:List Int) b (Int.toNat i)))) (K (QaH false)) (Qi6 K a b (w64 (i+(1:Int)))))) (K (QaH true)))):Qi6 K a b i :=
 Loop.of (by kernel_rfl) h
theorem QHZ (a:List (List Int)) (b:List (List Int)) (h :
 (zif ((a.length:Int) != (b.length:Int)) (K (QaH false)) (Qi6 K a b 0))):Hold (tawp Qdr (0+0) QCy (TQ 0 0 QlP K) (Qe [(.c (.sl [(.sl [TI])]) a),(.c (.sl [(.sl [TI])]) b)])) :=
 Hold.of (by kernel_rfl) h
theorem QH3 (a:List (List Int)) (b:List (List Int)):TCon Tryz.prog 78 [(.c (.sl [(.sl [TI])]) a),(.c (.sl [(.sl [TI])]) b)] (QaH (m_eq (α:=List (List Int)) a b)):=by
 refine Ql rfl fun hb=>tcg (Γ:=Qdr) (n:=27) (sg:=Qde.sg) Qk (TOkL.cons QDB TOkL.nil) (by kernel_rfl) (by kernel_rfl) (QHZ _ a b ?_)
 exact YI ([]:List Int) (E:=m_eq) (fun _ _=>rfl) hb.1.1 (fun i h=>Qyy _ a b i h) (Q:=fun x=>QaH x=QaH (m_eq (α:=List (List Int)) a b)) rfl
theorem Qh8:Qi Tryz.prog Qde:=Qm fun x _=>QH3 x.1 x.2.1
def QbQ (t:Bool):TRes:=zre (zcb t)
def Qi3:TRow:=Qg 46 [(.a ZM),(.a ZM)] fun x=>(none,QbQ (m_eq (α:=Z0) x.1 x.2.1))
def Qlf:TTab:=⟨[Qde],false⟩
def QxW:TCode :=
 (zsq [(.reg [zop 2 (.box 37 0 3),zop 3 (.box 37 1 3),zmv 4 (zkb false)]),(zsq [(.reg [zfa 5 2 0,zld 6 5 1,zfa 7 3 0,zld 8 7 1,zca 9 78 [6,8],zno 10 9]),(.cond 10 (zsq [(.reg [zmv 4 (zkb false)]),.ret]) .skip)]),(zsq [(.reg [zfa 11 2 1,zld 12 11 1,zfa 13 3 1,zld 14 13 1,zbi 15 .neq 12 14]),(.cond 15 (zsq [(.reg [zmv 4 (zkb false)]),.ret]) .skip)]),(zsq [(.reg [zfa 16 2 2,zld 17 16 1,zfa 18 3 2,zld 19 18 1,zop 20 (.eqb true 17 19)]),(.cond 20 (zsq [(.reg [zmv 4 (zkb false)]),.ret]) .skip)]),(.reg [zmv 4 (zkb true)]),.ret])
def QyW:List (ARv × Md):=[(.t 4,.one .d)]
theorem QFJ (a:Z0) (b:Z0) (h :
 (zif (!(m_eq (α:=List (List Int)) a.1 b.1)) (K (QbQ false)) (zif (a.2.1 != b.2.1) (K (QbQ false)) (zif (!(a.2.2==b.2.2)) (K (QbQ false)) (K (QbQ true)))))):Hold (tawp Qlf (0+0) QxW (TQ 0 0 QyW K) (Qe [(.a (Tup.cells ZM a)),(.a (Tup.cells ZM b))])) :=
 Hold.of (by kernel_rfl) h
theorem QB0 (a:Z0) (b:Z0):TCon Tryz.prog 46 [(.a (Tup.cells ZM a)),(.a (Tup.cells ZM b))] (QbQ (m_eq (α:=Z0) a b)):=by
 refine Ql rfl fun hb=>tcg (Γ:=Qlf) (n:=21) (sg:=Qi3.sg) Qk (TOkL.cons Qh8 TOkL.nil) (by kernel_rfl) (by kernel_rfl) (QFJ _ a b ?_)
 refine ⟨fun h=>R_eq (Eq.symm (decide_eq_false (by rintro rfl;simp [m_eq] at h))),fun h0=>?_⟩
 refine ⟨fun h=>R_eq (Eq.symm (decide_eq_false (by rintro rfl;simp [m_eq] at h))),fun h1=>?_⟩
 refine ⟨fun h=>R_eq (Eq.symm (decide_eq_false (by rintro rfl;simp [m_eq] at h))),fun h2=>?_⟩
 refine R_eq (Eq.symm (decide_eq_true ?_))
 simp [m_eq] at h0 h1 h2
 simp [Prod.ext_iff, *]
theorem QBX:Qi Tryz.prog Qi3:=Qm fun x _=>QB0 x.1 x.2.1
def Qc7 (t:Bool):TRes:=zre (zcb t)
def Qis:TRow:=Qg 133 [(.a Qj),(.a Qj)] fun x=>(none,Qc7 (m_eq (α:=Qc) x.1 x.2.1))
def Qms:TTab:=⟨[JD],false⟩
def QDY:TCode :=
 (zsq [(.reg [zop 2 (.box 154 0 2),zop 3 (.box 154 1 2),zmv 4 (zkb false)]),(zsq [(.reg [zfa 5 2 0,zld 6 5 1,zfa 7 3 0,zld 8 7 1,zca 9 23 [6,8],zno 10 9]),(.cond 10 (zsq [(.reg [zmv 4 (zkb false)]),.ret]) .skip)]),(zsq [(.reg [zfa 11 2 1,zld 12 11 1,zfa 13 3 1,zld 14 13 1,zca 15 23 [12,14],zno 16 15]),(.cond 16 (zsq [(.reg [zmv 4 (zkb false)]),.ret]) .skip)]),(.reg [zmv 4 (zkb true)]),.ret])
def Qxh:List (ARv × Md):=[(.t 4,.one .d)]
theorem QCc (a:Qc) (b:Qc) (h :
 (zif (!(m_eq (α:=List Int) a.1 b.1)) (K (Qc7 false)) (zif (!(m_eq (α:=List Int) a.2 b.2)) (K (Qc7 false)) (K (Qc7 true))))):Hold (tawp Qms (0+0) QDY (TQ 0 0 Qxh K) (Qe [(.a [(.c (.sl [TI]) a.1),(.c (.sl [TI]) a.2)]),(.a [(.c (.sl [TI]) b.1),(.c (.sl [TI]) b.2)])])) :=
 Hold.of (by kernel_rfl) h
theorem QFn (a:Qc) (b:Qc):TCon Tryz.prog 133 [(.a [(.c (.sl [TI]) a.1),(.c (.sl [TI]) a.2)]),(.a [(.c (.sl [TI]) b.1),(.c (.sl [TI]) b.2)])] (Qc7 (m_eq (α:=Qc) a b)):=by
 refine Ql rfl fun hb=>tcg (Γ:=Qms) (n:=17) (sg:=Qis.sg) Qk (TOkL.cons Qbh TOkL.nil) (by kernel_rfl) (by kernel_rfl) (QCc _ a b ?_)
 refine ⟨fun h=>R_eq (Eq.symm (decide_eq_false (by rintro rfl;simp [m_eq] at h))),fun h0=>?_⟩
 refine ⟨fun h=>R_eq (Eq.symm (decide_eq_false (by rintro rfl;simp [m_eq] at h))),fun h1=>?_⟩
 refine R_eq (Eq.symm (decide_eq_true ?_))
 simp [m_eq] at h0 h1
 simp [Prod.ext_iff, *]
theorem Qy4:Qi Tryz.prog Qis:=Qm fun x _=>QFn x.1 x.2.1
def QaB (t:Bool):TRes:=zre (zcb t)
def QdU:TRow:=Qg 40 [(.c (.sl Qj)),(.c (.sl Qj))] fun x=>(none,QaB (m_eq (α:=List Qc) x.1 x.2.1))
def Qe3:TTab:=⟨[Qis],false⟩
def Qqp:TCode :=
 (zsq [(zsq [(.reg [zmv 11 5,zmv 12 0,zle 13 12,zbi 14 .lss 11 13]),(.cond 14 .skip (.exit 0))]),(.block 1 (zsq [(.draw [zmv 17 0,zmv 18 5,zia 19 17 18 Qj,zLd 20 19 2,zmv 21 1,zmv 22 5,zia 23 21 22 Qj,zLd 24 23 2,zca 25 133 [20,24],zno 26 25] []),(.cond 26 (zsq [(.reg [zmv 4 (zkb false)]),.ret]) .skip)])),(.reg [zmv 15 5,zbi 16 .add 15 (zki 1),zmv 5 16])])
def Qmn:List (Nat × Md):=zdl [0,1,5]
def Qs5:TCode :=
 (zsq [(.reg [zmv 4 (zkb true)]),.ret])
def QC6:TCode :=
 (zsq [(.reg [zmv 4 (zkb false)]),(zsq [(.reg [zmv 6 0,zle 7 6,zmv 8 1,zle 9 8,zbi 10 .neq 7 9]),(.cond 10 (zsq [(.reg [zmv 4 (zkb false)]),.ret]) .skip)]),(zsq [(.reg [zmv 5 (zki 0)]),(.block 0 (.loop Qmn Qqp))]),Qs5])
def QnU:List (ARv × Md):=[(.t 4,.one .d)]
def QqP:Qb:=TQ 0 0 QnU K
def QA8:Qb:=Qseq (tawp Qe3 0 Qs5 (QqP K)) (QqP K)
def QEI:Qb:=Qblk 0 (QA8 K)
def QhJ (a:List Qc) (b:List Qc) (i:Int):Prop:=Loop Qe3 0 Qmn Qqp (QEI K) ⟨[(0,(zcs Qj a)),(1,(zcs Qj b)),(5,(zci i))],[],0⟩
theorem QyA (a:List Qc) (b:List Qc) (i:Int) (h :
 (zif (decide (i<(a.length:Int))) ((((0:Int)≤i∧Int.toNat i<a.length)∧((0:Int)≤i∧Int.toNat i<b.length))∧(zif (!(m_eq (α:=Qc) (gtd QC a (Int.toNat i)) (gtd QC b (Int.toNat i)))) (K (QaB false)) (QhJ K a b (w64 (i+(1:Int)))))) (K (QaB true)))):QhJ K a b i :=
 Loop.of (by kernel_rfl) h
theorem QCm (a:List Qc) (b:List Qc) (h :
 (zif ((a.length:Int) != (b.length:Int)) (K (QaB false)) (QhJ K a b 0))):Hold (tawp Qe3 (0+0) QC6 (TQ 0 0 QnU K) (Qe [(.c (.sl Qj) a),(.c (.sl Qj) b)])) :=
 Hold.of (by kernel_rfl) h
theorem QxD (a:List Qc) (b:List Qc):TCon Tryz.prog 40 [(.c (.sl Qj) a),(.c (.sl Qj) b)] (QaB (m_eq (α:=List Qc) a b)):=by
 refine Ql rfl fun hb=>tcg (Γ:=Qe3) (n:=27) (sg:=QdU.sg) Qk (TOkL.cons Qy4 TOkL.nil) (by kernel_rfl) (by kernel_rfl) (QCm _ a b ?_)
 exact YI QC (E:=m_eq) (fun _ _=>rfl) hb.1.1 (fun i h=>QyA _ a b i h) (Q:=fun x=>QaB x=QaB (m_eq (α:=List Qc) a b)) rfl
theorem Qml:Qi Tryz.prog QdU:=Qm fun x _=>QxD x.1 x.2.1
end
end Go.Proofs.YtdplaepmjogjjaaGreat.Am

