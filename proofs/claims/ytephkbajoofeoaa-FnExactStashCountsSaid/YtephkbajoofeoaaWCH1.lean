/- -/
import Derived.Test.YtephkbajoofeoaaWCGF
namespace Go.Proofs.Ytephkbajoofeoaa.Am
open Go Go.RowKit Go.Proofs.Ytephkbajoofeoaa
set_option linter.all false
noncomputable section
variable (K:TRes→Prop)
def JI (t:Int):TRes:=zre (zci t)
def YS:TRow:=Qm 124 [(.c (.sl [TI])),(.c TI)] fun x=>(some (p_sz (α:=List Int) x.1 x.2.1),JI (m_sz (α:=List Int) x.1 x.2.1))
def Qhz:TTab:=⟨[],false⟩
def Qo2:TCode :=
 (zsq [(.reg [zmv 4 (zki 0)]),(.reg [zmv 5 1,zmv 6 0,zle 7 6,zbi 8 .sub 5 7,zmv 1 8]),(zsq [(.reg [zmv 9 1,zbi 10 .lss 9 (zki 0)]),(.cond 10 (zsq [(.reg [zmv 4 (zki (-1))]),.ret]) .skip)]),(.reg [zmv 11 1,zmv 4 11]),.ret])
def Qt8:List (ARv × Md):=[(.t 4,.one .d)]
theorem Qpf (a:List Int) (left:Int) (h :
 (zif (decide ((w64 (left-(a.length:Int)))<(0:Int))) (K (JI (-1:Int))) (K (JI (w64 (left-(a.length:Int))))))):Hold (tawp Qhz (0+0) Qo2 (TQ 0 0 Qt8 K) (Ql [(.c (.sl [TI]) a),(.c TI left)])) :=
 Hold.of (by kernel_rfl) h
theorem Qor (a:List Int) (left:Int) (hp:p_sz (α:=List Int) a left):TCon Try.prog 124 [(.c (.sl [TI]) a),(.c TI left)] (JI (m_sz (α:=List Int) a left)):=by
 refine Qq rfl fun hb=>tcg (Γ:=Qhz) (n:=12) (sg:=YS.sg) Qp TOkL.nil (by kernel_rfl) (by kernel_rfl) (Qpf _ a left ?_)
 exact QmH (Q:=fun x=>JI x=JI (m_sz (α:=List Int) a left)) (fun _=>rfl) hp hb.1.1 rfl
theorem QaH:Qo Try.prog YS:=Qr fun x h=>Qor x.1 x.2.1 h
def Qbi (t:Int):TRes:=zre (zci t)
def QdF:TRow:=Qm 217 [(.a [(.sl [TI])]),(.c TI)] fun x=>(some (p_sz (α:=List Int) x.1 x.2.1),Qbi (m_sz (α:=List Int) x.1 x.2.1))
def Qmm:TTab:=⟨[YS],false⟩
def Qm9:TCode :=
 (zsq [(.reg [zop 2 (.box 248 0 1),zmv 4 (zki 0)]),(.reg [zfa 5 2 0,zld 6 5 1,zmv 7 1,zca 8 124 [6,7],zmv 1 8]),(zsq [(.reg [zmv 9 1,zbi 10 .lss 9 (zki 0)]),(.cond 10 (zsq [(.reg [zmv 4 (zki (-1))]),.ret]) .skip)]),(.reg [zmv 11 1,zmv 4 11]),.ret])
def Quz:List (ARv × Md):=[(.t 4,.one .d)]
theorem Qok (a:List Int) (left:Int) (h :
 ((p_sz (α:=List Int) a left)∧(zif (decide ((m_sz (α:=List Int) a left)<(0:Int))) (K (Qbi (-1:Int))) (K (Qbi (m_sz (α:=List Int) a left)))))):Hold (tawp Qmm (0+0) Qm9 (TQ 0 0 Quz K) (Ql [(.a [(.c (.sl [TI]) a)]),(.c TI left)])) :=
 Hold.of (by kernel_rfl) h
theorem QvD (a:List Int) (left:Int) (hp:p_sz (α:=List Int) a left):TCon Try.prog 217 [(.a [(.c (.sl [TI]) a)]),(.c TI left)] (Qbi (m_sz (α:=List Int) a left)):=by
 refine Qq rfl fun hb=>tcg (Γ:=Qmm) (n:=12) (sg:=QdF.sg) Qp (TOkL.cons QaH TOkL.nil) (by kernel_rfl) (by kernel_rfl) (Qok _ a left ?_)
 refine ⟨hp,fun h=>R_eq (QT (of_decide_eq_true h) (by first | omega | (simp only [Qx,Qy,QC];omega)) hp.1),fun h=>?_⟩
 exact R_eq (congrArg (QX · _) (by first | rfl | omega | (simp only [Qx,Qy,QC];omega)))
theorem QrB:Qo Try.prog QdF:=Qr fun x h=>QvD x.1 x.2.1 h
def Ju (t:Int):TRes:=zre (zci t)
def QaM:TRow:=Qm 209 [(.c (.sl [(.sl [TI])])),(.c TI)] fun x=>(some (p_sz (α:=List (List Int)) x.1 x.2.1),Ju (m_sz (α:=List (List Int)) x.1 x.2.1))
def QcQ:TTab:=⟨[QdF],false⟩
def Qgd:TCode :=
 (zsq [(zsq [(.reg [zmv 12 5,zmv 13 0,zle 14 13,zbi 15 .lss 12 14]),(.cond 15 .skip (.exit 0))]),(.block 1 (zsq [(.reg [zmv 18 0,zmv 19 5,zia 20 18 19 [(.sl [TI])],zLd 21 20 1,zmv 22 1,zca 23 217 [21,22],zmv 1 23]),(.reg [zmv 24 1,zbi 25 .lss 24 (zki 0)]),(.cond 25 (zsq [(.reg [zmv 4 (zki (-1))]),.ret]) .skip)])),(.reg [zmv 16 5,zbi 17 .add 16 (zki 1),zmv 5 17])])
def Qkg:List (Nat × Md):=zdl [0,1,5]
def QhC:TCode :=
 (zsq [(.reg [zmv 26 1,zmv 4 26]),.ret])
def Qqk:TCode :=
 (zsq [(.reg [zmv 4 (zki 0)]),(.reg [zmv 6 1,zmv 7 0,zle 8 7,zbi 9 .sub 6 8,zmv 1 9]),(zsq [(.reg [zmv 10 1,zbi 11 .lss 10 (zki 0)]),(.cond 11 (zsq [(.reg [zmv 4 (zki (-1))]),.ret]) .skip)]),(zsq [(.reg [zmv 5 (zki 0)]),(.block 0 (.loop Qkg Qgd))]),QhC])
def QhP:List (ARv × Md):=[(.t 4,.one .d)]
def Qi3:Qb:=TQ 0 0 QhP K
def QrG:Qb:=Qseq (tawp QcQ 0 QhC (Qi3 K)) (Qi3 K)
def Qt3:Qb:=Qblk 0 (QrG K)
def Qd1 (a:List (List Int)) (left1:Int) (i:Int):Prop:=Loop QcQ 0 Qkg Qgd (Qt3 K) ⟨[(0,(zcs [(.sl [TI])] a)),(1,(zci left1)),(5,(zci i))],[],0⟩
theorem QqM (a:List (List Int)) (left1:Int) (i:Int) (h :
 (zif (decide (i<(a.length:Int))) ((((0:Int)≤i∧Int.toNat i<a.length)∧(p_sz (α:=List Int) (gtd ([]:List Int) a (Int.toNat i)) left1))∧(zif (decide ((m_sz (α:=List Int) (gtd ([]:List Int) a (Int.toNat i)) left1)<(0:Int))) (K (Ju (-1:Int))) (Qd1 K a (m_sz (α:=List Int) (gtd ([]:List Int) a (Int.toNat i)) left1) (w64 (i+(1:Int)))))) (K (Ju left1)))):Qd1 K a left1 i :=
 Loop.of (by kernel_rfl) h
theorem QrZ (a:List (List Int)) (left:Int) (h :
 (zif (decide ((w64 (left-(a.length:Int)))<(0:Int))) (K (Ju (-1:Int))) (Qd1 K a (w64 (left-(a.length:Int))) 0))):Hold (tawp QcQ (0+0) Qqk (TQ 0 0 QhP K) (Ql [(.c (.sl [(.sl [TI])]) a),(.c TI left)])) :=
 Hold.of (by kernel_rfl) h
theorem Qp2 (a:List (List Int)) (left:Int) (hp:p_sz (α:=List (List Int)) a left):TCon Try.prog 209 [(.c (.sl [(.sl [TI])]) a),(.c TI left)] (Ju (m_sz (α:=List (List Int)) a left)):=by
 refine Qq rfl fun hb=>tcg (Γ:=QcQ) (n:=27) (sg:=QaM.sg) Qp (TOkL.cons QrB TOkL.nil) (by kernel_rfl) (by kernel_rfl) (QrZ _ a left ?_)
 exact Y3 (Q:=fun x=>Ju x=Ju (m_sz (α:=List (List Int)) a left)) ([]:List Int) hp hb.1.1 (fun l i h=>QqM _ a l i h) rfl
theorem Qey:Qo Try.prog QaM:=Qr fun x h=>Qp2 x.1 x.2.1 h
def QbA (t:Int):TRes:=zre (zci t)
def QfM:TRow:=Qm 210 [(.a Zc),(.c TI)] fun x=>(some (p_sz (α:=QI) x.1 x.2.1),QbA (m_sz (α:=QI) x.1 x.2.1))
def Qjg:TTab:=⟨[QaM],false⟩
def Qwc:TCode :=
 (zsq [(.reg [zop 2 (.box 227 0 3),zmv 4 (zki 0)]),(.reg [zfa 5 2 0,zld 6 5 1,zmv 7 1,zca 8 209 [6,7],zmv 1 8]),(zsq [(.reg [zmv 9 1,zbi 10 .lss 9 (zki 0)]),(.cond 10 (zsq [(.reg [zmv 4 (zki (-1))]),.ret]) .skip)]),(.reg [zmv 11 1,zmv 4 11]),.ret])
def Qq2:List (ARv × Md):=[(.t 4,.one .d)]
theorem Qw6 (a:QI) (left:Int) (h :
 ((p_sz (α:=List (List Int)) a.1 left)∧(zif (decide ((m_sz (α:=List (List Int)) a.1 left)<(0:Int))) (K (QbA (-1:Int))) (K (QbA (m_sz (α:=List (List Int)) a.1 left)))))):Hold (tawp Qjg (0+0) Qwc (TQ 0 0 Qq2 K) (Ql [(.a (Tup.cells Zc a)),(.c TI left)])) :=
 Hold.of (by kernel_rfl) h
theorem Qvu (a:QI) (left:Int) (hp:p_sz (α:=QI) a left):TCon Try.prog 210 [(.a (Tup.cells Zc a)),(.c TI left)] (QbA (m_sz (α:=QI) a left)):=by
 refine Qq rfl fun hb=>tcg (Γ:=Qjg) (n:=12) (sg:=QfM.sg) Qp (TOkL.cons Qey TOkL.nil) (by kernel_rfl) (by kernel_rfl) (Qw6 _ a left ?_)
 refine ⟨hp,fun h=>R_eq (QT (of_decide_eq_true h) (by first | omega | (simp only [Qx,Qy,QC];omega)) hp.1),fun h=>?_⟩
 exact R_eq (congrArg (QX · _) (by first | rfl | omega | (simp only [Qx,Qy,QC];omega)))
theorem QnZ:Qo Try.prog QfM:=Qr fun x h=>Qvu x.1 x.2.1 h
def Qap (t:Int):TRes:=zre (zci t)
def Qfd:TRow:=Qm 197 [(.a Qw),(.c TI)] fun x=>(some (p_sz (α:=Qd) x.1 x.2.1),Qap (m_sz (α:=Qd) x.1 x.2.1))
def Qku:TTab:=⟨[YS],false⟩
def Qpi:TCode :=
 (zsq [(.reg [zop 2 (.box 222 0 2),zmv 4 (zki 0)]),(.reg [zfa 5 2 0,zld 6 5 1,zmv 7 1,zca 8 124 [6,7],zmv 1 8]),(zsq [(.reg [zmv 9 1,zbi 10 .lss 9 (zki 0)]),(.cond 10 (zsq [(.reg [zmv 4 (zki (-1))]),.ret]) .skip)]),(.reg [zfa 11 2 1,zld 12 11 1,zmv 13 1,zca 14 124 [12,13],zmv 1 14]),(zsq [(.reg [zmv 15 1,zbi 16 .lss 15 (zki 0)]),(.cond 16 (zsq [(.reg [zmv 4 (zki (-1))]),.ret]) .skip)]),(.reg [zmv 17 1,zmv 4 17]),.ret])
def Qvl:List (ARv × Md):=[(.t 4,.one .d)]
theorem Qrs (a:Qd) (left:Int) (h :
 ((p_sz (α:=List Int) a.1 left)∧(zif (decide ((m_sz (α:=List Int) a.1 left)<(0:Int))) (K (Qap (-1:Int))) ((p_sz (α:=List Int) a.2 (m_sz (α:=List Int) a.1 left))∧(zif (decide ((m_sz (α:=List Int) a.2 (m_sz (α:=List Int) a.1 left))<(0:Int))) (K (Qap (-1:Int))) (K (Qap (m_sz (α:=List Int) a.2 (m_sz (α:=List Int) a.1 left))))))))):Hold (tawp Qku (0+0) Qpi (TQ 0 0 Qvl K) (Ql [(.a [(.c (.sl [TI]) a.1),(.c (.sl [TI]) a.2)]),(.c TI left)])) :=
 Hold.of (by kernel_rfl) h
theorem Qv9 (a:Qd) (left:Int) (hp:p_sz (α:=Qd) a left):TCon Try.prog 197 [(.a [(.c (.sl [TI]) a.1),(.c (.sl [TI]) a.2)]),(.c TI left)] (Qap (m_sz (α:=Qd) a left)):=by
 refine Qq rfl fun hb=>tcg (Γ:=Qku) (n:=18) (sg:=Qfd.sg) Qp (TOkL.cons QaH TOkL.nil) (by kernel_rfl) (by kernel_rfl) (Qrs _ a left ?_)
 refine ⟨hp,fun h=>R_eq (QT (of_decide_eq_true h) (by first | omega | (simp only [Qx,Qy,QC];omega)) hp.1),fun h=>?_⟩
 rw [Zz (Int.not_lt.1 (of_decide_eq_false h))]
 refine ⟨Zs hp,fun h=>R_eq (QT (of_decide_eq_true h) (by first | omega | (simp only [Qx,Qy,QC];omega)) hp.1),fun h=>?_⟩
 exact R_eq (congrArg (QX · _) (by first | rfl | omega | (simp only [Qx,Qy,QC];omega)))
theorem Qrd:Qo Try.prog Qfd:=Qr fun x h=>Qv9 x.1 x.2.1 h
def Jm (t:Int):TRes:=zre (zci t)
def QdZ:TRow:=Qm 165 [(.c (.sl Qw)),(.c TI)] fun x=>(some (p_sz (α:=List Qd) x.1 x.2.1),Jm (m_sz (α:=List Qd) x.1 x.2.1))
def Qcv:TTab:=⟨[Qfd],false⟩
def Qk9:TCode :=
 (zsq [(zsq [(.reg [zmv 12 5,zmv 13 0,zle 14 13,zbi 15 .lss 12 14]),(.cond 15 .skip (.exit 0))]),(.block 1 (zsq [(.reg [zmv 18 0,zmv 19 5,zia 20 18 19 Qw,zLd 21 20 2,zmv 22 1,zca 23 197 [21,22],zmv 1 23]),(.reg [zmv 24 1,zbi 25 .lss 24 (zki 0)]),(.cond 25 (zsq [(.reg [zmv 4 (zki (-1))]),.ret]) .skip)])),(.reg [zmv 16 5,zbi 17 .add 16 (zki 1),zmv 5 17])])
def QhR:List (Nat × Md):=zdl [0,1,5]
def Qm5:TCode :=
 (zsq [(.reg [zmv 26 1,zmv 4 26]),.ret])
def Qv3:TCode :=
 (zsq [(.reg [zmv 4 (zki 0)]),(.reg [zmv 6 1,zmv 7 0,zle 8 7,zbi 9 .sub 6 8,zmv 1 9]),(zsq [(.reg [zmv 10 1,zbi 11 .lss 10 (zki 0)]),(.cond 11 (zsq [(.reg [zmv 4 (zki (-1))]),.ret]) .skip)]),(zsq [(.reg [zmv 5 (zki 0)]),(.block 0 (.loop QhR Qk9))]),Qm5])
def Qic:List (ARv × Md):=[(.t 4,.one .d)]
def Qlm:Qb:=TQ 0 0 Qic K
def Qoc:Qb:=Qseq (tawp Qcv 0 Qm5 (Qlm K)) (Qlm K)
def QoX:Qb:=Qblk 0 (Qoc K)
def QfK (a:List Qd) (left1:Int) (i:Int):Prop:=Loop Qcv 0 QhR Qk9 (QoX K) ⟨[(0,(zcs Qw a)),(1,(zci left1)),(5,(zci i))],[],0⟩
theorem Qnp (a:List Qd) (left1:Int) (i:Int) (h :
 (zif (decide (i<(a.length:Int))) ((((0:Int)≤i∧Int.toNat i<a.length)∧(p_sz (α:=Qd) (gtd Q0 a (Int.toNat i)) left1))∧(zif (decide ((m_sz (α:=Qd) (gtd Q0 a (Int.toNat i)) left1)<(0:Int))) (K (Jm (-1:Int))) (QfK K a (m_sz (α:=Qd) (gtd Q0 a (Int.toNat i)) left1) (w64 (i+(1:Int)))))) (K (Jm left1)))):QfK K a left1 i :=
 Loop.of (by kernel_rfl) h
theorem QnP (a:List Qd) (left:Int) (h :
 (zif (decide ((w64 (left-(a.length:Int)))<(0:Int))) (K (Jm (-1:Int))) (QfK K a (w64 (left-(a.length:Int))) 0))):Hold (tawp Qcv (0+0) Qv3 (TQ 0 0 Qic K) (Ql [(.c (.sl Qw) a),(.c TI left)])) :=
 Hold.of (by kernel_rfl) h
theorem Qu0 (a:List Qd) (left:Int) (hp:p_sz (α:=List Qd) a left):TCon Try.prog 165 [(.c (.sl Qw) a),(.c TI left)] (Jm (m_sz (α:=List Qd) a left)):=by
 refine Qq rfl fun hb=>tcg (Γ:=Qcv) (n:=27) (sg:=QdZ.sg) Qp (TOkL.cons Qrd TOkL.nil) (by kernel_rfl) (by kernel_rfl) (QnP _ a left ?_)
 exact Y3 (Q:=fun x=>Jm x=Jm (m_sz (α:=List Qd) a left)) Q0 hp hb.1.1 (fun l i h=>Qnp _ a l i h) rfl
theorem QnQ:Qo Try.prog QdZ:=Qr fun x h=>Qu0 x.1 x.2.1 h
def YQ (t:(List Int)):TRes:=⟨(.r [TI] 0 0 t.length),[(.sl 3 [TI] (.dp 0 true []) t)],[],false,[]⟩
def Jv:TRow:=Qm 127 [(.c (.sl [TI]))] fun x=>(some (p_to (α:=List Int) x.1),YQ (id (α:=List Int) x.1))
def Qbw:TTab:=⟨[],true⟩
def QjR:TCode :=
 (zsq [(zsq [(.reg [zmv 8 4,zmv 9 0,zle 10 9,zbi 11 .lss 8 10]),(.cond 11 .skip (.exit 0))]),(.block 1 (.reg [zmv 14 3,zmv 15 4,zmv 16 0,zmv 17 4,zia 18 16 17 [TI],zld 19 18 1,zia 20 14 15 [TI],zst 20 19 1])),(.reg [zmv 12 4,zbi 13 .add 12 (zki 1),zmv 4 13])])
def Qg2:List (Nat × Md):=[(0,.one .d),(3,.one .f),(4,.one .d)]
def Qif:TCode :=
 (zsq [(.reg [zmv 21 3,zmv 2 21]),.ret])
def Qrl:TCode :=
 (zsq [(.reg [zmv 2 (.k (.n [TI]))]),(.reg [zmv 5 0,zle 6 5,zop 7 (.mk 3 [TI] [(zci 0)] 6),zmv 3 7]),(zsq [(.reg [zmv 4 (zki 0)]),(.block 0 (.loop Qg2 QjR))]),Qif])
def QiQ:List (ARv × Md):=[(.t 2,.one (.p 3))]
def Qij:Qb:=TQ 0 0 QiQ K
def QwQ:Qb:=Qseq (tawp Qbw 0 Qif (Qij K)) (Qij K)
def Qs4:Qb:=Qblk 0 (QwQ K)
def Qbu (a:List Int) (i:Int) (out:List Int):Prop:=Loop Qbw 0 Qg2 QjR (Qs4 K) ⟨[(0,(zcs [TI] a)),(3,(.r [TI] 0 0 out.length)),(4,(zci i))],[(0,(.sl 3 [TI] (.dp 0 true []) out))],1⟩
theorem Qkd (a:List Int) (i:Int) (out:List Int) (h :
 (zif (decide (i<(a.length:Int))) ((((0:Int)≤i∧Int.toNat i<a.length)∧(((0:Int)≤i∧Int.toNat i<out.length)∧((0+(Int.toNat i))<out.length)))∧(Qbu K a (w64 (i+(1:Int))) (List.take out.length ((out).set (0+(Int.toNat i)) (gtd (0:Int) a (Int.toNat i)))))) (K (YQ (List.take out.length out))))):Qbu K a i out :=
 Loop.of (by kernel_rfl) h
theorem QqL (a:List Int) (h :
 (((0:Int)≤(a.length:Int)∧(a.length:Int)≤big)∧(Qbu K a 0 (List.take (Int.toNat (a.length:Int)) (List.replicate (Int.toNat (a.length:Int)) (0:Int)))))):Hold (tawp Qbw (0+0) Qrl (TQ 0 0 QiQ K) (Ql [(.c (.sl [TI]) a)])) :=
 Hold.of (by kernel_rfl) h
theorem QqN (a:List Int) (hp:p_to (α:=List Int) a):TCon Try.prog 127 [(.c (.sl [TI]) a)] (YQ (id (α:=List Int) a)):=by
 refine Qq rfl fun hb=>tcg (Γ:=Qbw) (n:=22) (sg:=Jv.sg) Qp TOkL.nil (by kernel_rfl) (by kernel_rfl) (QqL _ a ?_)
 refine ⟨⟨by omega,by rw [bigI];have:=Q3 hp;omega⟩,?_⟩
 refine Yh a (A:=fun ii ll=>Qbu (fun r'=>r'=YQ (id (α:=List Int) a)) a ii ll) (Q:=fun z=>YQ z=YQ (id (α:=List Int) a)) hp ?_ ?_ rfl
 ·intro k x out hlt hg ho hx hA
  have hw:w64 (((k:Nat):Int)+1)=((k+1:Nat):Int):=by have:=Q3 hp;rw [QO (by omega) (by omega)];omega
  have hlo:k<out.length:=by omega
  refine Qkd (fun r'=>r'=YQ (id (α:=List Int) a)) a ((k:Nat):Int) out ?_
  refine ⟨fun _=>?_,fun h=>absurd h (by simp;omega)⟩
  simp only [Int.toNat_natCast,Nat.zero_add,hg,hw,hlt,hlo,Z2,List.drop_zero,List.take_length,id_eq,and_true,true_and,Int.natCast_nonneg]
  first | exact hA | exact ⟨hx,hA⟩
 ·intro out ho hq
  refine Qkd (fun r'=>r'=YQ (id (α:=List Int) a)) a ((a.length:Nat):Int) out ?_
  refine ⟨fun h=>absurd h (by simp),fun _=>?_⟩
  simp only [List.drop_zero,List.take_length]
  exact hq
theorem Qay:Qo Try.prog Jv:=Qr fun x h=>QqN x.1 h
def QdB (t:(List Int)):TRes:=⟨(.a [(.r [TI] 0 0 t.length)]),[(.sl 3 [TI] (.dp 0 true []) t)],[],false,[]⟩
def Qfw:TRow:=Qm 219 [(.a [(.sl [TI])])] fun x=>(some (p_to (α:=List Int) x.1),QdB (id (α:=List Int) x.1))
def Qii:TTab:=⟨[Jv],true⟩
def QwL:TCode :=
 (zsq [(.reg [zop 1 (.box 248 0 1),zop 2 (.new 91 [(.n [TI])])]),(.reg [zop 3 (.new 91 [(.n [TI])])]),(.reg [zfa 4 1 0,zld 5 4 1,zca 6 127 [5],zfa 7 3 0,zst 7 6 1]),(.reg [zLd 8 3 1,zst 2 8 1]),.ret])
def QrX:List (ARv × Md):=[(.l 2 1 true,.b [.p 3])]
theorem Qpa (a:List Int) (h :
 ((p_to (α:=List Int) a)∧K (QdB (List.take ((id (α:=List Int) a).length) (id (α:=List Int) a))))):Hold (tawp Qii (0+0) QwL (TQ 0 0 QrX K) (Ql [(.a [(.c (.sl [TI]) a)])])) :=
 Hold.of (by kernel_rfl) h
theorem QoP (a:List Int) (hp:p_to (α:=List Int) a):TCon Try.prog 219 [(.a [(.c (.sl [TI]) a)])] (QdB (id (α:=List Int) a)):=by
 refine Qq rfl fun hb=>tcg (Γ:=Qii) (n:=9) (sg:=Qfw.sg) Qp (TOkL.cons Qay TOkL.nil) (by kernel_rfl) (by kernel_rfl) (Qpa _ a ?_)
 repeat' (first | refine And.intro ?_ ?_ | exact R_eq (by simp))
 all_goals (simp only [p_to,Qx,Qy,QC,List.drop_zero,List.take_length,id_eq] at hp ⊢;omega)
theorem Qnl:Qo Try.prog Qfw:=Qr fun x h=>QoP x.1 h
def Yl (t:(List (List Int))):TRes:=⟨(.r [(.sl [TI])] 0 0 t.length),[(.sl 91 [(.sl [TI])] (.dp 0 true []) t)],[],false,[]⟩
def Qas:TRow:=Qm 212 [(.c (.sl [(.sl [TI])]))] fun x=>(some (p_to (α:=List (List Int)) x.1),Yl (id (α:=List (List Int)) x.1))
def QbU:TTab:=⟨[Qfw],true⟩
def Qle:TCode :=
 (zsq [(zsq [(.reg [zmv 8 4,zmv 9 0,zle 10 9,zbi 11 .lss 8 10]),(.cond 11 .skip (.exit 0))]),(.block 1 (.reg [zmv 14 3,zmv 15 4,zmv 16 0,zmv 17 4,zia 18 16 17 [(.sl [TI])],zLd 19 18 1,zca 20 219 [19],zia 21 14 15 [(.sl [TI])],zst 21 20 1])),(.reg [zmv 12 4,zbi 13 .add 12 (zki 1),zmv 4 13])])
def Qgg:List (Nat × Md):=[(0,.one .d),(3,.one .f),(4,.one .d)]
def Qjl:TCode :=
 (zsq [(.reg [zmv 22 3,zmv 2 22]),.ret])
def QwN:TCode :=
 (zsq [(.reg [zmv 2 (.k (.n [(.sl [TI])]))]),(.reg [zmv 5 0,zle 6 5,zop 7 (.mk 91 [(.sl [TI])] [(.n [TI])] 6),zmv 3 7]),(zsq [(.reg [zmv 4 (zki 0)]),(.block 0 (.loop Qgg Qle))]),Qjl])
def QmK:List (ARv × Md):=[(.t 2,.one (.p 91))]
def Qkb:Qb:=TQ 0 0 QmK K
def Qsc:Qb:=Qseq (tawp QbU 0 Qjl (Qkb K)) (Qkb K)
def Qsn:Qb:=Qblk 0 (Qsc K)
def QbC (a:List (List Int)) (i:Int) (out:List (List Int)):Prop:=Loop QbU 0 Qgg Qle (Qsn K) ⟨[(0,(zcs [(.sl [TI])] a)),(3,(.r [(.sl [TI])] 0 0 out.length)),(4,(zci i))],[(0,(.sl 91 [(.sl [TI])] (.dp 0 true []) out))],1⟩
theorem Qho (a:List (List Int)) (i:Int) (out:List (List Int)) (h :
 (zif (decide (i<(a.length:Int))) ((((0:Int)≤i∧Int.toNat i<a.length)∧((p_to (α:=List Int) (gtd ([]:List Int) a (Int.toNat i)))∧(((0:Int)≤i∧Int.toNat i<out.length)∧((0+(Int.toNat i))<out.length))))∧(QbC K a (w64 (i+(1:Int))) (List.take out.length ((out).set (0+(Int.toNat i)) (List.take ((id (α:=List Int) (gtd ([]:List Int) a (Int.toNat i))).length) (List.drop 0 (id (α:=List Int) (gtd ([]:List Int) a (Int.toNat i))))))))) (K (Yl (List.take out.length out))))):QbC K a i out :=
 Loop.of (by kernel_rfl) h
theorem Qv6 (a:List (List Int)) (h :
 (((0:Int)≤(a.length:Int)∧(a.length:Int)≤big)∧(QbC K a 0 (List.take (Int.toNat (a.length:Int)) (List.replicate (Int.toNat (a.length:Int)) ([]:List Int)))))):Hold (tawp QbU (0+0) QwN (TQ 0 0 QmK K) (Ql [(.c (.sl [(.sl [TI])]) a)])) :=
 Hold.of (by kernel_rfl) h
theorem QpX (a:List (List Int)) (hp:p_to (α:=List (List Int)) a):TCon Try.prog 212 [(.c (.sl [(.sl [TI])]) a)] (Yl (id (α:=List (List Int)) a)):=by
 refine Qq rfl fun hb=>tcg (Γ:=QbU) (n:=23) (sg:=Qas.sg) Qp (TOkL.cons Qnl TOkL.nil) (by kernel_rfl) (by kernel_rfl) (Qv6 _ a ?_)
 refine ⟨⟨by omega,by rw [bigI];have:=Q3 hp;omega⟩,?_⟩
 refine Yh a (A:=fun ii ll=>QbC (fun r'=>r'=Yl (id (α:=List (List Int)) a)) a ii ll) (Q:=fun z=>Yl z=Yl (id (α:=List (List Int)) a)) hp ?_ ?_ rfl
 ·intro k x out hlt hg ho hx hA
  have hw:w64 (((k:Nat):Int)+1)=((k+1:Nat):Int):=by have:=Q3 hp;rw [QO (by omega) (by omega)];omega
  have hlo:k<out.length:=by omega
  refine Qho (fun r'=>r'=Yl (id (α:=List (List Int)) a)) a ((k:Nat):Int) out ?_
  refine ⟨fun _=>?_,fun h=>absurd h (by simp;omega)⟩
  simp only [Int.toNat_natCast,Nat.zero_add,hg,hw,hlt,hlo,Z2,List.drop_zero,List.take_length,id_eq,and_true,true_and,Int.natCast_nonneg]
  first | exact hA | exact ⟨hx,hA⟩
 ·intro out ho hq
  refine Qho (fun r'=>r'=Yl (id (α:=List (List Int)) a)) a ((a.length:Nat):Int) out ?_
  refine ⟨fun h=>absurd h (by simp),fun _=>?_⟩
  simp only [List.drop_zero,List.take_length]
  exact hq
theorem QeK:Qo Try.prog Qas:=Qr fun x h=>QpX x.1 h
def Qem (t:QI):TRes:=⟨(.a [(.r [(.sl [TI])] 0 0 ((t.1).length)),(zci t.2.1),(zcb t.2.2)]),[(.sl 91 [(.sl [TI])] (.dp 0 true []) t.1)],[],false,[]⟩
def QfO:TRow:=Qm 213 [(.a Zc)] fun x=>(some (p_to (α:=QI) x.1),Qem (id (α:=QI) x.1))
def QhN:TTab:=⟨[Qas],true⟩
def QqB:TCode :=
 (zsq [(.reg [zop 1 (.box 227 0 3),zop 2 (.new 119 (z0s Zc))]),(.reg [zop 3 (.new 119 (z0s Zc))]),(.reg [zfa 4 1 0,zld 5 4 1,zca 6 212 [5],zfa 7 3 0,zst 7 6 1]),(.reg [zfa 8 1 1,zld 9 8 1,zfa 10 3 1,zst 10 9 1]),(.reg [zfa 11 1 2,zld 12 11 1,zfa 13 3 2,zst 13 12 1]),(.reg [zLd 14 3 3,zst 2 14 3]),.ret])
def QuP:List (ARv × Md):=[(.l 2 3 true,.b [.p 91,.d,.d])]
theorem QuE (a:QI) (h :
 ((p_to (α:=List (List Int)) a.1)∧K (Qem ((List.take ((id (α:=List (List Int)) a.1).length) (id (α:=List (List Int)) a.1)),a.2.1,a.2.2)))):Hold (tawp QhN (0+0) QqB (TQ 0 0 QuP K) (Ql [(.a (Tup.cells Zc a))])) :=
 Hold.of (by kernel_rfl) h
theorem Qov (a:QI) (hp:p_to (α:=QI) a):TCon Try.prog 213 [(.a (Tup.cells Zc a))] (Qem (id (α:=QI) a)):=by
 refine Qq rfl fun hb=>tcg (Γ:=QhN) (n:=15) (sg:=QfO.sg) Qp (TOkL.cons QeK TOkL.nil) (by kernel_rfl) (by kernel_rfl) (QuE _ a ?_)
 repeat' (first | refine And.intro ?_ ?_ | exact R_eq (by simp))
 all_goals (simp only [p_to,Qx,Qy,QC,List.drop_zero,List.take_length,id_eq] at hp ⊢;omega)
theorem QwA:Qo Try.prog QfO:=Qr fun x h=>Qov x.1 h
def Qfg (t:Qd):TRes:=⟨(.a [(.r [TI] 0 0 ((t.1).length)),(.r [TI] 1 0 ((t.2).length))]),[(.sl 3 [TI] (.dp 0 true []) t.1),(.sl 3 [TI] (.dp 0 true []) t.2)],[],false,[]⟩
def Qfh:TRow:=Qm 199 [(.a Qw)] fun x=>(some (p_to (α:=Qd) x.1),Qfg (id (α:=Qd) x.1))
def Qgb:TTab:=⟨[Jv],true⟩
def Qof:TCode :=
 (zsq [(.reg [zop 1 (.box 222 0 2),zop 2 (.new 230 (z0s Qw))]),(.reg [zop 3 (.new 230 (z0s Qw))]),(.reg [zfa 4 1 0,zld 5 4 1,zca 6 127 [5],zfa 7 3 0,zst 7 6 1]),(.reg [zfa 8 1 1,zld 9 8 1,zca 10 127 [9],zfa 11 3 1,zst 11 10 1]),(.reg [zLd 12 3 2,zst 2 12 2]),.ret])
def Qqq:List (ARv × Md):=[(.l 2 2 true,.b [.p 3,.p 3])]
theorem Qt7 (a:Qd) (h :
 ((p_to (α:=List Int) a.1)∧((p_to (α:=List Int) a.2)∧K (Qfg ((List.take ((id (α:=List Int) a.1).length) (id (α:=List Int) a.1)),(List.take ((id (α:=List Int) a.2).length) (id (α:=List Int) a.2))))))):Hold (tawp Qgb (0+0) Qof (TQ 0 0 Qqq K) (Ql [(.a [(.c (.sl [TI]) a.1),(.c (.sl [TI]) a.2)])])) :=
 Hold.of (by kernel_rfl) h
theorem Qty (a:Qd) (hp:p_to (α:=Qd) a):TCon Try.prog 199 [(.a [(.c (.sl [TI]) a.1),(.c (.sl [TI]) a.2)])] (Qfg (id (α:=Qd) a)):=by
 refine Qq rfl fun hb=>tcg (Γ:=Qgb) (n:=13) (sg:=Qfh.sg) Qp (TOkL.cons Qay TOkL.nil) (by kernel_rfl) (by kernel_rfl) (Qt7 _ a ?_)
 repeat' (first | refine And.intro ?_ ?_ | exact R_eq (by simp))
 all_goals (simp only [p_to,Qx,Qy,QC,List.drop_zero,List.take_length,id_eq] at hp ⊢;omega)
theorem Qtt:Qo Try.prog Qfh:=Qr fun x h=>Qty x.1 h
def Yv (t:(List Qd)):TRes:=⟨(.r Qw 0 0 t.length),[(.sl 230 Qw (.dp 0 true []) t)],[],false,[]⟩
def Qe6:TRow:=Qm 168 [(.c (.sl Qw))] fun x=>(some (p_to (α:=List Qd) x.1),Yv (id (α:=List Qd) x.1))
def QcE:TTab:=⟨[Qfh],true⟩
def Qiv:TCode :=
 (zsq [(zsq [(.reg [zmv 8 4,zmv 9 0,zle 10 9,zbi 11 .lss 8 10]),(.cond 11 .skip (.exit 0))]),(.block 1 (.reg [zmv 14 3,zmv 15 4,zmv 16 0,zmv 17 4,zia 18 16 17 Qw,zLd 19 18 2,zca 20 199 [19],zia 21 14 15 Qw,zst 21 20 2])),(.reg [zmv 12 4,zbi 13 .add 12 (zki 1),zmv 4 13])])
def Qhd:List (Nat × Md):=[(0,.one .d),(3,.one .f),(4,.one .d)]
def Qmq:TCode :=
 (zsq [(.reg [zmv 22 3,zmv 2 22]),.ret])
def QtO:TCode :=
 (zsq [(.reg [zmv 2 (.k (.n Qw))]),(.reg [zmv 5 0,zle 6 5,zop 7 (.mk 230 Qw (z0s Qw) 6),zmv 3 7]),(zsq [(.reg [zmv 4 (zki 0)]),(.block 0 (.loop Qhd Qiv))]),Qmq])
def QhK:List (ARv × Md):=[(.t 2,.one (.p 230))]
def Qgz:Qb:=TQ 0 0 QhK K
def QqY:Qb:=Qseq (tawp QcE 0 Qmq (Qgz K)) (Qgz K)
def QrP:Qb:=Qblk 0 (QqY K)
def Qb4 (a:List Qd) (i:Int) (out:List Qd):Prop:=Loop QcE 0 Qhd Qiv (QrP K) ⟨[(0,(zcs Qw a)),(3,(.r Qw 0 0 out.length)),(4,(zci i))],[(0,(.sl 230 Qw (.dp 0 true []) out))],1⟩
theorem Qmn (a:List Qd) (i:Int) (out:List Qd) (h :
 (zif (decide (i<(a.length:Int))) ((((0:Int)≤i∧Int.toNat i<a.length)∧((p_to (α:=Qd) (gtd Q0 a (Int.toNat i)))∧(((0:Int)≤i∧Int.toNat i<out.length)∧((0+(Int.toNat i))<out.length))))∧(Qb4 K a (w64 (i+(1:Int))) (List.take out.length ((out).set (0+(Int.toNat i)) ((List.take (((id (α:=Qd) (gtd Q0 a (Int.toNat i))).1).length) (List.drop 0 ((id (α:=Qd) (gtd Q0 a (Int.toNat i))).1))),(List.take (((id (α:=Qd) (gtd Q0 a (Int.toNat i))).2).length) (List.drop 0 ((id (α:=Qd) (gtd Q0 a (Int.toNat i))).2)))))))) (K (Yv (List.take out.length out))))):Qb4 K a i out :=
 Loop.of (by kernel_rfl) h
theorem QpH (a:List Qd) (h :
 (((0:Int)≤(a.length:Int)∧(a.length:Int)≤big)∧(Qb4 K a 0 (List.take (Int.toNat (a.length:Int)) (List.replicate (Int.toNat (a.length:Int)) ([],[])))))):Hold (tawp QcE (0+0) QtO (TQ 0 0 QhK K) (Ql [(.c (.sl Qw) a)])) :=
 Hold.of (by kernel_rfl) h
theorem Qul (a:List Qd) (hp:p_to (α:=List Qd) a):TCon Try.prog 168 [(.c (.sl Qw) a)] (Yv (id (α:=List Qd) a)):=by
 refine Qq rfl fun hb=>tcg (Γ:=QcE) (n:=23) (sg:=Qe6.sg) Qp (TOkL.cons Qtt TOkL.nil) (by kernel_rfl) (by kernel_rfl) (QpH _ a ?_)
 refine ⟨⟨by omega,by rw [bigI];have:=Q3 hp;omega⟩,?_⟩
 refine Yh a (A:=fun ii ll=>Qb4 (fun r'=>r'=Yv (id (α:=List Qd) a)) a ii ll) (Q:=fun z=>Yv z=Yv (id (α:=List Qd) a)) hp ?_ ?_ rfl
 ·intro k x out hlt hg ho hx hA
  have hw:w64 (((k:Nat):Int)+1)=((k+1:Nat):Int):=by have:=Q3 hp;rw [QO (by omega) (by omega)];omega
  have hlo:k<out.length:=by omega
  refine Qmn (fun r'=>r'=Yv (id (α:=List Qd) a)) a ((k:Nat):Int) out ?_
  refine ⟨fun _=>?_,fun h=>absurd h (by simp;omega)⟩
  simp only [Int.toNat_natCast,Nat.zero_add,hg,hw,hlt,hlo,Z2,List.drop_zero,List.take_length,id_eq,and_true,true_and,Int.natCast_nonneg]
  first | exact hA | exact ⟨hx,hA⟩
 ·intro out ho hq
  refine Qmn (fun r'=>r'=Yv (id (α:=List Qd) a)) a ((a.length:Nat):Int) out ?_
  refine ⟨fun h=>absurd h (by simp),fun _=>?_⟩
  simp only [List.drop_zero,List.take_length]
  exact hq
theorem QsS:Qo Try.prog Qe6:=Qr fun x h=>Qul x.1 h
def YX (t:Bool):TRes:=zre (zcb t)
def YM:TRow:=Qm 66 [(.c (.sl [TI])),(.c (.sl [TI]))] fun x=>(none,YX (m_eq (α:=List Int) x.1 x.2.1))
def QcX:TTab:=⟨[],false⟩
def Qi1:TCode :=
 (zsq [(zsq [(.reg [zmv 11 5,zmv 12 0,zle 13 12,zbi 14 .lss 11 13]),(.cond 14 .skip (.exit 0))]),(.block 1 (zsq [(.draw [zmv 17 0,zmv 18 5,zia 19 17 18 [TI],zld 20 19 1,zmv 21 1,zmv 22 5,zia 23 21 22 [TI],zld 24 23 1,zbi 25 .neq 20 24] []),(.cond 25 (zsq [(.reg [zmv 4 (zkb false)]),.ret]) .skip)])),(.reg [zmv 15 5,zbi 16 .add 15 (zki 1),zmv 5 16])])
def Qgp:List (Nat × Md):=zdl [0,1,5]
def Qgt:TCode :=
 (zsq [(.reg [zmv 4 (zkb true)]),.ret])
def Qnh:TCode :=
 (zsq [(.reg [zmv 4 (zkb false)]),(zsq [(.reg [zmv 6 0,zle 7 6,zmv 8 1,zle 9 8,zbi 10 .neq 7 9]),(.cond 10 (zsq [(.reg [zmv 4 (zkb false)]),.ret]) .skip)]),(zsq [(.reg [zmv 5 (zki 0)]),(.block 0 (.loop Qgp Qi1))]),Qgt])
def Qg0:List (ARv × Md):=[(.t 4,.one .d)]
def Qhb:Qb:=TQ 0 0 Qg0 K
def QvA:Qb:=Qseq (tawp QcX 0 Qgt (Qhb K)) (Qhb K)
def Qoe:Qb:=Qblk 0 (QvA K)
def Qer (a:List Int) (b:List Int) (i:Int):Prop:=Loop QcX 0 Qgp Qi1 (Qoe K) ⟨[(0,(zcs [TI] a)),(1,(zcs [TI] b)),(5,(zci i))],[],0⟩
theorem QvH (a:List Int) (b:List Int) (i:Int) (h :
 (zif (decide (i<(a.length:Int))) ((((0:Int)≤i∧Int.toNat i<a.length)∧((0:Int)≤i∧Int.toNat i<b.length))∧(zif ((gtd (0:Int) a (Int.toNat i)) != (gtd (0:Int) b (Int.toNat i))) (K (YX false)) (Qer K a b (w64 (i+(1:Int)))))) (K (YX true)))):Qer K a b i :=
 Loop.of (by kernel_rfl) h
theorem Qt9 (a:List Int) (b:List Int) (h :
 (zif ((a.length:Int) != (b.length:Int)) (K (YX false)) (Qer K a b 0))):Hold (tawp QcX (0+0) Qnh (TQ 0 0 Qg0 K) (Ql [(.c (.sl [TI]) a),(.c (.sl [TI]) b)])) :=
 Hold.of (by kernel_rfl) h
theorem QsK (a:List Int) (b:List Int):TCon Try.prog 66 [(.c (.sl [TI]) a),(.c (.sl [TI]) b)] (YX (m_eq (α:=List Int) a b)):=by
 refine Qq rfl fun hb=>tcg (Γ:=QcX) (n:=26) (sg:=YM.sg) Qp TOkL.nil (by kernel_rfl) (by kernel_rfl) (Qt9 _ a b ?_)
 exact Qu4 hb.1.1 (fun i h=>QvH _ a b i h) (Q:=fun x=>YX x=YX (m_eq (α:=List Int) a b)) rfl
theorem JQ:Qo Try.prog YM:=Qr fun x _=>QsK x.1 x.2.1
def QcH (t:Bool):TRes:=zre (zcb t)
def Qe0:TRow:=Qm 196 [(.a [(.sl [TI])]),(.a [(.sl [TI])])] fun x=>(none,QcH (m_eq (α:=List Int) x.1 x.2.1))
def Qje:TTab:=⟨[YM],false⟩
def QwG:TCode :=
 (zsq [(.reg [zop 2 (.box 91 0 1),zop 3 (.box 91 1 1),zmv 4 (zkb false)]),(zsq [(.reg [zfa 5 2 0,zld 6 5 1,zfa 7 3 0,zld 8 7 1,zca 9 66 [6,8],zno 10 9]),(.cond 10 (zsq [(.reg [zmv 4 (zkb false)]),.ret]) .skip)]),(.reg [zmv 4 (zkb true)]),.ret])
def Qtx:List (ARv × Md):=[(.t 4,.one .d)]
theorem Qu5 (a:List Int) (b:List Int) (h :
 (zif (!(m_eq (α:=List Int) a b)) (K (QcH false)) (K (QcH true)))):Hold (tawp Qje (0+0) QwG (TQ 0 0 Qtx K) (Ql [(.a [(.c (.sl [TI]) a)]),(.a [(.c (.sl [TI]) b)])])) :=
 Hold.of (by kernel_rfl) h
theorem QwU (a:List Int) (b:List Int):TCon Try.prog 196 [(.a [(.c (.sl [TI]) a)]),(.a [(.c (.sl [TI]) b)])] (QcH (m_eq (α:=List Int) a b)):=by
 refine Qq rfl fun hb=>tcg (Γ:=Qje) (n:=11) (sg:=Qe0.sg) Qp (TOkL.cons JQ TOkL.nil) (by kernel_rfl) (by kernel_rfl) (Qu5 _ a b ?_)
 refine ⟨fun h=>R_eq (Eq.symm (decide_eq_false (by rintro rfl;simp [m_eq] at h))),fun h0=>?_⟩
 refine R_eq (Eq.symm (decide_eq_true ?_))
 simp [m_eq] at h0
 simp [Prod.ext_iff, *]
theorem Qn8:Qo Try.prog Qe0:=Qr fun x _=>QwU x.1 x.2.1
def Y1 (t:Bool):TRes:=zre (zcb t)
def QaB:TRow:=Qm 158 [(.c (.sl [(.sl [TI])])),(.c (.sl [(.sl [TI])]))] fun x=>(none,Y1 (m_eq (α:=List (List Int)) x.1 x.2.1))
def Qcq:TTab:=⟨[Qe0],false⟩
def QmN:TCode :=
 (zsq [(zsq [(.reg [zmv 11 5,zmv 12 0,zle 13 12,zbi 14 .lss 11 13]),(.cond 14 .skip (.exit 0))]),(.block 1 (zsq [(.draw [zmv 17 0,zmv 18 5,zia 19 17 18 [(.sl [TI])],zLd 20 19 1,zmv 21 1,zmv 22 5,zia 23 21 22 [(.sl [TI])],zLd 24 23 1,zca 25 196 [20,24],zno 26 25] []),(.cond 26 (zsq [(.reg [zmv 4 (zkb false)]),.ret]) .skip)])),(.reg [zmv 15 5,zbi 16 .add 15 (zki 1),zmv 5 16])])
def QkD:List (Nat × Md):=zdl [0,1,5]
def QjO:TCode :=
 (zsq [(.reg [zmv 4 (zkb true)]),.ret])
def Qp0:TCode :=
 (zsq [(.reg [zmv 4 (zkb false)]),(zsq [(.reg [zmv 6 0,zle 7 6,zmv 8 1,zle 9 8,zbi 10 .neq 7 9]),(.cond 10 (zsq [(.reg [zmv 4 (zkb false)]),.ret]) .skip)]),(zsq [(.reg [zmv 5 (zki 0)]),(.block 0 (.loop QkD QmN))]),QjO])
def Qgq:List (ARv × Md):=[(.t 4,.one .d)]
def Qja:Qb:=TQ 0 0 Qgq K
def QpD:Qb:=Qseq (tawp Qcq 0 QjO (Qja K)) (Qja K)
def Qqw:Qb:=Qblk 0 (QpD K)
def Qej (a:List (List Int)) (b:List (List Int)) (i:Int):Prop:=Loop Qcq 0 QkD QmN (Qqw K) ⟨[(0,(zcs [(.sl [TI])] a)),(1,(zcs [(.sl [TI])] b)),(5,(zci i))],[],0⟩
theorem Qwv (a:List (List Int)) (b:List (List Int)) (i:Int) (h :
 (zif (decide (i<(a.length:Int))) ((((0:Int)≤i∧Int.toNat i<a.length)∧((0:Int)≤i∧Int.toNat i<b.length))∧(zif (!(m_eq (α:=List Int) (gtd ([]:List Int) a (Int.toNat i)) (gtd ([]:List Int) b (Int.toNat i)))) (K (Y1 false)) (Qej K a b (w64 (i+(1:Int)))))) (K (Y1 true)))):Qej K a b i :=
 Loop.of (by kernel_rfl) h
theorem Qwh (a:List (List Int)) (b:List (List Int)) (h :
 (zif ((a.length:Int) != (b.length:Int)) (K (Y1 false)) (Qej K a b 0))):Hold (tawp Qcq (0+0) Qp0 (TQ 0 0 Qgq K) (Ql [(.c (.sl [(.sl [TI])]) a),(.c (.sl [(.sl [TI])]) b)])) :=
 Hold.of (by kernel_rfl) h
theorem QrQ (a:List (List Int)) (b:List (List Int)):TCon Try.prog 158 [(.c (.sl [(.sl [TI])]) a),(.c (.sl [(.sl [TI])]) b)] (Y1 (m_eq (α:=List (List Int)) a b)):=by
 refine Qq rfl fun hb=>tcg (Γ:=Qcq) (n:=27) (sg:=QaB.sg) Qp (TOkL.cons Qn8 TOkL.nil) (by kernel_rfl) (by kernel_rfl) (Qwh _ a b ?_)
 exact Yf ([]:List Int) (E:=m_eq) (fun _ _=>rfl) hb.1.1 (fun i h=>Qwv _ a b i h) (Q:=fun x=>Y1 x=Y1 (m_eq (α:=List (List Int)) a b)) rfl
theorem QeL:Qo Try.prog QaB:=Qr fun x _=>QrQ x.1 x.2.1
def JH (t:Bool):TRes:=zre (zcb t)
def QeN:TRow:=Qm 99 [(.a Zc),(.a Zc)] fun x=>(none,JH (m_eq (α:=QI) x.1 x.2.1))
def Qk6:TTab:=⟨[QaB],false⟩
def Qw2:TCode :=
 (zsq [(.reg [zop 2 (.box 119 0 3),zop 3 (.box 119 1 3),zmv 4 (zkb false)]),(zsq [(.reg [zfa 5 2 0,zld 6 5 1,zfa 7 3 0,zld 8 7 1,zca 9 158 [6,8],zno 10 9]),(.cond 10 (zsq [(.reg [zmv 4 (zkb false)]),.ret]) .skip)]),(zsq [(.reg [zfa 11 2 1,zld 12 11 1,zfa 13 3 1,zld 14 13 1,zbi 15 .neq 12 14]),(.cond 15 (zsq [(.reg [zmv 4 (zkb false)]),.ret]) .skip)]),(zsq [(.reg [zfa 16 2 2,zld 17 16 1,zfa 18 3 2,zld 19 18 1,zop 20 (.eqb true 17 19)]),(.cond 20 (zsq [(.reg [zmv 4 (zkb false)]),.ret]) .skip)]),(.reg [zmv 4 (zkb true)]),.ret])
def QpW:List (ARv × Md):=[(.t 4,.one .d)]
theorem Qnq (a:QI) (b:QI) (h :
 (zif (!(m_eq (α:=List (List Int)) a.1 b.1)) (K (JH false)) (zif (a.2.1 != b.2.1) (K (JH false)) (zif (!(a.2.2==b.2.2)) (K (JH false)) (K (JH true)))))):Hold (tawp Qk6 (0+0) Qw2 (TQ 0 0 QpW K) (Ql [(.a (Tup.cells Zc a)),(.a (Tup.cells Zc b))])) :=
 Hold.of (by kernel_rfl) h
theorem QuS (a:QI) (b:QI):TCon Try.prog 99 [(.a (Tup.cells Zc a)),(.a (Tup.cells Zc b))] (JH (m_eq (α:=QI) a b)):=by
 refine Qq rfl fun hb=>tcg (Γ:=Qk6) (n:=21) (sg:=QeN.sg) Qp (TOkL.cons QeL TOkL.nil) (by kernel_rfl) (by kernel_rfl) (Qnq _ a b ?_)
 refine ⟨fun h=>R_eq (Eq.symm (decide_eq_false (by rintro rfl;simp [m_eq] at h))),fun h0=>?_⟩
 refine ⟨fun h=>R_eq (Eq.symm (decide_eq_false (by rintro rfl;simp [m_eq] at h))),fun h1=>?_⟩
 refine ⟨fun h=>R_eq (Eq.symm (decide_eq_false (by rintro rfl;simp [m_eq] at h))),fun h2=>?_⟩
 refine R_eq (Eq.symm (decide_eq_true ?_))
 simp [m_eq] at h0 h1 h2
 simp [Prod.ext_iff, *]
theorem Qnx:Qo Try.prog QeN:=Qr fun x _=>QuS x.1 x.2.1
def Qbc (t:Bool):TRes:=zre (zcb t)
def QdI:TRow:=Qm 201 [(.a Qw),(.a Qw)] fun x=>(none,Qbc (m_eq (α:=Qd) x.1 x.2.1))
def QjQ:TTab:=⟨[YM],false⟩
def QqC:TCode :=
 (zsq [(.reg [zop 2 (.box 230 0 2),zop 3 (.box 230 1 2),zmv 4 (zkb false)]),(zsq [(.reg [zfa 5 2 0,zld 6 5 1,zfa 7 3 0,zld 8 7 1,zca 9 66 [6,8],zno 10 9]),(.cond 10 (zsq [(.reg [zmv 4 (zkb false)]),.ret]) .skip)]),(zsq [(.reg [zfa 11 2 1,zld 12 11 1,zfa 13 3 1,zld 14 13 1,zca 15 66 [12,14],zno 16 15]),(.cond 16 (zsq [(.reg [zmv 4 (zkb false)]),.ret]) .skip)]),(.reg [zmv 4 (zkb true)]),.ret])
def Qpq:List (ARv × Md):=[(.t 4,.one .d)]
theorem Qrk (a:Qd) (b:Qd) (h :
 (zif (!(m_eq (α:=List Int) a.1 b.1)) (K (Qbc false)) (zif (!(m_eq (α:=List Int) a.2 b.2)) (K (Qbc false)) (K (Qbc true))))):Hold (tawp QjQ (0+0) QqC (TQ 0 0 Qpq K) (Ql [(.a [(.c (.sl [TI]) a.1),(.c (.sl [TI]) a.2)]),(.a [(.c (.sl [TI]) b.1),(.c (.sl [TI]) b.2)])])) :=
 Hold.of (by kernel_rfl) h
theorem Qnf (a:Qd) (b:Qd):TCon Try.prog 201 [(.a [(.c (.sl [TI]) a.1),(.c (.sl [TI]) a.2)]),(.a [(.c (.sl [TI]) b.1),(.c (.sl [TI]) b.2)])] (Qbc (m_eq (α:=Qd) a b)):=by
 refine Qq rfl fun hb=>tcg (Γ:=QjQ) (n:=17) (sg:=QdI.sg) Qp (TOkL.cons JQ TOkL.nil) (by kernel_rfl) (by kernel_rfl) (Qrk _ a b ?_)
 refine ⟨fun h=>R_eq (Eq.symm (decide_eq_false (by rintro rfl;simp [m_eq] at h))),fun h0=>?_⟩
 refine ⟨fun h=>R_eq (Eq.symm (decide_eq_false (by rintro rfl;simp [m_eq] at h))),fun h1=>?_⟩
 refine R_eq (Eq.symm (decide_eq_true ?_))
 simp [m_eq] at h0 h1
 simp [Prod.ext_iff, *]
theorem QwW:Qo Try.prog QdI:=Qr fun x _=>Qnf x.1 x.2.1
def Jh (t:Bool):TRes:=zre (zcb t)
def QeB:TRow:=Qm 171 [(.c (.sl Qw)),(.c (.sl Qw))] fun x=>(none,Jh (m_eq (α:=List Qd) x.1 x.2.1))
def QbF:TTab:=⟨[QdI],false⟩
def Qjy:TCode :=
 (zsq [(zsq [(.reg [zmv 11 5,zmv 12 0,zle 13 12,zbi 14 .lss 11 13]),(.cond 14 .skip (.exit 0))]),(.block 1 (zsq [(.draw [zmv 17 0,zmv 18 5,zia 19 17 18 Qw,zLd 20 19 2,zmv 21 1,zmv 22 5,zia 23 21 22 Qw,zLd 24 23 2,zca 25 201 [20,24],zno 26 25] []),(.cond 26 (zsq [(.reg [zmv 4 (zkb false)]),.ret]) .skip)])),(.reg [zmv 15 5,zbi 16 .add 15 (zki 1),zmv 5 16])])
def QhQ:List (Nat × Md):=zdl [0,1,5]
def QmL:TCode :=
 (zsq [(.reg [zmv 4 (zkb true)]),.ret])
def Qn0:TCode :=
 (zsq [(.reg [zmv 4 (zkb false)]),(zsq [(.reg [zmv 6 0,zle 7 6,zmv 8 1,zle 9 8,zbi 10 .neq 7 9]),(.cond 10 (zsq [(.reg [zmv 4 (zkb false)]),.ret]) .skip)]),(zsq [(.reg [zmv 5 (zki 0)]),(.block 0 (.loop QhQ Qjy))]),QmL])
def QkT:List (ARv × Md):=[(.t 4,.one .d)]
def QjM:Qb:=TQ 0 0 QkT K
def Qpw:Qb:=Qseq (tawp QbF 0 QmL (QjM K)) (QjM K)
def Quv:Qb:=Qblk 0 (Qpw K)
def Qd9 (a:List Qd) (b:List Qd) (i:Int):Prop:=Loop QbF 0 QhQ Qjy (Quv K) ⟨[(0,(zcs Qw a)),(1,(zcs Qw b)),(5,(zci i))],[],0⟩
theorem Qt6 (a:List Qd) (b:List Qd) (i:Int) (h :
 (zif (decide (i<(a.length:Int))) ((((0:Int)≤i∧Int.toNat i<a.length)∧((0:Int)≤i∧Int.toNat i<b.length))∧(zif (!(m_eq (α:=Qd) (gtd Q0 a (Int.toNat i)) (gtd Q0 b (Int.toNat i)))) (K (Jh false)) (Qd9 K a b (w64 (i+(1:Int)))))) (K (Jh true)))):Qd9 K a b i :=
 Loop.of (by kernel_rfl) h
theorem Qvw (a:List Qd) (b:List Qd) (h :
 (zif ((a.length:Int) != (b.length:Int)) (K (Jh false)) (Qd9 K a b 0))):Hold (tawp QbF (0+0) Qn0 (TQ 0 0 QkT K) (Ql [(.c (.sl Qw) a),(.c (.sl Qw) b)])) :=
 Hold.of (by kernel_rfl) h
theorem Que (a:List Qd) (b:List Qd):TCon Try.prog 171 [(.c (.sl Qw) a),(.c (.sl Qw) b)] (Jh (m_eq (α:=List Qd) a b)):=by
 refine Qq rfl fun hb=>tcg (Γ:=QbF) (n:=27) (sg:=QeB.sg) Qp (TOkL.cons QwW TOkL.nil) (by kernel_rfl) (by kernel_rfl) (Qvw _ a b ?_)
 exact Yf Q0 (E:=m_eq) (fun _ _=>rfl) hb.1.1 (fun i h=>Qt6 _ a b i h) (Q:=fun x=>Jh x=Jh (m_eq (α:=List Qd) a b)) rfl
theorem QsC:Qo Try.prog QeB:=Qr fun x _=>Que x.1 x.2.1
end
end Go.Proofs.Ytephkbajoofeoaa.Am

