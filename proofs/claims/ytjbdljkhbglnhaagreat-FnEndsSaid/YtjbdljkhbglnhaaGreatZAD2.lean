/- -/
import Derived.Test.YtjbdljkhbglnhaaGreatZAD1
import Derived.Test.YtjbdljkhbglnhaaGreatZAP4
namespace Go.Proofs.YtjbdljkhbglnhaaGreat.Am
open Go Go.RowKit Go.Proofs.YtjbdljkhbglnhaaGreat
set_option linter.all false
set_option maxHeartbeats 2000000
noncomputable section
variable (K:TRes→Prop)
def Qbq (t:Int × (((List Int) × Int × Int))):TRes:=⟨(zci t.1),[],[[(zcs [(.int .u8)] t.2.1),(zci t.2.2.1),(zci t.2.2.2)]],true,[]⟩
def Qa1 (x0:((List Int) × Int × Int)):Int × (((List Int) × Int × Int)):=Classical.epsilon fun t:Int × (((List Int) × Int × Int))=>(Qgo x0 t)∧TCon Tryz.prog 181 [(.bx [(.c (.sl [(.int .u8)]) x0.1),(.c TI x0.2.1),(.c TI x0.2.2)])] (Qbq t)
def Qhf:TRow:=Qj 181 [(.b [(.sl [(.int .u8)]),TI,TI])] fun x=>(some (Qx x.1),Qbq (Qa1 x.1))
def QMP:List TRow:=[Jt,QbO]
def QPq:TCode :=
 (zsq [(.reg [zmv 2 (zki 0)]),(zsq [(.reg [zmv 3 0,zca 4 108 [3,(zki 12)]]),(.block 0 (zsq [(.reg [zbi 6 .eql 4 (zki 0),zmv 5 6]),(.cond 5 (zsq [(.reg [zmv 7 0,zop 8 (.bsl 3 [TI] [(zki 2147483647),(zki (-2147483647)),(zki 2147483646),(zki 1),(zki (-1)),(zki 0)]),zca 9 145 [7,8],zmv 2 9]),.ret]) (zsq [(.reg [zbi 11 .eql 4 (zki 1),zmv 10 11]),(.cond 10 (zsq [(.reg [zmv 12 0,zca 13 108 [12,(zki 4000)],zbi 14 .sub 13 (zki 2000),zbi 15 .mul 14 (zki 997),zmv 2 15]),.ret]) (zsq [(.reg [zbi 17 .eql 4 (zki 2),zmv 16 17]),(.cond 16 (zsq [(.reg [zmv 18 0,zca 19 108 [18,(zki 9)],zbi 20 .sub 19 (zki 4),zmv 2 20]),.ret]) .skip)]))]))]))]),(.reg [zmv 21 0,zca 22 108 [21,(zki 17)],zbi 23 .sub 22 (zki 8),zbi 24 .mul 23 (zki 65536),zmv 25 0,zop 26 (.bsl 3 [TI] [(zki 1),(zki 1),(zki 2),(zki 4),(zki 3)]),zca 27 145 [25,26],zbi 28 .quo 24 27,zmv 2 28]),.ret])
def QCu:List (ARv × Md):=[(.t 2,.one .d)]
theorem QBC (c:((List Int) × Int × Int)) (h :
 ((Zc c (12:Int))∧(zif (((Qg c (12:Int)).1)==(0:Int)) ((YX ((Qg c (12:Int)).2) ([(2147483647:Int),(-2147483647:Int),(2147483646:Int),(1:Int),(-1:Int),(0:Int)]))∧K (Qbq ((Zx ((Qg c (12:Int)).2) ([(2147483647:Int),(-2147483647:Int),(2147483646:Int),(1:Int),(-1:Int),(0:Int)])).1,((Zx ((Qg c (12:Int)).2) ([(2147483647:Int),(-2147483647:Int),(2147483646:Int),(1:Int),(-1:Int),(0:Int)])).2)))) (zif (((Qg c (12:Int)).1)==(1:Int)) ((Zc ((Qg c (12:Int)).2) (4000:Int))∧K (Qbq (w64 ((w64 (((Qg ((Qg c (12:Int)).2) (4000:Int)).1)-(2000:Int)))*(997:Int)),((Qg ((Qg c (12:Int)).2) (4000:Int)).2)))) (zif (((Qg c (12:Int)).1)==(2:Int)) ((Zc ((Qg c (12:Int)).2) (9:Int))∧K (Qbq (w64 (((Qg ((Qg c (12:Int)).2) (9:Int)).1)-(4:Int)),((Qg ((Qg c (12:Int)).2) (9:Int)).2)))) (((Zc ((Qg c (12:Int)).2) (17:Int))∧((YX ((Qg ((Qg c (12:Int)).2) (17:Int)).2) ([(1:Int),(1:Int),(2:Int),(4:Int),(3:Int)]))∧(¬ ((Zx ((Qg ((Qg c (12:Int)).2) (17:Int)).2) ([(1:Int),(1:Int),(2:Int),(4:Int),(3:Int)])).1:Int)=0)))∧K (Qbq (w64 (Int.tdiv (w64 ((w64 (((Qg ((Qg c (12:Int)).2) (17:Int)).1)-(8:Int)))*(65536:Int))) ((Zx ((Qg ((Qg c (12:Int)).2) (17:Int)).2) ([(1:Int),(1:Int),(2:Int),(4:Int),(3:Int)])).1)),((Zx ((Qg ((Qg c (12:Int)).2) (17:Int)).2) ([(1:Int),(1:Int),(2:Int),(4:Int),(3:Int)])).2))))))))):Hold (tawp QMP (1+0) QPq (TQ 1 0 QCu K) (Qf [(.bx [(.c (.sl [(.int .u8)]) c.1),(.c TI c.2.1),(.c TI c.2.2)])])) :=
 Hold.of (by kernel_rfl) h
theorem QtR (c:((List Int) × Int × Int)) (hp:Qx c):∃ t:Int × (((List Int) × Int × Int)),(Qgo c t)∧TCon Tryz.prog 181 [(.bx [(.c (.sl [(.int .u8)]) c.1),(.c TI c.2.1),(.c TI c.2.2)])] (Qbq t):=by
 refine YP (tcx (n:=29) (sg:=Qhf.sg) Ql (TOk.cons JT (TOk.cons Qc8 TOk.nil)) (by kernel_rfl) (by kernel_rfl) (QBC (fun r'=>∃ t,(Qgo c t)∧r'=Qbq t) c ?_))
 have b1:=Z4 c 12 hp
 generalize Qg c 12=r at b1 ⊢
 have hc:Qx r.2:=b1.2.2.2
 refine ⟨hp,fun _=>?_,fun _=>⟨fun _=>?_,fun _=>⟨fun _=>?_,fun _=>?_⟩⟩⟩
 ·have hpp:YX r.2 [2147483647,-2147483647,2147483646,1,-1,0]:=⟨hc,by simp,by simp⟩
  have b2:=Qd1 _ _ hpp
  refine ⟨hpp,Q4 ⟨?_,b2.2⟩⟩
  have b3:=b2.1
  simp only [List.mem_cons,List.not_mem_nil,or_false] at b3
  simp only [Q6,Bool.and_eq_true,decide_eq_true_eq]
  omega
 ·have b2:=Z4 r.2 4000 hc
  refine ⟨hc,Q4 ⟨?_,b2.2.2.2⟩⟩
  have h1:=b2.1
  have h2:=b2.2.1 (by omega)
  rw [Qp (x:=_-2000) (by omega) (by omega),Qp (by omega) (by omega)]
  simp only [Q6,Bool.and_eq_true,decide_eq_true_eq]
  omega
 ·have b2:=Z4 r.2 9 hc
  refine ⟨hc,Q4 ⟨?_,b2.2.2.2⟩⟩
  have h1:=b2.1
  have h2:=b2.2.1 (by omega)
  rw [Qp (by omega) (by omega)]
  simp only [Q6,Bool.and_eq_true,decide_eq_true_eq]
  omega
 ·have b2:=Z4 r.2 17 hc
  have hpp:YX (Qg r.2 17).2 [1,1,2,4,3]:=⟨b2.2.2.2,by simp,by simp⟩
  have b3:=Qd1 _ _ hpp
  have b4:=b3.1
  simp only [List.mem_cons,List.not_mem_nil,or_false] at b4
  have h1:=b2.1
  have h2:=b2.2.1 (by omega)
  refine ⟨⟨hc,hpp,by omega⟩,Q4 ⟨?_,b3.2⟩⟩
  have h3:=QDY (a:=((Qg r.2 17).1-8)*65536) (b:=(Zx (Qg r.2 17).2 [1,1,2,4,3]).1) (B:=1000000) (by omega) (by omega) (by omega)
  rw [Qp (x:=_-8) (by omega) (by omega),Qp (x:=_*65536) (by omega) (by omega),Qp (by omega) (by omega)]
  simp only [Q6,Bool.and_eq_true,decide_eq_true_eq]
  omega
theorem QzC (c:((List Int) × Int × Int)) (hp:Qx c):Qgo c (Qa1 c):=(Classical.epsilon_spec (QtR c hp)).1
theorem QJk (c:((List Int) × Int × Int)) (hp:Qx c):TCon Tryz.prog 181 [(.bx [(.c (.sl [(.int .u8)]) c.1),(.c TI c.2.1),(.c TI c.2.2)])] (Qbq (Qa1 c)):=(Classical.epsilon_spec (QtR c hp)).2
theorem QpJ:Qi Tryz.prog Qhf:=Qm fun x h=>QJk x.1 h
def Qc2 (t:Int × (((List Int) × Int × Int))):TRes:=⟨(zci t.1),[],[[(zcs [(.int .u8)] t.2.1),(zci t.2.2.1),(zci t.2.2.2)]],true,[]⟩
def QcX (x0:((List Int) × Int × Int)):Int × (((List Int) × Int × Int)):=Classical.epsilon fun t:Int × (((List Int) × Int × Int))=>(QhF x0 t)∧TCon Tryz.prog 182 [(.bx [(.c (.sl [(.int .u8)]) x0.1),(.c TI x0.2.1),(.c TI x0.2.2)])] (Qc2 t)
def QgS:TRow:=Qj 182 [(.b [(.sl [(.int .u8)]),TI,TI])] fun x=>(some (Qx x.1),Qc2 (QcX x.1))
def QLe:List TRow:=[QeR,QbO,Qhf]
def QE2:TCode :=
 (zsq [(.reg [zmv 2 (zki 0)]),(zsq [(.reg [zmv 3 0,zca 4 106 [3,(zki 8)]]),(.cond 4 (zsq [(.reg [zmv 5 0,zop 6 (.bsl 3 [TI] [(zki 2147483648),(zki (-2147483648)),(zki 9223372036854775807),(zki (-9223372036854775807))]),zca 7 145 [5,6],zmv 2 7]),.ret]) .skip)]),(.reg [zmv 8 0,zca 9 181 [8],zmv 2 9]),.ret])
def QDB:List (ARv × Md):=[(.t 2,.one .d)]
theorem QJ6 (c:((List Int) × Int × Int)) (h :
 ((Zc c (8:Int))∧(zif ((ZF c (8:Int)).1) ((YX ((ZF c (8:Int)).2) ([(2147483648:Int),(-2147483648:Int),(9223372036854775807:Int),(-9223372036854775807:Int)]))∧K (Qc2 ((Zx ((ZF c (8:Int)).2) ([(2147483648:Int),(-2147483648:Int),(9223372036854775807:Int),(-9223372036854775807:Int)])).1,((Zx ((ZF c (8:Int)).2) ([(2147483648:Int),(-2147483648:Int),(9223372036854775807:Int),(-9223372036854775807:Int)])).2)))) ((Qx ((ZF c (8:Int)).2))∧K (Qc2 ((Qa1 ((ZF c (8:Int)).2)).1,((Qa1 ((ZF c (8:Int)).2)).2))))))):Hold (tawp QLe (1+0) QE2 (TQ 1 0 QDB K) (Qf [(.bx [(.c (.sl [(.int .u8)]) c.1),(.c TI c.2.1),(.c TI c.2.2)])])) :=
 Hold.of (by kernel_rfl) h
theorem QzF (c:((List Int) × Int × Int)) (hp:Qx c):∃ t:Int × (((List Int) × Int × Int)),(QhF c t)∧TCon Tryz.prog 182 [(.bx [(.c (.sl [(.int .u8)]) c.1),(.c TI c.2.1),(.c TI c.2.2)])] (Qc2 t):=by
 refine YP (tcx (n:=10) (sg:=QgS.sg) Ql (TOk.cons Qj7 (TOk.cons Qc8 (TOk.cons QpJ TOk.nil))) (by kernel_rfl) (by kernel_rfl) (QJ6 (fun r'=>∃ t,(QhF c t)∧r'=Qc2 t) c ?_))
 have b1:=Qj1 c 8 hp
 generalize ZF c 8=r at b1 ⊢
 have hpp:YX r.2 [2147483648,-2147483648,9223372036854775807,-9223372036854775807]:=⟨b1,by simp,by simp⟩
 exact ⟨hp,fun _=>⟨hpp,Q4 ((Qd1 _ _ hpp).2)⟩,fun _=>⟨b1,Q4 ((QzC _ b1).2)⟩⟩
theorem Qzm (c:((List Int) × Int × Int)) (hp:Qx c):QhF c (QcX c):=(Classical.epsilon_spec (QzF c hp)).1
theorem QId (c:((List Int) × Int × Int)) (hp:Qx c):TCon Tryz.prog 182 [(.bx [(.c (.sl [(.int .u8)]) c.1),(.c TI c.2.1),(.c TI c.2.2)])] (Qc2 (QcX c)):=(Classical.epsilon_spec (QzF c hp)).2
theorem Qpf:Qi Tryz.prog QgS:=Qm fun x h=>QId x.1 h
def Qbr (t:(List Int) × (((List Int) × Int × Int))):TRes:=⟨(.r [TI] 0 0 ((t.1).length)),[(.sl 3 [TI] true t.1)],[[(zcs [(.int .u8)] t.2.1),(zci t.2.2.1),(zci t.2.2.2)]],true,[]⟩
def Yd (x0:((List Int) × Int × Int)) (x1:Int):(List Int) × (((List Int) × Int × Int)):=Classical.epsilon fun t:(List Int) × (((List Int) × Int × Int))=>(Qcx x0 x1 t)∧TCon Tryz.prog 105 [(.bx [(.c (.sl [(.int .u8)]) x0.1),(.c TI x0.2.1),(.c TI x0.2.2)]),(.c TI x1)] (Qbr t)
def Qfd:TRow:=Qj 105 [(.b [(.sl [(.int .u8)]),TI,TI]),(.c TI)] fun x=>(some (Js x.1 x.2.1),Qbr (Yd x.1 x.2.1))
def Qks:List TRow:=[Qhf]
def QzQ:TCode :=
 (zsq [(zsq [(.reg [zmv 8 6,zmv 9 1,zbi 10 .lss 8 9]),(.cond 10 .skip (.exit 0))]),(.block 1 (.reg [zmv 13 5,zmv 14 0,zca 15 181 [14],zop 16 (.bsl 3 [TI] [15]),zop 17 (.app 13 16 3 [TI]),zmv 5 17])),(.reg [zmv 11 6,zbi 12 .add 11 (zki 1),zmv 6 12])])
def Qtx:List (Nat × Md):=[(0,.b [.d,.d,.d]),(1,.one .d),(5,.one .f),(6,.one .d)]
def QoM:TCode :=
 (zsq [(.reg [zmv 18 5,zmv 4 18]),.ret])
def QOY:TCode :=
 (zsq [(.reg [zmv 4 (.k (.n [TI]))]),(.reg [zop 7 (.bsl 3 [TI] []),zmv 5 7]),(zsq [(.reg [zmv 6 (zki 0)]),(.block 0 (.loop Qtx QzQ))]),QoM])
def QqA:List (ARv × Md):=[(.t 4,.one (.o 3))]
def QrU:Qb:=TQ 1 0 QqA K
def QIw:Qb:=Qseq (tawp Qks 1 QoM (QrU K)) (QrU K)
def QDJ:Qb:=Qblk 0 (QIw K)
def QgY (n:Int) (i:Int) (c0:List Int) (c1:Int) (c2:Int) (out:List Int):Prop:=Loop Qks 1 Qtx QzQ (QDJ K) ⟨[(0,(.p 0 0 0)),(1,(zci n)),(5,(.r [TI] 1 0 out.length)),(6,(zci i))],[(0,(.box [(zcs [(.int .u8)] c0),(zci c1),(zci c2)])),(1,(.sl 3 [TI] true out))],2⟩
theorem QrB (n:Int) (i:Int) (c0:List Int) (c1:Int) (c2:Int) (out:List Int) (h :
 (zif (decide (i<n)) (((Qx (c0,c1,c2))∧((out.length=out.length∨out.length+1≤out.length)∧out.length+1≤big))∧(QgY K n (w64 (i+(1:Int))) (((Qa1 (c0,c1,c2)).2).1) (((Qa1 (c0,c1,c2)).2).2.1) (((Qa1 (c0,c1,c2)).2).2.2) (List.take (out.length+1) ((List.take out.length out)++([(Qa1 (c0,c1,c2)).1]))))) (K (Qbr ((List.take out.length out),(c0,c1,c2)))))):QgY K n i c0 c1 c2 out :=
 Loop.of (by kernel_rfl) h
theorem QC6 (c:((List Int) × Int × Int)) (n:Int) (h :
 (QgY K n 0 c.1 c.2.1 c.2.2 ([]:List Int))):Hold (tawp Qks (1+0) QOY (TQ 1 0 QqA K) (Qf [(.bx [(.c (.sl [(.int .u8)]) c.1),(.c TI c.2.1),(.c TI c.2.2)]),(.c TI n)])) :=
 Hold.of (by kernel_rfl) h
theorem Qpt (c:((List Int) × Int × Int)) (n:Int) (hp:Js c n):∃ t:(List Int) × (((List Int) × Int × Int)),(Qcx c n t)∧TCon Tryz.prog 105 [(.bx [(.c (.sl [(.int .u8)]) c.1),(.c TI c.2.1),(.c TI c.2.2)]),(.c TI n)] (Qbr t):=by
 refine YP (tcx (n:=19) (sg:=Qfd.sg) Ql (TOk.cons QpJ TOk.nil) (by kernel_rfl) (by kernel_rfl) (QC6 (fun r'=>∃ t,(Qcx c n t)∧r'=Qbr t) c n ?_))
 obtain ⟨h1,h2⟩:=hp
 refine QaG n.toNat (fun k=>∀ (c0:List Int) (c1 c2:Int) (out:List Int),out.length=k→Zr out=true→Qx (c0,c1,c2)→QgY (fun r'=>∃ t,(Qcx c n t)∧r'=Qbr t) n (k:Int) c0 c1 c2 out) ?_ ?_ c.1 c.2.1 c.2.2 [] rfl rfl h1
 ·intro c0 c1 c2 out hl hf hc
  refine QrB (fun r'=>∃ t,(Qcx c n t)∧r'=Qbr t) n _ _ _ _ _ ⟨fun h=>by simp at h;omega,fun _=>(Q4 ⟨?_,?_,hc⟩)⟩
  ·simp;omega
  ·simp only [List.take_length];exact hf
 ·intro k hk ih c0 c1 c2 out hl hf hc
  have b:=QzC (c0,c1,c2) hc
  refine QrB (fun r'=>∃ t,(Qcx c n t)∧r'=Qbr t) n _ _ _ _ _ ⟨fun _=>⟨⟨hc,.inl rfl,by rw [Zy];omega⟩,?_⟩,fun h=>by simp at h;omega⟩
  rw [sc1 (by omega),Zv]
  exact ih _ _ _ _ (by simp;omega) (QRj hf b.1) b.2
theorem QeP (c:((List Int) × Int × Int)) (n:Int) (hp:Js c n):Qcx c n (Yd c n):=(Classical.epsilon_spec (Qpt c n hp)).1
theorem QGJ (c:((List Int) × Int × Int)) (n:Int) (hp:Js c n):TCon Tryz.prog 105 [(.bx [(.c (.sl [(.int .u8)]) c.1),(.c TI c.2.1),(.c TI c.2.2)]),(.c TI n)] (Qbr (Yd c n)):=(Classical.epsilon_spec (Qpt c n hp)).2
theorem Qok:Qi Tryz.prog Qfd:=Qm fun x h=>QGJ x.1 x.2.1 h
def Qbv (t:(List Int) × (((List Int) × Int × Int))):TRes:=⟨(zcs [TI] t.1),[],[[(zcs [(.int .u8)] t.2.1),(zci t.2.2.1),(zci t.2.2.2)]],true,[]⟩
def Qe2 (x0:((List Int) × Int × Int)):(List Int) × (((List Int) × Int × Int)):=Classical.epsilon fun t:(List Int) × (((List Int) × Int × Int))=>(Qg3 x0 t)∧TCon Tryz.prog 107 [(.bx [(.c (.sl [(.int .u8)]) x0.1),(.c TI x0.2.1),(.c TI x0.2.2)])] (Qbv t)
def QkJ:TRow:=Qj 107 [(.b [(.sl [(.int .u8)]),TI,TI])] fun x=>(some (Qx x.1),Qbv (Qe2 x.1))
def QBr:List TRow:=[Jt,Qfd,QgS,QbO]
def QDK:TCode :=
 (zsq [(.reg [zmv 2 (.k (.n [TI]))]),(.reg [zmv 4 0,zmv 5 0,zca 6 108 [5,(zki 4)],zbi 7 .add (zki 1) 6,zca 8 105 [4,7],zmv 3 8]),(zsq [(.reg [zmv 9 0,zca 10 108 [9,(zki 16)]]),(.block 0 (zsq [(.reg [zbi 12 .eql 10 (zki 0),zmv 11 12]),(.cond 11 (.reg [zmv 13 3,zmv 14 0,zca 15 182 [14],zia 16 13 (zki 0) [TI],zst 16 15 1]) (zsq [(.reg [zbi 18 .eql 10 (zki 1),zmv 17 18]),(.cond 17 (zsq [(.reg [zmv 19 0,zmv 20 0,zop 21 (.bsl 3 [TI] [(zki 0),(zki 6),(zki 7)]),zca 22 145 [20,21],zca 23 105 [19,22],zmv 2 23]),.ret]) .skip)]))]))]),(.reg [zmv 24 3,zmv 2 24]),.ret])
def QDU:List (ARv × Md):=[(.t 2,.one .d)]
theorem QBd (c:((List Int) × Int × Int)) (h :
 let z3:=Qg c (4:Int)
 let z1:=Yd (z3.2) (w64 ((1:Int)+(z3.1)))
 let z2:=Qg (z1.2) (16:Int)
 (((Zc c (4:Int))∧(Js (z3.2) (w64 ((1:Int)+(z3.1)))))∧((Zc (z1.2) (16:Int))∧(zif ((z2.1)==(0:Int)) (((Qx (z2.2))∧(((0:Int)≤(0:Int)∧Int.toNat (0:Int)<(z1.1).length)∧((0+(Int.toNat (0:Int)))<(z1.1).length)))∧K (Qbv ((List.take ((z1.1).length) (List.drop 0 ((z1.1).set (0+(Int.toNat (0:Int))) ((QcX (z2.2)).1)))),((QcX (z2.2)).2)))) (zif ((z2.1)==(1:Int)) (((YX (z2.2) ([(0:Int),(6:Int),(7:Int)]))∧(Js ((Zx (z2.2) ([(0:Int),(6:Int),(7:Int)])).2) ((Zx (z2.2) ([(0:Int),(6:Int),(7:Int)])).1)))∧K (Qbv ((List.take (((Yd ((Zx (z2.2) ([(0:Int),(6:Int),(7:Int)])).2) ((Zx (z2.2) ([(0:Int),(6:Int),(7:Int)])).1)).1).length) (List.drop 0 ((Yd ((Zx (z2.2) ([(0:Int),(6:Int),(7:Int)])).2) ((Zx (z2.2) ([(0:Int),(6:Int),(7:Int)])).1)).1))),((Yd ((Zx (z2.2) ([(0:Int),(6:Int),(7:Int)])).2) ((Zx (z2.2) ([(0:Int),(6:Int),(7:Int)])).1)).2)))) (K (Qbv ((List.take ((z1.1).length) (List.drop 0 (z1.1))),(z2.2))))))))):Hold (tawp QBr (1+0) QDK (TQ 1 0 QDU K) (Qf [(.bx [(.c (.sl [(.int .u8)]) c.1),(.c TI c.2.1),(.c TI c.2.2)])])) :=
 Hold.of (by kernel_rfl) h
theorem Qzw (c:((List Int) × Int × Int)) (hp:Qx c):∃ t:(List Int) × (((List Int) × Int × Int)),(Qg3 c t)∧TCon Tryz.prog 107 [(.bx [(.c (.sl [(.int .u8)]) c.1),(.c TI c.2.1),(.c TI c.2.2)])] (Qbv t):=by
 refine YP (tcx (n:=25) (sg:=QkJ.sg) Ql (TOk.cons JT (TOk.cons Qok (TOk.cons Qpf (TOk.cons Qc8 TOk.nil)))) (by kernel_rfl) (by kernel_rfl) (QBd (fun r'=>∃ t,(Qg3 c t)∧r'=Qbv t) c ?_))
 conv=>zeta
 have b1:=Z4 c 4 hp
 generalize Qg c 4=r1 at b1 ⊢
 have h1:=b1.1
 have h2:=b1.2.1 (by omega)
 rw [Qp (x:=1+r1.1) (by omega) (by omega)]
 have hv:Js r1.2 (1+r1.1):=⟨b1.2.2.2,by omega⟩
 have b2:=QeP _ _ hv
 generalize Yd r1.2 (1+r1.1)=r2 at b2 ⊢
 have b3:=Z4 r2.2 16 b2.2.2
 generalize Qg r2.2 16=r3 at b3 ⊢
 have hc:=b3.2.2.2
 have hl:=b2.1
 have hpk:YX r3.2 [0,6,7]:=⟨hc,by simp,by simp⟩
 have b4:=Qd1 _ _ hpk
 have b5:=b4.1
 simp only [List.mem_cons,List.not_mem_nil,or_false] at b5
 have hv2:Js (Zx r3.2 [0,6,7]).2 (Zx r3.2 [0,6,7]).1:=⟨b4.2,by omega⟩
 have b6:=QeP _ _ hv2
 have hl2:=b6.1
 refine ⟨⟨hp,hv⟩,b2.2.2,fun _=>⟨⟨hc,⟨by omega,?_⟩,?_⟩,Q4 ⟨?_,Qzm _ hc⟩⟩,fun _=>⟨fun _=>⟨⟨hpk,hv2⟩,Q4 ⟨?_,b6.2.2⟩⟩,fun _=>(Q4 ⟨?_,hc⟩)⟩⟩ <;> (simp;omega)
theorem QRE (c:((List Int) × Int × Int)) (hp:Qx c):Qg3 c (Qe2 c):=(Classical.epsilon_spec (Qzw c hp)).1
theorem QEN (c:((List Int) × Int × Int)) (hp:Qx c):TCon Tryz.prog 107 [(.bx [(.c (.sl [(.int .u8)]) c.1),(.c TI c.2.1),(.c TI c.2.2)])] (Qbv (Qe2 c)):=(Classical.epsilon_spec (Qzw c hp)).2
theorem QBK:Qi Tryz.prog QkJ:=Qm fun x h=>QEN x.1 h
def Qbu (t:TOp' × (((List Int) × Int × Int))):TRes:=⟨(.a [(zci t.1.1),(zci t.1.2.1),(zci t.1.2.2.1),(.r [TI] 0 0 ((t.1.2.2.2).length))]),[(.sl 3 [TI] true t.1.2.2.2)],[[(zcs [(.int .u8)] t.2.1),(zci t.2.2.1),(zci t.2.2.2)]],true,[]⟩
def e_op (x0:((List Int) × Int × Int)) (x1:Int):TOp' × (((List Int) × Int × Int)):=Classical.epsilon fun t:TOp' × (((List Int) × Int × Int))=>(q_op x0 x1 t)∧TCon Tryz.prog 223 [(.bx [(.c (.sl [(.int .u8)]) x0.1),(.c TI x0.2.1),(.c TI x0.2.2)]),(.c TI x1)] (Qbu t)
def Qhe:TRow:=Qj 223 [(.b [(.sl [(.int .u8)]),TI,TI]),(.c TI)] fun x=>(some (p_op x.1 x.2.1),Qbu (e_op x.1 x.2.1))
def QrP:List TRow:=[Jt,QfK,Qfd]
def QpI:TCode :=
 (zsq [(.reg [zmv 19 0,zLd 20 5 4,zca 21 202 [20],zca 22 105 [19,21],zfa 23 5 3,zst 23 22 1]),(.reg [zLd 24 5 4,zst 4 24 4]),.ret])
def QJR:List (Nat × Md):=[(0,.b [.d,.d,.d]),(4,.b (zds 4)),(5,.b (zds 4))]
def QDo:TCode:=.wk QJR QpI
def QCl:TCode :=
 (zsq [(.reg [zop 4 (.new 69 (z0s ctOp))]),(.reg [zmv 6 0,zca 7 108 [6,(zki 5)],zbi 8 .add (zki 1) 7,zmv 9 1,zmv 10 1,zop 11 (.build (z0s ctOp) [(0,1,8),(1,1,9),(2,1,10)]),zop 5 (.new 69 (z0s ctOp)),zst 5 11 4]),(zsq [(.reg [zfa 12 5 0,zld 13 12 1,zbi 14 .eql 13 (zki 1)]),(.cond 14 (.reg [zmv 15 0,zca 16 108 [15,(zki 3)],zbi 17 .add (zki 1) 16,zfa 18 5 2,zst 18 17 1]) .skip)]),QDo])
def QvD:List (ARv × Md):=[(.l 4 4 true,.b [.d,.d,.d,.o 3])]
def QJS:Qb:=TQ 1 0 QvD K
def QiS (c:((List Int) × Int × Int)) (inn:Int) (c0:List Int) (c1:Int) (c2:Int) (o2:Int):Prop:=tawp QrP 1 QpI (QJS K) ⟨[(0,(.p 0 0 0)),(4,(.p 1 0 0)),(5,(.p 2 0 0))],[(0,(.box [(zcs [(.int .u8)] c0),(zci c1),(zci c2)])),(1,(.box (Tup.cells ctOp ((0:Int),(0:Int),(0:Int),[])))),(2,(.box (Tup.cells ctOp (w64 ((1:Int)+((Qg c (5:Int)).1)),inn,o2,[]))))],3⟩
theorem QIN (c:((List Int) × Int × Int)) (inn:Int) (c0:List Int) (c1:Int) (c2:Int) (o2:Int) (h :
 ((Js (c0,c1,c2) (ZV (w64 ((1:Int)+((Qg c (5:Int)).1)),inn,o2,[])))∧K (Qbu ((w64 ((1:Int)+((Qg c (5:Int)).1)),inn,o2,(List.take (((Yd (c0,c1,c2) (ZV (w64 ((1:Int)+((Qg c (5:Int)).1)),inn,o2,[]))).1).length) ((Yd (c0,c1,c2) (ZV (w64 ((1:Int)+((Qg c (5:Int)).1)),inn,o2,[]))).1))),((Yd (c0,c1,c2) (ZV (w64 ((1:Int)+((Qg c (5:Int)).1)),inn,o2,[]))).2))))):Hold (QiS K c inn c0 c1 c2 o2) :=
 Hold.of (by kernel_rfl) h
theorem QCN (c:((List Int) × Int × Int)) (inn:Int) (h :
 ((Zc c (5:Int))∧(zif ((w64 ((1:Int)+((Qg c (5:Int)).1)))==(1:Int)) ((Zc ((Qg c (5:Int)).2) (3:Int))∧(QiS K c inn (((Qg ((Qg c (5:Int)).2) (3:Int)).2).1) (((Qg ((Qg c (5:Int)).2) (3:Int)).2).2.1) (((Qg ((Qg c (5:Int)).2) (3:Int)).2).2.2) (w64 ((1:Int)+((Qg ((Qg c (5:Int)).2) (3:Int)).1))))) (QiS K c inn (((Qg c (5:Int)).2).1) (((Qg c (5:Int)).2).2.1) (((Qg c (5:Int)).2).2.2) inn)))):Hold (tawp QrP (1+0) QCl (TQ 1 0 QvD K) (Qf [(.bx [(.c (.sl [(.int .u8)]) c.1),(.c TI c.2.1),(.c TI c.2.2)]),(.c TI inn)])) :=
 Hold.of (by kernel_rfl) h
theorem Qr8 (c:((List Int) × Int × Int)) (inn:Int) (hp:p_op c inn):∃ t:TOp' × (((List Int) × Int × Int)),(q_op c inn t)∧TCon Tryz.prog 223 [(.bx [(.c (.sl [(.int .u8)]) c.1),(.c TI c.2.1),(.c TI c.2.2)]),(.c TI inn)] (Qbu t):=by
 refine YP (tcx (n:=25) (sg:=Qhe.sg) Ql (TOk.cons JT (TOk.cons QuU (TOk.cons Qok TOk.nil))) (by kernel_rfl) (by kernel_rfl) (QCN (fun r'=>∃ t,(q_op c inn t)∧r'=Qbu t) c inn ?_))
 have b1:=Z4 c 5 hp.1
 have h1:=b1.1
 have h2:=b1.2.1 (by omega)
 obtain ⟨_,h3,h4⟩:=hp
 have hw:w64 (1+(Qg c 5).1)=1+(Qg c 5).1:=Qp (by omega) (by omega)
 have key:∀ c0 c1 c2 o2,Qx (c0,c1,c2)→1≤o2→o2≤3→(1+(Qg c 5).1=1∨inn=o2)→QiS (fun r'=>∃ t,(q_op c inn t)∧r'=Qbu t) c inn c0 c1 c2 o2:=by
  intro c0 c1 c2 o2 hc k1 k2 k3
  refine (QIN (fun r'=>∃ t,(q_op c inn t)∧r'=Qbu t) c inn c0 c1 c2 o2 ?_).h
  rw [hw]
  have h5:1≤1+(Qg c 5).1:=by omega
  have h6:1+(Qg c 5).1≤5:=by omega
  generalize 1+(Qg c 5).1=o1 at h5 h6 k3 ⊢
  have hs:=Qye o1 [] h3 h4 k1 k2
  have hv:Js (c0,c1,c2) (ZV (o1,inn,o2,[])):=⟨hc,by omega⟩
  have b:=QeP _ _ hv
  have hl:=b.1
  refine ⟨hv,Q4 ⟨?_,rfl,k1,k2,?_,b.2.2⟩⟩
  ·simp only [List.take_length]
   exact QQh h5 h6 h3 h4 k1 k2 k3 hl b.2.1
  ·simp;omega
 have b2:=Z4 (Qg c 5).2 3 b1.2.2.2
 have h7:=b2.1
 have h8:=b2.2.1 (by omega)
 rw [hw] at *
 refine ⟨‹Qx c›,fun h=>⟨b1.2.2.2,?_⟩,fun _=>key _ _ _ _ b1.2.2.2 h3 h4 (.inr rfl)⟩
 rw [Qp (x:=1+(Qg (Qg c 5).2 3).1) (by omega) (by omega)]
 exact key _ _ _ _ b2.2.2.2 (by omega) (by omega) (.inl (by simpa using h))
theorem Qzs (c:((List Int) × Int × Int)) (inn:Int) (hp:p_op c inn):q_op c inn (e_op c inn):=(Classical.epsilon_spec (Qr8 c inn hp)).1
theorem QRu (c:((List Int) × Int × Int)) (inn:Int) (hp:p_op c inn):TCon Tryz.prog 223 [(.bx [(.c (.sl [(.int .u8)]) c.1),(.c TI c.2.1),(.c TI c.2.2)]),(.c TI inn)] (Qbu (e_op c inn)):=(Classical.epsilon_spec (Qr8 c inn hp)).2
theorem QtU:Qi Tryz.prog Qhe:=Qm fun x h=>QRu x.1 x.2.1 h
def Qaf (t:TOp' × (((List Int) × Int × Int))):TRes:=⟨(.a (Tup.cells ctOp t.1)),[],[[(zcs [(.int .u8)] t.2.1),(zci t.2.2.1),(zci t.2.2.2)]],true,[]⟩
def Qfq (x0:((List Int) × Int × Int)):TOp' × (((List Int) × Int × Int)):=Classical.epsilon fun t:TOp' × (((List Int) × Int × Int))=>(Qg0 x0 t)∧TCon Tryz.prog 201 [(.bx [(.c (.sl [(.int .u8)]) x0.1),(.c TI x0.2.1),(.c TI x0.2.2)])] (Qaf t)
def QjY:TRow:=Qj 201 [(.b [(.sl [(.int .u8)]),TI,TI])] fun x=>(some (Qx x.1),Qaf (Qfq x.1))
def QPs:List TRow:=[Jt,Qhe,QbO,QgS]
def QLP:TCode :=
 (zsq [(.reg [zop 2 (.new 69 (z0s ctOp))]),(.reg [zmv 4 0,zmv 5 0,zca 6 108 [5,(zki 3)],zbi 7 .add (zki 1) 6,zca 8 223 [4,7],zop 3 (.new 69 (z0s ctOp)),zst 3 8 4]),(zsq [(.reg [zmv 9 0,zca 10 108 [9,(zki 14)]]),(.block 0 (zsq [(.reg [zbi 12 .eql 10 (zki 0),zmv 11 12]),(.cond 11 (.reg [zmv 13 0,zca 14 108 [13,(zki 8)],zbi 15 .sub 14 (zki 1),zfa 16 3 0,zst 16 15 1]) (zsq [(.reg [zbi 18 .eql 10 (zki 1),zmv 17 18]),(.cond 17 (.reg [zmv 19 0,zfa 20 3 1,zld 21 20 1,zbi 22 .add 21 (zki 1),zop 23 (.bsl 3 [TI] [(zki 0),(zki 7),22]),zca 24 145 [19,23],zfa 25 3 1,zst 25 24 1]) (zsq [(.reg [zbi 27 .eql 10 (zki 2),zmv 26 27]),(.cond 26 (.reg [zfa 28 3 3,zld 29 28 1,zop 30 (.bsl 3 [TI] [(zki 0)]),zop 31 (.app 29 30 3 [TI]),zfa 32 3 3,zst 32 31 1]) (zsq [(.reg [zbi 34 .eql 10 (zki 3),zmv 33 34]),(.cond 33 (zsq [(.reg [zfa 35 3 3,zld 36 35 1,zle 37 36,zbi 38 .gtr 37 (zki 0)]),(.cond 38 (.draw [zfa 39 3 3,zld 40 39 1,zmv 41 0,zca 42 182 [41],zia 43 40 (zki 0) [TI],zst 43 42 1] [(0,3),(1,3)]) .skip)]) .skip)]))]))]))]))]),(.reg [zLd 44 3 4,zst 2 44 4]),.ret])
def QPF:List (ARv × Md):=[(.l 2 4 true,.b (zds 4))]
theorem QD5 (c:((List Int) × Int × Int)) (h :
 let z4:=Qg c (3:Int)
 let z1:=e_op (z4.2) (w64 ((1:Int)+(z4.1)))
 let z2:=Qg (z1.2) (14:Int)
 let z3:=List.take (((z1.1).2.2.2).length) (List.drop 0 ((z1.1).2.2.2))
 (((Zc c (3:Int))∧(p_op (z4.2) (w64 ((1:Int)+(z4.1)))))∧((Zc (z1.2) (14:Int))∧(zif ((z2.1)==(0:Int)) ((Zc (z2.2) (8:Int))∧K (Qaf ((w64 (((Qg (z2.2) (8:Int)).1)-(1:Int)),(z1.1).2.1,(z1.1).2.2.1,z3),((Qg (z2.2) (8:Int)).2)))) (zif ((z2.1)==(1:Int)) ((YX (z2.2) ([(0:Int),(7:Int),w64 (((z1.1).2.1)+(1:Int))]))∧K (Qaf (((z1.1).1,(Zx (z2.2) ([(0:Int),(7:Int),w64 (((z1.1).2.1)+(1:Int))])).1,(z1.1).2.2.1,z3),((Zx (z2.2) ([(0:Int),(7:Int),w64 (((z1.1).2.1)+(1:Int))])).2)))) (zif ((z2.1)==(2:Int)) (((((z1.1).2.2.2).length=((z1.1).2.2.2).length∨((z1.1).2.2.2).length+1≤((z1.1).2.2.2).length)∧((z1.1).2.2.2).length+1≤big)∧K (Qaf (((z1.1).1,(z1.1).2.1,(z1.1).2.2.1,(List.take (((z1.1).2.2.2).length+1) (List.drop 0 ((List.take (((z1.1).2.2.2).length) ((z1.1).2.2.2))++([(0:Int)]))))),(z2.2)))) (zif ((z2.1)==(3:Int)) (zif (decide (((((z1.1).2.2.2).length:Nat):Int)>(0:Int))) (((Qx (z2.2))∧(((0:Int)≤(0:Int)∧Int.toNat (0:Int)<((z1.1).2.2.2).length)∧((0+(Int.toNat (0:Int)))<((z1.1).2.2.2).length)))∧K (Qaf (((z1.1).1,(z1.1).2.1,(z1.1).2.2.1,(List.take (((z1.1).2.2.2).length) (List.drop 0 (((z1.1).2.2.2).set (0+(Int.toNat (0:Int))) ((QcX (z2.2)).1))))),((QcX (z2.2)).2)))) (K (Qaf (((z1.1).1,(z1.1).2.1,(z1.1).2.2.1,z3),(z2.2))))) (K (Qaf (((z1.1).1,(z1.1).2.1,(z1.1).2.2.1,z3),(z2.2))))))))))):Hold (tawp QPs (1+0) QLP (TQ 1 0 QPF K) (Qf [(.bx [(.c (.sl [(.int .u8)]) c.1),(.c TI c.2.1),(.c TI c.2.2)])])) :=
 Hold.of (by kernel_rfl) h
theorem Qss (c:((List Int) × Int × Int)) (hp:Qx c):∃ t:TOp' × (((List Int) × Int × Int)),(Qg0 c t)∧TCon Tryz.prog 201 [(.bx [(.c (.sl [(.int .u8)]) c.1),(.c TI c.2.1),(.c TI c.2.2)])] (Qaf t):=by
 refine YP (tcx (n:=45) (sg:=QjY.sg) Ql (TOk.cons JT (TOk.cons QtU (TOk.cons Qc8 (TOk.cons Qpf TOk.nil)))) (by kernel_rfl) (by kernel_rfl) (QD5 (fun r'=>∃ t,(Qg0 c t)∧r'=Qaf t) c ?_))
 conv=>zeta
 have b1:=Z4 c 3 hp
 generalize Qg c 3=r1 at b1 ⊢
 have h1:=b1.1
 have h2:=b1.2.1 (by omega)
 rw [Qp (x:=1+r1.1) (by omega) (by omega)]
 have ho:p_op r1.2 (1+r1.1):=⟨b1.2.2.2,by omega,by omega⟩
 have b2:=Qzs _ _ ho
 generalize e_op r1.2 (1+r1.1)=r2 at b2 ⊢
 have hl:=b2.2.2.2.2.1
 have hc2:=b2.2.2.2.2.2
 have b3:=(Z4 r2.2 14 hc2).2.2.2
 generalize Qg r2.2 14=r3 at b3 ⊢
 refine ⟨⟨hp,ho⟩,hc2,fun _=>⟨b3,Q4 ⟨?_,(Z4 _ _ b3).2.2.2⟩⟩,fun _=>⟨fun _=>⟨⟨b3,by simp,by simp⟩,Q4 ⟨?_,(Qd1 _ _ ⟨b3,by simp,by simp⟩).2⟩⟩,fun _=>⟨fun _=>⟨⟨.inl rfl,by rw [Zy];omega⟩,Q4 ⟨?_,b3⟩⟩,fun _=>⟨fun _=>⟨fun hh=>⟨⟨b3,⟨by omega,by simpa using hh⟩,by simpa using hh⟩,Q4 ⟨?_,Qzm _ b3⟩⟩,fun _=>(Q4 ⟨?_,b3⟩)⟩,fun _=>(Q4 ⟨?_,b3⟩)⟩⟩⟩⟩
 all_goals first
  | (simp;omega)
  | omega
  | skip
theorem QOQ (c:((List Int) × Int × Int)) (hp:Qx c):Qg0 c (Qfq c):=(Classical.epsilon_spec (Qss c hp)).1
theorem QQ6 (c:((List Int) × Int × Int)) (hp:Qx c):TCon Tryz.prog 201 [(.bx [(.c (.sl [(.int .u8)]) c.1),(.c TI c.2.1),(.c TI c.2.2)])] (Qaf (Qfq c)):=(Classical.epsilon_spec (Qss c hp)).2
theorem QHb:Qi Tryz.prog QjY:=Qm fun x h=>QQ6 x.1 h
def Qbn (t:(List TOp') × (((List Int) × Int × Int))):TRes:=⟨(.a [(.r ctOp 0 0 ((t.1).length))]),[(.sl 69 ctOp true t.1)],[[(zcs [(.int .u8)] t.2.1),(zci t.2.2.1),(zci t.2.2.2)]],true,[]⟩
def Zp (x0:((List Int) × Int × Int)):(List TOp') × (((List Int) × Int × Int)):=Classical.epsilon fun t:(List TOp') × (((List Int) × Int × Int))=>(Qcv x0 t)∧TCon Tryz.prog 198 [(.bx [(.c (.sl [(.int .u8)]) x0.1),(.c TI x0.2.1),(.c TI x0.2.2)])] (Qbn t)
def Qgk:TRow:=Qj 198 [(.b [(.sl [(.int .u8)]),TI,TI])] fun x=>(some (Qx x.1),Qbn (Zp x.1))
def Qlj:List TRow:=[Jt,Qhe]
def QzB:TCode :=
 (zsq [(zsq [(.reg [zmv 14 5,zbi 15 .gtr 14 (zki 0)]),(.cond 15 .skip (.exit 0))]),(.block 1 (zsq [(.reg [zmv 18 0,zmv 19 4,zca 20 223 [18,19],zop 6 (.new 69 (z0s ctOp)),zst 6 20 4]),(.reg [zfa 21 3 0,zld 22 21 1,zLd 23 6 4,zop 24 (.bsl 69 ctOp [23]),zop 25 (.app 22 24 69 ctOp),zfa 26 3 0,zst 26 25 1]),(.reg [zfa 27 6 2,zld 28 27 1,zmv 4 28])])),(.reg [zmv 16 5,zbi 17 .sub 16 (zki 1),zmv 5 17])])
def Qw8:List (Nat × Md):=[(0,.b [.d,.d,.d]),(2,.b [.d]),(3,.b [.o 69]),(4,.one .d),(5,.one .d)]
def Qt3:TCode :=
 (zsq [(.reg [zLd 29 3 1,zst 2 29 1]),.ret])
def QMS:TCode :=
 (zsq [(.reg [zop 2 (.new 26 [(.n ctOp)])]),(.reg [zop 7 (.build [(.n ctOp)] []),zop 3 (.new 26 [(.n ctOp)]),zst 3 7 1]),(.reg [zmv 8 0,zca 9 108 [8,(zki 3)],zbi 10 .add (zki 1) 9,zmv 4 10]),(zsq [(.reg [zmv 11 0,zca 12 108 [11,(zki 6)],zbi 13 .add (zki 1) 12,zmv 5 13]),(.block 0 (.loop Qw8 QzB))]),Qt3])
def Qwh:List (ARv × Md):=[(.l 2 1 true,.b [.o 69])]
def QyT:Qb:=TQ 1 0 Qwh K
def QLI:Qb:=Qseq (tawp Qlj 1 Qt3 (QyT K)) (QyT K)
def QLz:Qb:=Qblk 0 (QLI K)
def Qhc (inn:Int) (n:Int) (c0:List Int) (c1:Int) (c2:Int) (m0:List TOp'):Prop:=Loop Qlj 1 Qw8 QzB (QLz K) ⟨[(0,(.p 0 0 0)),(2,(.p 1 0 0)),(3,(.p 3 0 0)),(4,(zci inn)),(5,(zci n))],[(0,(.box [(zcs [(.int .u8)] c0),(zci c1),(zci c2)])),(1,(.box [(zcs ctOp ([]))])),(2,(.sl 69 ctOp true m0)),(3,(.box [(.r ctOp 2 0 m0.length)]))],4⟩
theorem Qs6 (inn:Int) (n:Int) (c0:List Int) (c1:Int) (c2:Int) (m0:List TOp') (h :
 (zif (decide (n>(0:Int))) ((p_op (c0,c1,c2) inn)∧(((m0.length=m0.length∨m0.length+1≤m0.length)∧m0.length+1≤big)∧(Qhc K (((e_op (c0,c1,c2) inn).1).2.2.1) (w64 (n-(1:Int))) (((e_op (c0,c1,c2) inn).2).1) (((e_op (c0,c1,c2) inn).2).2.1) (((e_op (c0,c1,c2) inn).2).2.2) (List.take (m0.length+1) ((List.take m0.length m0)++([(((e_op (c0,c1,c2) inn).1).1,((e_op (c0,c1,c2) inn).1).2.1,((e_op (c0,c1,c2) inn).1).2.2.1,(List.take ((((e_op (c0,c1,c2) inn).1).2.2.2).length) (List.drop 0 (((e_op (c0,c1,c2) inn).1).2.2.2))))])))))) (K (Qbn ((List.take m0.length m0),(c0,c1,c2)))))):Qhc K inn n c0 c1 c2 m0 :=
 Loop.of (by kernel_rfl) h
theorem QCv (c:((List Int) × Int × Int)) (h :
 ((Zc c (3:Int))∧((Zc ((Qg c (3:Int)).2) (6:Int))∧(Qhc K (w64 ((1:Int)+((Qg c (3:Int)).1))) (w64 ((1:Int)+((Qg ((Qg c (3:Int)).2) (6:Int)).1))) (((Qg ((Qg c (3:Int)).2) (6:Int)).2).1) (((Qg ((Qg c (3:Int)).2) (6:Int)).2).2.1) (((Qg ((Qg c (3:Int)).2) (6:Int)).2).2.2) ([]:List TOp'))))):Hold (tawp Qlj (1+0) QMS (TQ 1 0 Qwh K) (Qf [(.bx [(.c (.sl [(.int .u8)]) c.1),(.c TI c.2.1),(.c TI c.2.2)])])) :=
 Hold.of (by kernel_rfl) h
theorem Qr3 (c:((List Int) × Int × Int)) (hp:Qx c):∃ t:(List TOp') × (((List Int) × Int × Int)),(Qcv c t)∧TCon Tryz.prog 198 [(.bx [(.c (.sl [(.int .u8)]) c.1),(.c TI c.2.1),(.c TI c.2.2)])] (Qbn t):=by
 refine YP (tcx (n:=30) (sg:=Qgk.sg) Ql (TOk.cons JT (TOk.cons QtU TOk.nil)) (by kernel_rfl) (by kernel_rfl) (QCv (fun r'=>∃ t,(Qcv c t)∧r'=Qbn t) c ?_))
 have b1:=Z4 c 3 hp
 generalize Qg c 3=r1 at b1 ⊢
 have b2:=Z4 r1.2 6 b1.2.2.2
 generalize Qg r1.2 6=r2 at b2 ⊢
 have h1:=b1.1
 have h2:=b1.2.1 (by omega)
 have h3:=b2.1
 have h4:=b2.2.1 (by omega)
 rw [Qp (x:=1+r1.1) (by omega) (by omega),Qp (x:=1+r2.1) (by omega) (by omega)]
 refine ⟨hp,b1.2.2.2,?_⟩
 have key:∀ (k:Nat) (inn c1 c2:Int) (c0:List Int) (m0:Q5),Qx (c0,c1,c2)→1≤inn→inn≤3→m0.length+k≤6→1≤m0.length+k→Ye none m0=true→Qh3 none m0 inn=true→Qhc (fun r'=>∃ t,(Qcv c t)∧r'=Qbn t) inn (k:Int) c0 c1 c2 m0:=by
  intro k
  induction k with
  | zero =>
   intro inn c1 c2 c0 m0 hc k1 k2 k3 k4 k5 k6
   refine Qs6 (fun r'=>∃ t,(Qcv c t)∧r'=Qbn t) _ _ _ _ _ _ ⟨fun h=>by simp at h,fun _=>(Q4 ⟨?_,?_,hc⟩)⟩
   ·simp only [List.take_length,QM,Bool.and_eq_true,QR]
    exact ⟨by omega,k5⟩
   ·simp only [List.take_length];omega
  | succ k ih =>
   intro inn c1 c2 c0 m0 hc k1 k2 k3 k4 k5 k6
   have ho:p_op (c0,c1,c2) inn:=⟨hc,k1,k2⟩
   have b:=Qzs _ _ ho
   refine Qs6 (fun r'=>∃ t,(Qcv c t)∧r'=Qbn t) _ _ _ _ _ _ ⟨fun _=>⟨ho,⟨.inl rfl,by rw [Zy];omega⟩,?_⟩,fun h=>by simp at h <;> omega⟩
   rw [Zv,Qp (x:=((k+1:Nat):Int)-1) (by omega) (by omega),show ((k+1:Nat):Int)-1=k by omega]
   refine ih _ _ _ _ _ b.2.2.2.2.2 b.2.2.1 b.2.2.2.1 (by simp;omega) (by simp;omega) (QoB _ _ _ k5 ?_ ?_) ?_
   ·simp only [List.drop_zero,List.take_length];exact b.1
   ·rw [show (((e_op (c0,c1,c2) inn).1.1,(e_op (c0,c1,c2) inn).1.2.1,(e_op (c0,c1,c2) inn).1.2.2.1,List.take (e_op (c0,c1,c2) inn).1.2.2.2.length (List.drop 0 (e_op (c0,c1,c2) inn).1.2.2.2)):TOp').2.1=inn from b.2.1]
    exact k6
   ·exact QyO _ _ _
 have h:=key (1+r2.1).toNat (1+r1.1) r2.2.2.1 r2.2.2.2 r2.2.1 [] b2.2.2.2 (by omega) (by omega) (by simp;omega) (by simp;omega) rfl rfl
 rw [Int.toNat_of_nonneg (by omega)] at h
 exact h
theorem Qzr (c:((List Int) × Int × Int)) (hp:Qx c):Qcv c (Zp c):=(Classical.epsilon_spec (Qr3 c hp)).1
theorem QE3 (c:((List Int) × Int × Int)) (hp:Qx c):TCon Tryz.prog 198 [(.bx [(.c (.sl [(.int .u8)]) c.1),(.c TI c.2.1),(.c TI c.2.2)])] (Qbn (Zp c)):=(Classical.epsilon_spec (Qr3 c hp)).2
theorem QoC:Qi Tryz.prog Qgk:=Qm fun x h=>QE3 x.1 h
def J5 (t:(List TOp') × (((List Int) × Int × Int))):TRes:=⟨(.a [(zcs ctOp t.1)]),[],[[(zcs [(.int .u8)] t.2.1),(zci t.2.2.1),(zci t.2.2.2)]],true,[]⟩
def Qgl (x0:((List Int) × Int × Int)):(List TOp') × (((List Int) × Int × Int)):=Classical.epsilon fun t:(List TOp') × (((List Int) × Int × Int))=>(Qdi x0 t)∧TCon Tryz.prog 144 [(.bx [(.c (.sl [(.int .u8)]) x0.1),(.c TI x0.2.1),(.c TI x0.2.2)])] (J5 t)
def QjC:TRow:=Qj 144 [(.b [(.sl [(.int .u8)]),TI,TI])] fun x=>(some (Qx x.1),J5 (Qgl x.1))
def QkO:List TRow:=[Qgk,Jt,QjY]
def Qu1:TCode :=
 (zsq [(zsq [(.draw [zfa 31 3 0,zld 32 31 1,zle 33 32,zmv 34 0,zca 35 108 [34,(zki 2)],zbi 36 .add (zki 8) 35,zbi 37 .lss 33 36] [(0,4),(1,4),(2,4)]),(.cond 37 .skip (.exit 1))]),(.block 2 (.draw [zfa 38 3 0,zld 39 38 1,zfa 40 3 0,zld 41 40 1,zfa 42 3 0,zld 43 42 1,zle 44 43,zbi 45 .sub 44 (zki 1),zia 46 41 45 ctOp,zfa 47 46 2,zld 48 47 1,zfa 49 3 0,zld 50 49 1,zfa 51 3 0,zld 52 51 1,zle 53 52,zbi 54 .sub 53 (zki 1),zia 55 50 54 ctOp,zfa 56 55 2,zld 57 56 1,zop 58 (.build (z0s ctOp) [(0,1,(zki 3)),(1,1,48),(2,1,57)]),zop 59 (.bsl 69 ctOp [58]),zop 60 (.app 39 59 69 ctOp),zfa 61 3 0,zst 61 60 1] [(0,21),(1,21)]))])
def Qzd:List (Nat × Md):=[(0,.b [.d,.d,.d]),(2,.b [.d]),(3,.b [.f])]
def QpN:TCode :=
 (zsq [(.reg [zLd 62 3 1,zst 2 62 1]),.ret])
def QRn:TCode :=
 (zsq [(.reg [zop 2 (.new 26 [(.n ctOp)])]),(.reg [zmv 5 0,zca 6 198 [5],zop 3 (.new 26 [(.n ctOp)]),zst 3 6 1]),(.reg [zmv 7 0,zfa 8 3 0,zld 9 8 1,zle 10 9,zca 11 108 [7,10],zmv 4 11]),(zsq [(.reg [zmv 12 0,zca 13 108 [12,(zki 16)]]),(.block 0 (zsq [(.reg [zbi 15 .eql 13 (zki 0),zmv 14 15]),(.cond 14 (.draw [zfa 16 3 0,zld 17 16 1,zmv 18 4,zmv 19 0,zca 20 201 [19],zia 21 17 18 ctOp,zst 21 20 4] [(0,4),(1,4)]) (zsq [(.reg [zbi 23 .eql 13 (zki 1),zmv 22 23]),(.cond 22 (.reg [zfa 24 3 0,zld 25 24 1,zmv 26 4,zop 27 (.slc 25 none (some 26) ctOp),zfa 28 3 0,zst 28 27 1]) (zsq [(.reg [zbi 30 .eql 13 (zki 2),zmv 29 30]),(.cond 29 (.block 1 (.loop Qzd Qu1)) .skip)]))]))]))]),QpN])
def QvH:List (ARv × Md):=[(.l 2 1 true,.b [.d])]
def QzV:Qb:=TQ 1 0 QvH K
def QQx:Qb:=Qseq (tawp QkO 1 QpN (QzV K)) (QzV K)
def QMF:Qb:=Qblk 0 (QQx K)
def QIu:Qb:=Qblk 1 (QMF K)
def Qhg (c0:List Int) (c1:Int) (c2:Int) (m0:List TOp'):Prop:=Loop QkO 1 Qzd Qu1 (QIu K) ⟨[(0,(.p 0 0 0)),(2,(.p 1 0 0)),(3,(.p 3 0 0))],[(0,(.box [(zcs [(.int .u8)] c0),(zci c1),(zci c2)])),(1,(.box [(zcs ctOp ([]))])),(2,(.sl 69 ctOp true m0)),(3,(.box [(.r ctOp 2 0 m0.length)]))],4⟩
theorem Qst (c0:List Int) (c1:Int) (c2:Int) (m0:List TOp') (h :
 ((Zc (c0,c1,c2) (2:Int))∧(zif (decide (((m0.length:Nat):Int)<(w64 ((8:Int)+((Qg (c0,c1,c2) (2:Int)).1))))) ((((0:Int)≤w64 (((m0.length:Nat):Int)-(1:Int))∧Int.toNat (w64 (((m0.length:Nat):Int)-(1:Int)))<m0.length)∧(((0+(Int.toNat (w64 (((m0.length:Nat):Int)-(1:Int)))))<m0.length)∧(((0:Int)≤w64 (((m0.length:Nat):Int)-(1:Int))∧Int.toNat (w64 (((m0.length:Nat):Int)-(1:Int)))<m0.length)∧(((0+(Int.toNat (w64 (((m0.length:Nat):Int)-(1:Int)))))<m0.length)∧((m0.length=m0.length∨m0.length+1≤m0.length)∧m0.length+1≤big)))))∧(Qhg K (((Qg (c0,c1,c2) (2:Int)).2).1) (((Qg (c0,c1,c2) (2:Int)).2).2.1) (((Qg (c0,c1,c2) (2:Int)).2).2.2) (List.take (m0.length+1) ((List.take m0.length m0)++([((3:Int),(gtd dOp m0 (0+(Int.toNat (w64 (((m0.length:Nat):Int)-(1:Int)))))).2.2.1,(gtd dOp m0 (0+(Int.toNat (w64 (((m0.length:Nat):Int)-(1:Int)))))).2.2.1,[])]))))) (K (J5 ((List.take m0.length (List.drop 0 m0)),((Qg (c0,c1,c2) (2:Int)).2))))))):Qhg K c0 c1 c2 m0 :=
 Loop.of (by kernel_rfl) h
theorem QNJ (c:((List Int) × Int × Int)) (h :
 let z1:=Qg ((Zp c).2) ((((Zp c).1).length:Nat):Int)
 let z2:=Qg (z1.2) (16:Int)
 ((Qx c)∧((Zc ((Zp c).2) ((((Zp c).1).length:Nat):Int))∧((Zc (z1.2) (16:Int))∧(zif ((z2.1)==(0:Int)) (((Qx (z2.2))∧(((0:Int)≤z1.1∧Int.toNat (z1.1)<((Zp c).1).length)∧((0+(Int.toNat (z1.1)))<((Zp c).1).length)))∧K (J5 ((List.take (((Zp c).1).length) (List.drop 0 (((Zp c).1).set (0+(Int.toNat (z1.1))) ((Qfq (z2.2)).1)))),((Qfq (z2.2)).2)))) (zif ((z2.1)==(1:Int)) (((0:Int)≤(0:Int)∧(0:Int)≤z1.1∧z1.1≤((((Zp c).1).length:Nat):Int))∧K (J5 ((List.take (Int.toNat (z1.1)-Int.toNat (0:Int)) (List.drop 0 ((Zp c).1))),(z2.2)))) (zif ((z2.1)==(2:Int)) (Qhg K ((z2.2).1) ((z2.2).2.1) ((z2.2).2.2) (List.take (((Zp c).1).length) ((Zp c).1))) (K (J5 ((List.take (((Zp c).1).length) (List.drop 0 ((Zp c).1))),(z2.2))))))))))):Hold (tawp QkO (1+0) QRn (TQ 1 0 QvH K) (Qf [(.bx [(.c (.sl [(.int .u8)]) c.1),(.c TI c.2.1),(.c TI c.2.2)])])) :=
 Hold.of (by kernel_rfl) h
theorem QGc (c:((List Int) × Int × Int)) (hp:Qx c):∃ t:(List TOp') × (((List Int) × Int × Int)),(Qdi c t)∧TCon Tryz.prog 144 [(.bx [(.c (.sl [(.int .u8)]) c.1),(.c TI c.2.1),(.c TI c.2.2)])] (J5 t):=by
 refine YP (tcx (n:=63) (sg:=QjC.sg) Ql (TOk.cons QoC (TOk.cons JT (TOk.cons QHb TOk.nil))) (by kernel_rfl) (by kernel_rfl) (QNJ (fun r'=>∃ t,(Qdi c t)∧r'=J5 t) c ?_))
 conv=>zeta
 have b1:=Qzr c hp
 generalize Zp c=r1 at b1 ⊢
 obtain ⟨k1,k2,k3⟩:=b1
 have k4:1≤r1.1.length:=by
  simp only [QM,Bool.and_eq_true,QR] at k1
  omega
 have b2:=Z4 r1.2 r1.1.length k3
 generalize Qg r1.2 r1.1.length=r2 at b2 ⊢
 have h1:=b2.1
 have h2:=b2.2.1 (by omega)
 have b3:=(Z4 r2.2 16 b2.2.2.2).2.2.2
 generalize Qg r2.2 16=r3 at b3 ⊢
 refine ⟨hp,k3,b2.2.2.2,fun _=>⟨⟨b3,⟨h1,by omega⟩,by omega⟩,Q4 ⟨?_,(QOQ _ b3).2⟩⟩,fun _=>⟨fun _=>⟨⟨by omega,by omega,by omega⟩,Q4 ⟨?_,b3⟩⟩,fun _=>⟨fun _=>?_,fun _=>(Q4 ⟨?_,b3⟩)⟩⟩⟩
 ·simp;omega
 ·simp;omega
 ·rw [List.take_length]
  have key:∀ (k:Nat) (c1 c2:Int) (c0:List Int) (m0:Q5),Qx (c0,c1,c2)→1≤m0.length→m0.length+k=9→Qhg (fun r'=>∃ t,(Qdi c t)∧r'=J5 t) c0 c1 c2 m0:=by
   intro k
   induction k with
   | zero =>
    intro c1 c2 c0 m0 hc q1 q2
    have b:=Z4 (c0,c1,c2) 2 hc
    have q3:=b.1
    have q4:=b.2.1 (by omega)
    refine Qst (fun r'=>∃ t,(Qdi c t)∧r'=J5 t) _ _ _ _ ⟨hc,fun h=>?_,fun _=>(Q4 ⟨?_,b.2.2.2⟩)⟩
    ·rw [Qp (x:=8+_) (by omega) (by omega)] at h
     simp at h;omega
    ·simp;omega
   | succ k ih =>
    intro c1 c2 c0 m0 hc q1 q2
    have b:=Z4 (c0,c1,c2) 2 hc
    refine Qst (fun r'=>∃ t,(Qdi c t)∧r'=J5 t) _ _ _ _ ⟨hc,fun _=>?_,fun _=>(Q4 ⟨?_,b.2.2.2⟩)⟩
    ·rw [Qp (x:=(m0.length:Int)-1) (by omega) (by omega)]
     refine ⟨⟨⟨by omega,by omega⟩,by omega,⟨by omega,by omega⟩,by omega,.inl rfl,by rw [Zy];omega⟩,?_⟩
     rw [Zv]
     exact ih _ _ _ _ b.2.2.2 (by simp) (by simp;omega)
    ·simp;omega
  exact key (9-r1.1.length) _ _ _ _ b3 k4 (by omega)
 ·simp;omega
theorem QBv (c:((List Int) × Int × Int)) (hp:Qx c):TCon Tryz.prog 144 [(.bx [(.c (.sl [(.int .u8)]) c.1),(.c TI c.2.1),(.c TI c.2.2)])] (J5 (Qgl c)):=(Classical.epsilon_spec (QGc c hp)).2
theorem QGS:Qi Tryz.prog QjC:=Qm fun x h=>QBv x.1 h
end
end Go.Proofs.YtjbdljkhbglnhaaGreat.Am

