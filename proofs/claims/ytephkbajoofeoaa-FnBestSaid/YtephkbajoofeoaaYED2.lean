/- -/
import Derived.Test.YtephkbajoofeoaaYED1
import Derived.Test.YtephkbajoofeoaaYEP4
namespace Go.Proofs.Ytephkbajoofeoaa.Am
open Go Go.RowKit Go.Proofs.Ytephkbajoofeoaa
set_option linter.all false
set_option maxHeartbeats 2000000
noncomputable section
variable (K:TRes→Prop)
def ZY (t:Int × (((List Int) × Int × Int))):TRes:=⟨(zci t.1),[],[[(zcs [(.int .u8)] t.2.1),(zci t.2.2.1),(zci t.2.2.2)]],true,[]⟩
def ZS (x0:((List Int) × Int × Int)):Int × (((List Int) × Int × Int)):=Classical.epsilon fun t:Int × (((List Int) × Int × Int))=>(Qaa x0 t)∧TCon Try.prog 204 [(.bx [(.c (.sl [(.int .u8)]) x0.1),(.c TI x0.2.1),(.c TI x0.2.2)])] (ZY t)
def Qbc:TRow:=Qp 204 [(.b [(.sl [(.int .u8)]),TI,TI])] fun x=>(some (Qh x.1),ZY (ZS x.1))
def QnX:List TRow:=[Zx,JZ]
def QkD:TCode :=
 (zsq [(.reg [zmv 2 (zki 0)]),(zsq [(.reg [zmv 3 0,zca 4 116 [3,(zki 12)]]),(.block 0 (zsq [(.reg [zbi 6 .eql 4 (zki 0),zmv 5 6]),(.cond 5 (zsq [(.reg [zmv 7 0,zop 8 (.bsl 3 [TI] [(zki 2147483647),(zki (-2147483647)),(zki 2147483646),(zki 1),(zki (-1)),(zki 0)]),zca 9 182 [7,8],zmv 2 9]),.ret]) (zsq [(.reg [zbi 11 .eql 4 (zki 1),zmv 10 11]),(.cond 10 (zsq [(.reg [zmv 12 0,zca 13 116 [12,(zki 4000)],zbi 14 .sub 13 (zki 2000),zbi 15 .mul 14 (zki 997),zmv 2 15]),.ret]) (zsq [(.reg [zbi 17 .eql 4 (zki 2),zmv 16 17]),(.cond 16 (zsq [(.reg [zmv 18 0,zca 19 116 [18,(zki 9)],zbi 20 .sub 19 (zki 4),zmv 2 20]),.ret]) .skip)]))]))]))]),(.reg [zmv 21 0,zca 22 116 [21,(zki 17)],zbi 23 .sub 22 (zki 8),zbi 24 .mul 23 (zki 65536),zmv 25 0,zop 26 (.bsl 3 [TI] [(zki 1),(zki 1),(zki 2),(zki 4),(zki 3)]),zca 27 182 [25,26],zbi 28 .quo 24 27,zmv 2 28]),.ret])
def Qpf:List (ARv × Md):=[(.t 2,.one .d)]
theorem Qmu (c:((List Int) × Int × Int)) (h :
 ((QI c (12:Int))∧(zif (((Qc c (12:Int)).1)==(0:Int)) ((Zw ((Qc c (12:Int)).2) ([(2147483647:Int),(-2147483647:Int),(2147483646:Int),(1:Int),(-1:Int),(0:Int)]))∧K (ZY ((Zd ((Qc c (12:Int)).2) ([(2147483647:Int),(-2147483647:Int),(2147483646:Int),(1:Int),(-1:Int),(0:Int)])).1,((Zd ((Qc c (12:Int)).2) ([(2147483647:Int),(-2147483647:Int),(2147483646:Int),(1:Int),(-1:Int),(0:Int)])).2)))) (zif (((Qc c (12:Int)).1)==(1:Int)) ((QI ((Qc c (12:Int)).2) (4000:Int))∧K (ZY (w64 ((w64 (((Qc ((Qc c (12:Int)).2) (4000:Int)).1)-(2000:Int)))*(997:Int)),((Qc ((Qc c (12:Int)).2) (4000:Int)).2)))) (zif (((Qc c (12:Int)).1)==(2:Int)) ((QI ((Qc c (12:Int)).2) (9:Int))∧K (ZY (w64 (((Qc ((Qc c (12:Int)).2) (9:Int)).1)-(4:Int)),((Qc ((Qc c (12:Int)).2) (9:Int)).2)))) (((QI ((Qc c (12:Int)).2) (17:Int))∧((Zw ((Qc ((Qc c (12:Int)).2) (17:Int)).2) ([(1:Int),(1:Int),(2:Int),(4:Int),(3:Int)]))∧(¬ ((Zd ((Qc ((Qc c (12:Int)).2) (17:Int)).2) ([(1:Int),(1:Int),(2:Int),(4:Int),(3:Int)])).1:Int)=0)))∧K (ZY (w64 (Int.tdiv (w64 ((w64 (((Qc ((Qc c (12:Int)).2) (17:Int)).1)-(8:Int)))*(65536:Int))) ((Zd ((Qc ((Qc c (12:Int)).2) (17:Int)).2) ([(1:Int),(1:Int),(2:Int),(4:Int),(3:Int)])).1)),((Zd ((Qc ((Qc c (12:Int)).2) (17:Int)).2) ([(1:Int),(1:Int),(2:Int),(4:Int),(3:Int)])).2))))))))):Hold (tawp QnX (1+0) QkD (TQ 1 0 Qpf K) (Qj [(.bx [(.c (.sl [(.int .u8)]) c.1),(.c TI c.2.1),(.c TI c.2.2)])])) :=
 Hold.of (by kernel_rfl) h
theorem Qf9 (c:((List Int) × Int × Int)) (hp:Qh c):∃ t:Int × (((List Int) × Int × Int)),(Qaa c t)∧TCon Try.prog 204 [(.bx [(.c (.sl [(.int .u8)]) c.1),(.c TI c.2.1),(.c TI c.2.2)])] (ZY t):=by
 refine Zh (tcx (n:=29) (sg:=Qbc.sg) Qq (TOk.cons Ye (TOk.cons Qdm TOk.nil)) (by kernel_rfl) (by kernel_rfl) (Qmu (fun r'=>∃ t,(Qaa c t)∧r'=ZY t) c ?_))
 have b1:=QX c 12 hp
 generalize Qc c 12=r at b1 ⊢
 have hc:Qh r.2:=b1.2.2.2
 refine ⟨hp,fun _=>?_,fun _=>⟨fun _=>?_,fun _=>⟨fun _=>?_,fun _=>?_⟩⟩⟩
 ·have hpp:Zw r.2 [2147483647,-2147483647,2147483646,1,-1,0]:=⟨hc,by simp,by simp⟩
  have b2:=Qbo _ _ hpp
  refine ⟨hpp,QB ⟨?_,b2.2⟩⟩
  have b3:=b2.1
  simp only [List.mem_cons,List.not_mem_nil,or_false] at b3
  simp only [QS,Bool.and_eq_true,decide_eq_true_eq]
  omega
 ·have b2:=QX r.2 4000 hc
  refine ⟨hc,QB ⟨?_,b2.2.2.2⟩⟩
  have h1:=b2.1
  have h2:=b2.2.1 (by omega)
  rw [Qi (x:=_-2000) (by omega) (by omega),Qi (by omega) (by omega)]
  simp only [QS,Bool.and_eq_true,decide_eq_true_eq]
  omega
 ·have b2:=QX r.2 9 hc
  refine ⟨hc,QB ⟨?_,b2.2.2.2⟩⟩
  have h1:=b2.1
  have h2:=b2.2.1 (by omega)
  rw [Qi (by omega) (by omega)]
  simp only [QS,Bool.and_eq_true,decide_eq_true_eq]
  omega
 ·have b2:=QX r.2 17 hc
  have hpp:Zw (Qc r.2 17).2 [1,1,2,4,3]:=⟨b2.2.2.2,by simp,by simp⟩
  have b3:=Qbo _ _ hpp
  have b4:=b3.1
  simp only [List.mem_cons,List.not_mem_nil,or_false] at b4
  have h1:=b2.1
  have h2:=b2.2.1 (by omega)
  refine ⟨⟨hc,hpp,by omega⟩,QB ⟨?_,b3.2⟩⟩
  have h3:=QlI (a:=((Qc r.2 17).1-8)*65536) (b:=(Zd (Qc r.2 17).2 [1,1,2,4,3]).1) (B:=1000000) (by omega) (by omega) (by omega)
  rw [Qi (x:=_-8) (by omega) (by omega),Qi (x:=_*65536) (by omega) (by omega),Qi (by omega) (by omega)]
  simp only [QS,Bool.and_eq_true,decide_eq_true_eq]
  omega
theorem Qjc (c:((List Int) × Int × Int)) (hp:Qh c):Qaa c (ZS c):=(Classical.epsilon_spec (Qf9 c hp)).1
theorem Qm2 (c:((List Int) × Int × Int)) (hp:Qh c):TCon Try.prog 204 [(.bx [(.c (.sl [(.int .u8)]) c.1),(.c TI c.2.1),(.c TI c.2.2)])] (ZY (ZS c)):=(Classical.epsilon_spec (Qf9 c hp)).2
theorem Qel:Qo Try.prog Qbc:=Qs fun x h=>Qm2 x.1 h
def YF (t:Int × (((List Int) × Int × Int))):TRes:=⟨(zci t.1),[],[[(zcs [(.int .u8)] t.2.1),(zci t.2.2.1),(zci t.2.2.2)]],true,[]⟩
def Jz (x0:((List Int) × Int × Int)):Int × (((List Int) × Int × Int)):=Classical.epsilon fun t:Int × (((List Int) × Int × Int))=>(QbF x0 t)∧TCon Try.prog 184 [(.bx [(.c (.sl [(.int .u8)]) x0.1),(.c TI x0.2.1),(.c TI x0.2.2)])] (YF t)
def Qb8:TRow:=Qp 184 [(.b [(.sl [(.int .u8)]),TI,TI])] fun x=>(some (Qh x.1),YF (Jz x.1))
def Qol:List TRow:=[QcQ,JZ,Qbc]
def Qkx:TCode :=
 (zsq [(.reg [zmv 2 (zki 0)]),(zsq [(.reg [zmv 3 0,zca 4 136 [3,(zki 8)]]),(.cond 4 (zsq [(.reg [zmv 5 0,zop 6 (.bsl 3 [TI] [(zki 2147483648),(zki (-2147483648)),(zki 9223372036854775807),(zki (-9223372036854775807))]),zca 7 182 [5,6],zmv 2 7]),.ret]) .skip)]),(.reg [zmv 8 0,zca 9 204 [8],zmv 2 9]),.ret])
def Qn1:List (ARv × Md):=[(.t 2,.one .d)]
theorem Qlr (c:((List Int) × Int × Int)) (h :
 ((QI c (8:Int))∧(zif ((Zs c (8:Int)).1) ((Zw ((Zs c (8:Int)).2) ([(2147483648:Int),(-2147483648:Int),(9223372036854775807:Int),(-9223372036854775807:Int)]))∧K (YF ((Zd ((Zs c (8:Int)).2) ([(2147483648:Int),(-2147483648:Int),(9223372036854775807:Int),(-9223372036854775807:Int)])).1,((Zd ((Zs c (8:Int)).2) ([(2147483648:Int),(-2147483648:Int),(9223372036854775807:Int),(-9223372036854775807:Int)])).2)))) ((Qh ((Zs c (8:Int)).2))∧K (YF ((ZS ((Zs c (8:Int)).2)).1,((ZS ((Zs c (8:Int)).2)).2))))))):Hold (tawp Qol (1+0) Qkx (TQ 1 0 Qn1 K) (Qj [(.bx [(.c (.sl [(.int .u8)]) c.1),(.c TI c.2.1),(.c TI c.2.2)])])) :=
 Hold.of (by kernel_rfl) h
theorem QeS (c:((List Int) × Int × Int)) (hp:Qh c):∃ t:Int × (((List Int) × Int × Int)),(QbF c t)∧TCon Try.prog 184 [(.bx [(.c (.sl [(.int .u8)]) c.1),(.c TI c.2.1),(.c TI c.2.2)])] (YF t):=by
 refine Zh (tcx (n:=10) (sg:=Qb8.sg) Qq (TOk.cons Qkv (TOk.cons Qdm (TOk.cons Qel TOk.nil))) (by kernel_rfl) (by kernel_rfl) (Qlr (fun r'=>∃ t,(QbF c t)∧r'=YF t) c ?_))
 have b1:=QpR c 8 hp
 generalize Zs c 8=r at b1 ⊢
 have hpp:Zw r.2 [2147483648,-2147483648,9223372036854775807,-9223372036854775807]:=⟨b1,by simp,by simp⟩
 exact ⟨hp,fun _=>⟨hpp,QB ((Qbo _ _ hpp).2)⟩,fun _=>⟨b1,QB ((Qjc _ b1).2)⟩⟩
theorem Qmo (c:((List Int) × Int × Int)) (hp:Qh c):QbF c (Jz c):=(Classical.epsilon_spec (QeS c hp)).1
theorem Qot (c:((List Int) × Int × Int)) (hp:Qh c):TCon Try.prog 184 [(.bx [(.c (.sl [(.int .u8)]) c.1),(.c TI c.2.1),(.c TI c.2.2)])] (YF (Jz c)):=(Classical.epsilon_spec (QeS c hp)).2
theorem Qnq:Qo Try.prog Qb8:=Qs fun x h=>Qot x.1 h
def ZZ (t:(List Int) × (((List Int) × Int × Int))):TRes:=⟨(.r [TI] 0 0 ((t.1).length)),[(.sl 3 [TI] true t.1)],[[(zcs [(.int .u8)] t.2.1),(zci t.2.2.1),(zci t.2.2.2)]],true,[]⟩
def Y2 (x0:((List Int) × Int × Int)) (x1:Int):(List Int) × (((List Int) × Int × Int)):=Classical.epsilon fun t:(List Int) × (((List Int) × Int × Int))=>(Yy x0 x1 t)∧TCon Try.prog 181 [(.bx [(.c (.sl [(.int .u8)]) x0.1),(.c TI x0.2.1),(.c TI x0.2.2)]),(.c TI x1)] (ZZ t)
def QbQ:TRow:=Qp 181 [(.b [(.sl [(.int .u8)]),TI,TI]),(.c TI)] fun x=>(some (Y7 x.1 x.2.1),ZZ (Y2 x.1 x.2.1))
def Qcz:List TRow:=[Qbc]
def Qhr:TCode :=
 (zsq [(zsq [(.reg [zmv 8 6,zmv 9 1,zbi 10 .lss 8 9]),(.cond 10 .skip (.exit 0))]),(.block 1 (.reg [zmv 13 5,zmv 14 0,zca 15 204 [14],zop 16 (.bsl 3 [TI] [15]),zop 17 (.app 13 16 3 [TI]),zmv 5 17])),(.reg [zmv 11 6,zbi 12 .add 11 (zki 1),zmv 6 12])])
def QeE:List (Nat × Md):=[(0,.b [.d,.d,.d]),(1,.one .d),(5,.one .f),(6,.one .d)]
def Qez:TCode :=
 (zsq [(.reg [zmv 18 5,zmv 4 18]),.ret])
def Qna:TCode :=
 (zsq [(.reg [zmv 4 (.k (.n [TI]))]),(.reg [zop 7 (.bsl 3 [TI] []),zmv 5 7]),(zsq [(.reg [zmv 6 (zki 0)]),(.block 0 (.loop QeE Qhr))]),Qez])
def QfI:List (ARv × Md):=[(.t 4,.one (.o 3))]
def QhG:Qd:=TQ 1 0 QfI K
def QlW:Qd:=Qseq (tawp Qcz 1 Qez (QhG K)) (QhG K)
def Qjq:Qd:=Qblk 0 (QlW K)
def Qbf (n:Int) (i:Int) (c0:List Int) (c1:Int) (c2:Int) (out:List Int):Prop:=Loop Qcz 1 QeE Qhr (Qjq K) ⟨[(0,(.p 0 0 0)),(1,(zci n)),(5,(.r [TI] 1 0 out.length)),(6,(zci i))],[(0,(.box [(zcs [(.int .u8)] c0),(zci c1),(zci c2)])),(1,(.sl 3 [TI] true out))],2⟩
theorem Qec (n:Int) (i:Int) (c0:List Int) (c1:Int) (c2:Int) (out:List Int) (h :
 (zif (decide (i<n)) (((Qh (c0,c1,c2))∧((out.length=out.length∨out.length+1≤out.length)∧out.length+1≤big))∧(Qbf K n (w64 (i+(1:Int))) (((ZS (c0,c1,c2)).2).1) (((ZS (c0,c1,c2)).2).2.1) (((ZS (c0,c1,c2)).2).2.2) (List.take (out.length+1) ((List.take out.length out)++([(ZS (c0,c1,c2)).1]))))) (K (ZZ ((List.take out.length out),(c0,c1,c2)))))):Qbf K n i c0 c1 c2 out :=
 Loop.of (by kernel_rfl) h
theorem Qmx (c:((List Int) × Int × Int)) (n:Int) (h :
 (Qbf K n 0 c.1 c.2.1 c.2.2 ([]:List Int))):Hold (tawp Qcz (1+0) Qna (TQ 1 0 QfI K) (Qj [(.bx [(.c (.sl [(.int .u8)]) c.1),(.c TI c.2.1),(.c TI c.2.2)]),(.c TI n)])) :=
 Hold.of (by kernel_rfl) h
theorem QiY (c:((List Int) × Int × Int)) (n:Int) (hp:Y7 c n):∃ t:(List Int) × (((List Int) × Int × Int)),(Yy c n t)∧TCon Try.prog 181 [(.bx [(.c (.sl [(.int .u8)]) c.1),(.c TI c.2.1),(.c TI c.2.2)]),(.c TI n)] (ZZ t):=by
 refine Zh (tcx (n:=19) (sg:=QbQ.sg) Qq (TOk.cons Qel TOk.nil) (by kernel_rfl) (by kernel_rfl) (Qmx (fun r'=>∃ t,(Yy c n t)∧r'=ZZ t) c n ?_))
 obtain ⟨h1,h2⟩:=hp
 refine YU n.toNat (fun k=>∀ (c0:List Int) (c1 c2:Int) (out:List Int),out.length=k→Q4 out=true→Qh (c0,c1,c2)→Qbf (fun r'=>∃ t,(Yy c n t)∧r'=ZZ t) n (k:Int) c0 c1 c2 out) ?_ ?_ c.1 c.2.1 c.2.2 [] rfl rfl h1
 ·intro c0 c1 c2 out hl hf hc
  refine Qec (fun r'=>∃ t,(Yy c n t)∧r'=ZZ t) n _ _ _ _ _ ⟨fun h=>by simp at h;omega,fun _=>(QB ⟨?_,?_,hc⟩)⟩
  ·simp;omega
  ·simp only [List.take_length];exact hf
 ·intro k hk ih c0 c1 c2 out hl hf hc
  have b:=Qjc (c0,c1,c2) hc
  refine Qec (fun r'=>∃ t,(Yy c n t)∧r'=ZZ t) n _ _ _ _ _ ⟨fun _=>⟨⟨hc,.inl rfl,by rw [Yw];omega⟩,?_⟩,fun h=>by simp at h;omega⟩
  rw [sc1 (by omega),JL]
  exact ih _ _ _ _ (by simp;omega) (Qoq hf b.1) b.2
theorem QoG (c:((List Int) × Int × Int)) (n:Int) (hp:Y7 c n):Yy c n (Y2 c n):=(Classical.epsilon_spec (QiY c n hp)).1
theorem QoV (c:((List Int) × Int × Int)) (n:Int) (hp:Y7 c n):TCon Try.prog 181 [(.bx [(.c (.sl [(.int .u8)]) c.1),(.c TI c.2.1),(.c TI c.2.2)]),(.c TI n)] (ZZ (Y2 c n)):=(Classical.epsilon_spec (QiY c n hp)).2
theorem Qmb:Qo Try.prog QbQ:=Qs fun x h=>QoV x.1 x.2.1 h
def Z3 (t:TOp' × (((List Int) × Int × Int))):TRes:=⟨(.a [(zci t.1.1),(zci t.1.2.1),(zci t.1.2.2.1),(.r [TI] 0 0 ((t.1.2.2.2).length))]),[(.sl 3 [TI] true t.1.2.2.2)],[[(zcs [(.int .u8)] t.2.1),(zci t.2.2.1),(zci t.2.2.2)]],true,[]⟩
def e_op (x0:((List Int) × Int × Int)) (x1:Int):TOp' × (((List Int) × Int × Int)):=Classical.epsilon fun t:TOp' × (((List Int) × Int × Int))=>(q_op x0 x1 t)∧TCon Try.prog 205 [(.bx [(.c (.sl [(.int .u8)]) x0.1),(.c TI x0.2.1),(.c TI x0.2.2)]),(.c TI x1)] (Z3 t)
def QaX:TRow:=Qp 205 [(.b [(.sl [(.int .u8)]),TI,TI]),(.c TI)] fun x=>(some (p_op x.1 x.2.1),Z3 (e_op x.1 x.2.1))
def Qh8:List TRow:=[Zx,Qbi,QbQ]
def QiZ:TCode :=
 (zsq [(.reg [zmv 19 0,zLd 20 5 4,zca 21 191 [20],zca 22 181 [19,21],zfa 23 5 3,zst 23 22 1]),(.reg [zLd 24 5 4,zst 4 24 4]),.ret])
def Qjo:List (Nat × Md):=[(0,.b [.d,.d,.d]),(4,.b (zds 4)),(5,.b (zds 4))]
def Qmg:TCode:=.wk Qjo QiZ
def Qog:TCode :=
 (zsq [(.reg [zop 4 (.new 76 (z0s ctOp))]),(.reg [zmv 6 0,zca 7 116 [6,(zki 5)],zbi 8 .add (zki 1) 7,zmv 9 1,zmv 10 1,zop 11 (.build (z0s ctOp) [(0,1,8),(1,1,9),(2,1,10)]),zop 5 (.new 76 (z0s ctOp)),zst 5 11 4]),(zsq [(.reg [zfa 12 5 0,zld 13 12 1,zbi 14 .eql 13 (zki 1)]),(.cond 14 (.reg [zmv 15 0,zca 16 116 [15,(zki 3)],zbi 17 .add (zki 1) 16,zfa 18 5 2,zst 18 17 1]) .skip)]),Qmg])
def QhI:List (ARv × Md):=[(.l 4 4 true,.b [.d,.d,.d,.o 3])]
def Qm4:Qd:=TQ 1 0 QhI K
@[irreducible] def Qa2 (c:((List Int) × Int × Int)) (inn:Int) (c0:List Int) (c1:Int) (c2:Int) (o2:Int):Prop:=tawp Qh8 1 QiZ (Qm4 K) ⟨[(0,(.p 0 0 0)),(4,(.p 1 0 0)),(5,(.p 2 0 0))],[(0,(.box [(zcs [(.int .u8)] c0),(zci c1),(zci c2)])),(1,(.box (Tup.cells ctOp ((0:Int),(0:Int),(0:Int),[])))),(2,(.box (Tup.cells ctOp (w64 ((1:Int)+((Qc c (5:Int)).1)),inn,o2,[]))))],3⟩
theorem QoY (c:((List Int) × Int × Int)) (inn:Int) (c0:List Int) (c1:Int) (c2:Int) (o2:Int) (h :
 ((Y7 (c0,c1,c2) (QH (w64 ((1:Int)+((Qc c (5:Int)).1)),inn,o2,[])))∧K (Z3 ((w64 ((1:Int)+((Qc c (5:Int)).1)),inn,o2,(List.take (((Y2 (c0,c1,c2) (QH (w64 ((1:Int)+((Qc c (5:Int)).1)),inn,o2,[]))).1).length) ((Y2 (c0,c1,c2) (QH (w64 ((1:Int)+((Qc c (5:Int)).1)),inn,o2,[]))).1))),((Y2 (c0,c1,c2) (QH (w64 ((1:Int)+((Qc c (5:Int)).1)),inn,o2,[]))).2))))):Hold (Qa2 K c inn c0 c1 c2 o2) :=
 Hold.of (by kernel_rfl) h
theorem Qmd (c:((List Int) × Int × Int)) (inn:Int) (h :
 ((QI c (5:Int))∧(zif ((w64 ((1:Int)+((Qc c (5:Int)).1)))==(1:Int)) ((QI ((Qc c (5:Int)).2) (3:Int))∧(Qa2 K c inn (((Qc ((Qc c (5:Int)).2) (3:Int)).2).1) (((Qc ((Qc c (5:Int)).2) (3:Int)).2).2.1) (((Qc ((Qc c (5:Int)).2) (3:Int)).2).2.2) (w64 ((1:Int)+((Qc ((Qc c (5:Int)).2) (3:Int)).1))))) (Qa2 K c inn (((Qc c (5:Int)).2).1) (((Qc c (5:Int)).2).2.1) (((Qc c (5:Int)).2).2.2) inn)))):Hold (tawp Qh8 (1+0) Qog (TQ 1 0 QhI K) (Qj [(.bx [(.c (.sl [(.int .u8)]) c.1),(.c TI c.2.1),(.c TI c.2.2)]),(.c TI inn)])) :=
 Hold.of (by kernel_rfl) h
theorem QiK (c:((List Int) × Int × Int)) (inn:Int) (hp:p_op c inn):∃ t:TOp' × (((List Int) × Int × Int)),(q_op c inn t)∧TCon Try.prog 205 [(.bx [(.c (.sl [(.int .u8)]) c.1),(.c TI c.2.1),(.c TI c.2.2)]),(.c TI inn)] (Z3 t):=by
 refine Zh (tcx (n:=25) (sg:=QaX.sg) Qq (TOk.cons Ye (TOk.cons QgU (TOk.cons Qmb TOk.nil))) (by kernel_rfl) (by kernel_rfl) (Qmd (fun r'=>∃ t,(q_op c inn t)∧r'=Z3 t) c inn ?_))
 have b1:=QX c 5 hp.1
 have h1:=b1.1
 have h2:=b1.2.1 (by omega)
 obtain ⟨_,h3,h4⟩:=hp
 have hw:w64 (1+(Qc c 5).1)=1+(Qc c 5).1:=Qi (by omega) (by omega)
 have key:∀ c0 c1 c2 o2,Qh (c0,c1,c2)→1≤o2→o2≤3→(1+(Qc c 5).1=1∨inn=o2)→Qa2 (fun r'=>∃ t,(q_op c inn t)∧r'=Z3 t) c inn c0 c1 c2 o2:=by
  intro c0 c1 c2 o2 hc k1 k2 k3
  refine (QoY (fun r'=>∃ t,(q_op c inn t)∧r'=Z3 t) c inn c0 c1 c2 o2 ?_).h
  rw [hw]
  have h5:1≤1+(Qc c 5).1:=by omega
  have h6:1+(Qc c 5).1≤5:=by omega
  generalize 1+(Qc c 5).1=o1 at h5 h6 k3 ⊢
  have hs:=Qim o1 [] h3 h4 k1 k2
  have hv:Y7 (c0,c1,c2) (QH (o1,inn,o2,[])):=⟨hc,by omega⟩
  have b:=QoG _ _ hv
  have hl:=b.1
  refine ⟨hv,QB ⟨?_,rfl,k1,k2,?_,b.2.2⟩⟩
  ·simp only [List.take_length]
   exact Qk8 h5 h6 h3 h4 k1 k2 k3 hl b.2.1
  ·simp;omega
 have b2:=QX (Qc c 5).2 3 b1.2.2.2
 have h7:=b2.1
 have h8:=b2.2.1 (by omega)
 rw [hw] at *
 refine ⟨‹Qh c›,fun h=>⟨b1.2.2.2,?_⟩,fun _=>key _ _ _ _ b1.2.2.2 h3 h4 (.inr rfl)⟩
 rw [Qi (x:=1+(Qc (Qc c 5).2 3).1) (by omega) (by omega)]
 exact key _ _ _ _ b2.2.2.2 (by omega) (by omega) (.inl (by simpa using h))
theorem Qg6 (c:((List Int) × Int × Int)) (inn:Int) (hp:p_op c inn):q_op c inn (e_op c inn):=(Classical.epsilon_spec (QiK c inn hp)).1
theorem QnP (c:((List Int) × Int × Int)) (inn:Int) (hp:p_op c inn):TCon Try.prog 205 [(.bx [(.c (.sl [(.int .u8)]) c.1),(.c TI c.2.1),(.c TI c.2.2)]),(.c TI inn)] (Z3 (e_op c inn)):=(Classical.epsilon_spec (QiK c inn hp)).2
theorem QhJ:Qo Try.prog QaX:=Qs fun x h=>QnP x.1 x.2.1 h
def Zt (t:TOp' × (((List Int) × Int × Int))):TRes:=⟨(.a (Tup.cells ctOp t.1)),[],[[(zcs [(.int .u8)] t.2.1),(zci t.2.2.1),(zci t.2.2.2)]],true,[]⟩
def Js (x0:((List Int) × Int × Int)):TOp' × (((List Int) × Int × Int)):=Classical.epsilon fun t:TOp' × (((List Int) × Int × Int))=>(Qa9 x0 t)∧TCon Try.prog 187 [(.bx [(.c (.sl [(.int .u8)]) x0.1),(.c TI x0.2.1),(.c TI x0.2.2)])] (Zt t)
def Qdf:TRow:=Qp 187 [(.b [(.sl [(.int .u8)]),TI,TI])] fun x=>(some (Qh x.1),Zt (Js x.1))
def Qji:List TRow:=[Zx,QaX,JZ,Qb8]
def QnK:TCode :=
 (zsq [(.reg [zop 2 (.new 76 (z0s ctOp))]),(.reg [zmv 4 0,zmv 5 0,zca 6 116 [5,(zki 3)],zbi 7 .add (zki 1) 6,zca 8 205 [4,7],zop 3 (.new 76 (z0s ctOp)),zst 3 8 4]),(zsq [(.reg [zmv 9 0,zca 10 116 [9,(zki 14)]]),(.block 0 (zsq [(.reg [zbi 12 .eql 10 (zki 0),zmv 11 12]),(.cond 11 (.reg [zmv 13 0,zca 14 116 [13,(zki 8)],zbi 15 .sub 14 (zki 1),zfa 16 3 0,zst 16 15 1]) (zsq [(.reg [zbi 18 .eql 10 (zki 1),zmv 17 18]),(.cond 17 (.reg [zmv 19 0,zfa 20 3 1,zld 21 20 1,zbi 22 .add 21 (zki 1),zop 23 (.bsl 3 [TI] [(zki 0),(zki 7),22]),zca 24 182 [19,23],zfa 25 3 1,zst 25 24 1]) (zsq [(.reg [zbi 27 .eql 10 (zki 2),zmv 26 27]),(.cond 26 (.reg [zfa 28 3 3,zld 29 28 1,zop 30 (.bsl 3 [TI] [(zki 0)]),zop 31 (.app 29 30 3 [TI]),zfa 32 3 3,zst 32 31 1]) (zsq [(.reg [zbi 34 .eql 10 (zki 3),zmv 33 34]),(.cond 33 (zsq [(.reg [zfa 35 3 3,zld 36 35 1,zle 37 36,zbi 38 .gtr 37 (zki 0)]),(.cond 38 (.draw [zfa 39 3 3,zld 40 39 1,zmv 41 0,zca 42 184 [41],zia 43 40 (zki 0) [TI],zst 43 42 1] [(0,3),(1,3)]) .skip)]) .skip)]))]))]))]))]),(.reg [zLd 44 3 4,zst 2 44 4]),.ret])
def Qmj:List (ARv × Md):=[(.l 2 4 true,.b (zds 4))]
theorem Qnv (c:((List Int) × Int × Int)) (h :
 let z4:=Qc c (3:Int)
 let z1:=e_op (z4.2) (w64 ((1:Int)+(z4.1)))
 let z2:=Qc (z1.2) (14:Int)
 let z3:=List.take (((z1.1).2.2.2).length) (List.drop 0 ((z1.1).2.2.2))
 (((QI c (3:Int))∧(p_op (z4.2) (w64 ((1:Int)+(z4.1)))))∧((QI (z1.2) (14:Int))∧(zif ((z2.1)==(0:Int)) ((QI (z2.2) (8:Int))∧K (Zt ((w64 (((Qc (z2.2) (8:Int)).1)-(1:Int)),(z1.1).2.1,(z1.1).2.2.1,z3),((Qc (z2.2) (8:Int)).2)))) (zif ((z2.1)==(1:Int)) ((Zw (z2.2) ([(0:Int),(7:Int),w64 (((z1.1).2.1)+(1:Int))]))∧K (Zt (((z1.1).1,(Zd (z2.2) ([(0:Int),(7:Int),w64 (((z1.1).2.1)+(1:Int))])).1,(z1.1).2.2.1,z3),((Zd (z2.2) ([(0:Int),(7:Int),w64 (((z1.1).2.1)+(1:Int))])).2)))) (zif ((z2.1)==(2:Int)) (((((z1.1).2.2.2).length=((z1.1).2.2.2).length∨((z1.1).2.2.2).length+1≤((z1.1).2.2.2).length)∧((z1.1).2.2.2).length+1≤big)∧K (Zt (((z1.1).1,(z1.1).2.1,(z1.1).2.2.1,(List.take (((z1.1).2.2.2).length+1) (List.drop 0 ((List.take (((z1.1).2.2.2).length) ((z1.1).2.2.2))++([(0:Int)]))))),(z2.2)))) (zif ((z2.1)==(3:Int)) (zif (decide (((((z1.1).2.2.2).length:Nat):Int)>(0:Int))) (((Qh (z2.2))∧(((0:Int)≤(0:Int)∧Int.toNat (0:Int)<((z1.1).2.2.2).length)∧((0+(Int.toNat (0:Int)))<((z1.1).2.2.2).length)))∧K (Zt (((z1.1).1,(z1.1).2.1,(z1.1).2.2.1,(List.take (((z1.1).2.2.2).length) (List.drop 0 (((z1.1).2.2.2).set (0+(Int.toNat (0:Int))) ((Jz (z2.2)).1))))),((Jz (z2.2)).2)))) (K (Zt (((z1.1).1,(z1.1).2.1,(z1.1).2.2.1,z3),(z2.2))))) (K (Zt (((z1.1).1,(z1.1).2.1,(z1.1).2.2.1,z3),(z2.2))))))))))):Hold (tawp Qji (1+0) QnK (TQ 1 0 Qmj K) (Qj [(.bx [(.c (.sl [(.int .u8)]) c.1),(.c TI c.2.1),(.c TI c.2.2)])])) :=
 Hold.of (by kernel_rfl) h
theorem QgT (c:((List Int) × Int × Int)) (hp:Qh c):∃ t:TOp' × (((List Int) × Int × Int)),(Qa9 c t)∧TCon Try.prog 187 [(.bx [(.c (.sl [(.int .u8)]) c.1),(.c TI c.2.1),(.c TI c.2.2)])] (Zt t):=by
 refine Zh (tcx (n:=45) (sg:=Qdf.sg) Qq (TOk.cons Ye (TOk.cons QhJ (TOk.cons Qdm (TOk.cons Qnq TOk.nil)))) (by kernel_rfl) (by kernel_rfl) (Qnv (fun r'=>∃ t,(Qa9 c t)∧r'=Zt t) c ?_))
 conv=>zeta
 have b1:=QX c 3 hp
 generalize Qc c 3=r1 at b1 ⊢
 have h1:=b1.1
 have h2:=b1.2.1 (by omega)
 rw [Qi (x:=1+r1.1) (by omega) (by omega)]
 have ho:p_op r1.2 (1+r1.1):=⟨b1.2.2.2,by omega,by omega⟩
 have b2:=Qg6 _ _ ho
 generalize e_op r1.2 (1+r1.1)=r2 at b2 ⊢
 have hl:=b2.2.2.2.2.1
 have hc2:=b2.2.2.2.2.2
 have b3:=(QX r2.2 14 hc2).2.2.2
 generalize Qc r2.2 14=r3 at b3 ⊢
 refine ⟨⟨hp,ho⟩,hc2,fun _=>⟨b3,QB ⟨?_,(QX _ _ b3).2.2.2⟩⟩,fun _=>⟨fun _=>⟨⟨b3,by simp,by simp⟩,QB ⟨?_,(Qbo _ _ ⟨b3,by simp,by simp⟩).2⟩⟩,fun _=>⟨fun _=>⟨⟨.inl rfl,by rw [Yw];omega⟩,QB ⟨?_,b3⟩⟩,fun _=>⟨fun _=>⟨fun hh=>⟨⟨b3,⟨by omega,by simpa using hh⟩,by simpa using hh⟩,QB ⟨?_,Qmo _ b3⟩⟩,fun _=>(QB ⟨?_,b3⟩)⟩,fun _=>(QB ⟨?_,b3⟩)⟩⟩⟩⟩
 all_goals first
  | (simp;omega)
  | omega
  | skip
theorem Qjj (c:((List Int) × Int × Int)) (hp:Qh c):Qa9 c (Js c):=(Classical.epsilon_spec (QgT c hp)).1
theorem QkV (c:((List Int) × Int × Int)) (hp:Qh c):TCon Try.prog 187 [(.bx [(.c (.sl [(.int .u8)]) c.1),(.c TI c.2.1),(.c TI c.2.2)])] (Zt (Js c)):=(Classical.epsilon_spec (QgT c hp)).2
theorem Qku:Qo Try.prog Qdf:=Qs fun x h=>QkV x.1 h
def ZR (t:(List TOp') × (((List Int) × Int × Int))):TRes:=⟨(.a [(.r ctOp 0 0 ((t.1).length))]),[(.sl 76 ctOp true t.1)],[[(zcs [(.int .u8)] t.2.1),(zci t.2.2.1),(zci t.2.2.2)]],true,[]⟩
def QV (x0:((List Int) × Int × Int)):(List TOp') × (((List Int) × Int × Int)):=Classical.epsilon fun t:(List TOp') × (((List Int) × Int × Int))=>(YS x0 t)∧TCon Try.prog 186 [(.bx [(.c (.sl [(.int .u8)]) x0.1),(.c TI x0.2.1),(.c TI x0.2.2)])] (ZR t)
def QcY:TRow:=Qp 186 [(.b [(.sl [(.int .u8)]),TI,TI])] fun x=>(some (Qh x.1),ZR (QV x.1))
def QdA:List TRow:=[Zx,QaX]
def Qgs:TCode :=
 (zsq [(zsq [(.reg [zmv 14 5,zbi 15 .gtr 14 (zki 0)]),(.cond 15 .skip (.exit 0))]),(.block 1 (zsq [(.reg [zmv 18 0,zmv 19 4,zca 20 205 [18,19],zop 6 (.new 76 (z0s ctOp)),zst 6 20 4]),(.reg [zfa 21 3 0,zld 22 21 1,zLd 23 6 4,zop 24 (.bsl 76 ctOp [23]),zop 25 (.app 22 24 76 ctOp),zfa 26 3 0,zst 26 25 1]),(.reg [zfa 27 6 2,zld 28 27 1,zmv 4 28])])),(.reg [zmv 16 5,zbi 17 .sub 16 (zki 1),zmv 5 17])])
def Qf3:List (Nat × Md):=[(0,.b [.d,.d,.d]),(2,.b [.d]),(3,.b [.o 76]),(4,.one .d),(5,.one .d)]
def Qew:TCode :=
 (zsq [(.reg [zLd 29 3 1,zst 2 29 1]),.ret])
def Qkw:TCode :=
 (zsq [(.reg [zop 2 (.new 66 [(.n ctOp)])]),(.reg [zop 7 (.build [(.n ctOp)] []),zop 3 (.new 66 [(.n ctOp)]),zst 3 7 1]),(.reg [zmv 8 0,zca 9 116 [8,(zki 3)],zbi 10 .add (zki 1) 9,zmv 4 10]),(zsq [(.reg [zmv 11 0,zca 12 116 [11,(zki 6)],zbi 13 .add (zki 1) 12,zmv 5 13]),(.block 0 (.loop Qf3 Qgs))]),Qew])
def Qgb:List (ARv × Md):=[(.l 2 1 true,.b [.o 76])]
def QeN:Qd:=TQ 1 0 Qgb K
def QoM:Qd:=Qseq (tawp QdA 1 Qew (QeN K)) (QeN K)
def Qlj:Qd:=Qblk 0 (QoM K)
def QaQ (inn:Int) (n:Int) (c0:List Int) (c1:Int) (c2:Int) (m0:List TOp'):Prop:=Loop QdA 1 Qf3 Qgs (Qlj K) ⟨[(0,(.p 0 0 0)),(2,(.p 1 0 0)),(3,(.p 3 0 0)),(4,(zci inn)),(5,(zci n))],[(0,(.box [(zcs [(.int .u8)] c0),(zci c1),(zci c2)])),(1,(.box [(zcs ctOp ([]))])),(2,(.sl 76 ctOp true m0)),(3,(.box [(.r ctOp 2 0 m0.length)]))],4⟩
theorem QgW (inn:Int) (n:Int) (c0:List Int) (c1:Int) (c2:Int) (m0:List TOp') (h :
 (zif (decide (n>(0:Int))) ((p_op (c0,c1,c2) inn)∧(((m0.length=m0.length∨m0.length+1≤m0.length)∧m0.length+1≤big)∧(QaQ K (((e_op (c0,c1,c2) inn).1).2.2.1) (w64 (n-(1:Int))) (((e_op (c0,c1,c2) inn).2).1) (((e_op (c0,c1,c2) inn).2).2.1) (((e_op (c0,c1,c2) inn).2).2.2) (List.take (m0.length+1) ((List.take m0.length m0)++([(((e_op (c0,c1,c2) inn).1).1,((e_op (c0,c1,c2) inn).1).2.1,((e_op (c0,c1,c2) inn).1).2.2.1,(List.take ((((e_op (c0,c1,c2) inn).1).2.2.2).length) (List.drop 0 (((e_op (c0,c1,c2) inn).1).2.2.2))))])))))) (K (ZR ((List.take m0.length m0),(c0,c1,c2)))))):QaQ K inn n c0 c1 c2 m0 :=
 Loop.of (by kernel_rfl) h
theorem QjU (c:((List Int) × Int × Int)) (h :
 ((QI c (3:Int))∧((QI ((Qc c (3:Int)).2) (6:Int))∧(QaQ K (w64 ((1:Int)+((Qc c (3:Int)).1))) (w64 ((1:Int)+((Qc ((Qc c (3:Int)).2) (6:Int)).1))) (((Qc ((Qc c (3:Int)).2) (6:Int)).2).1) (((Qc ((Qc c (3:Int)).2) (6:Int)).2).2.1) (((Qc ((Qc c (3:Int)).2) (6:Int)).2).2.2) ([]:List TOp'))))):Hold (tawp QdA (1+0) Qkw (TQ 1 0 Qgb K) (Qj [(.bx [(.c (.sl [(.int .u8)]) c.1),(.c TI c.2.1),(.c TI c.2.2)])])) :=
 Hold.of (by kernel_rfl) h
theorem Qf4 (c:((List Int) × Int × Int)) (hp:Qh c):∃ t:(List TOp') × (((List Int) × Int × Int)),(YS c t)∧TCon Try.prog 186 [(.bx [(.c (.sl [(.int .u8)]) c.1),(.c TI c.2.1),(.c TI c.2.2)])] (ZR t):=by
 refine Zh (tcx (n:=30) (sg:=QcY.sg) Qq (TOk.cons Ye (TOk.cons QhJ TOk.nil)) (by kernel_rfl) (by kernel_rfl) (QjU (fun r'=>∃ t,(YS c t)∧r'=ZR t) c ?_))
 have b1:=QX c 3 hp
 generalize Qc c 3=r1 at b1 ⊢
 have b2:=QX r1.2 6 b1.2.2.2
 generalize Qc r1.2 6=r2 at b2 ⊢
 have h1:=b1.1
 have h2:=b1.2.1 (by omega)
 have h3:=b2.1
 have h4:=b2.2.1 (by omega)
 rw [Qi (x:=1+r1.1) (by omega) (by omega),Qi (x:=1+r2.1) (by omega) (by omega)]
 refine ⟨hp,b1.2.2.2,?_⟩
 have key:∀ (k:Nat) (inn c1 c2:Int) (c0:List Int) (m0:Qw),Qh (c0,c1,c2)→1≤inn→inn≤3→m0.length+k≤6→1≤m0.length+k→Q0 none m0=true→Qbz none m0 inn=true→QaQ (fun r'=>∃ t,(YS c t)∧r'=ZR t) inn (k:Int) c0 c1 c2 m0:=by
  intro k
  induction k with
  | zero =>
   intro inn c1 c2 c0 m0 hc k1 k2 k3 k4 k5 k6
   refine QgW (fun r'=>∃ t,(YS c t)∧r'=ZR t) _ _ _ _ _ _ ⟨fun h=>by simp at h,fun _=>(QB ⟨?_,?_,hc⟩)⟩
   ·simp only [List.take_length,Qn,Bool.and_eq_true,QP]
    exact ⟨by omega,k5⟩
   ·simp only [List.take_length];omega
  | succ k ih =>
   intro inn c1 c2 c0 m0 hc k1 k2 k3 k4 k5 k6
   have ho:p_op (c0,c1,c2) inn:=⟨hc,k1,k2⟩
   have b:=Qg6 _ _ ho
   refine QgW (fun r'=>∃ t,(YS c t)∧r'=ZR t) _ _ _ _ _ _ ⟨fun _=>⟨ho,⟨.inl rfl,by rw [Yw];omega⟩,?_⟩,fun h=>by simp at h <;> omega⟩
   rw [JL,Qi (x:=((k+1:Nat):Int)-1) (by omega) (by omega),show ((k+1:Nat):Int)-1=k by omega]
   refine ih _ _ _ _ _ b.2.2.2.2.2 b.2.2.1 b.2.2.2.1 (by simp;omega) (by simp;omega) (Qgn _ _ _ k5 ?_ ?_) ?_
   ·simp only [List.drop_zero,List.take_length];exact b.1
   ·rw [show (((e_op (c0,c1,c2) inn).1.1,(e_op (c0,c1,c2) inn).1.2.1,(e_op (c0,c1,c2) inn).1.2.2.1,List.take (e_op (c0,c1,c2) inn).1.2.2.2.length (List.drop 0 (e_op (c0,c1,c2) inn).1.2.2.2)):TOp').2.1=inn from b.2.1]
    exact k6
   ·exact Qi1 _ _ _
 have h:=key (1+r2.1).toNat (1+r1.1) r2.2.2.1 r2.2.2.2 r2.2.1 [] b2.2.2.2 (by omega) (by omega) (by simp;omega) (by simp;omega) rfl rfl
 rw [Int.toNat_of_nonneg (by omega)] at h
 exact h
theorem Qj8 (c:((List Int) × Int × Int)) (hp:Qh c):YS c (QV c):=(Classical.epsilon_spec (Qf4 c hp)).1
theorem Qnp (c:((List Int) × Int × Int)) (hp:Qh c):TCon Try.prog 186 [(.bx [(.c (.sl [(.int .u8)]) c.1),(.c TI c.2.1),(.c TI c.2.2)])] (ZR (QV c)):=(Classical.epsilon_spec (Qf4 c hp)).2
theorem QmJ:Qo Try.prog QcY:=Qs fun x h=>Qnp x.1 h
def Zj (t:(List TOp') × (((List Int) × Int × Int))):TRes:=⟨(.a [(zcs ctOp t.1)]),[],[[(zcs [(.int .u8)] t.2.1),(zci t.2.2.1),(zci t.2.2.2)]],true,[]⟩
def Jq (x0:((List Int) × Int × Int)):(List TOp') × (((List Int) × Int × Int)):=Classical.epsilon fun t:(List TOp') × (((List Int) × Int × Int))=>(YA x0 t)∧TCon Try.prog 131 [(.bx [(.c (.sl [(.int .u8)]) x0.1),(.c TI x0.2.1),(.c TI x0.2.2)])] (Zj t)
def QcD:TRow:=Qp 131 [(.b [(.sl [(.int .u8)]),TI,TI])] fun x=>(some (Qh x.1),Zj (Jq x.1))
def QdQ:List TRow:=[QcY,Zx,Qdf]
def QgX:TCode :=
 (zsq [(zsq [(.draw [zfa 31 3 0,zld 32 31 1,zle 33 32,zmv 34 0,zca 35 116 [34,(zki 2)],zbi 36 .add (zki 8) 35,zbi 37 .lss 33 36] [(0,4),(1,4),(2,4)]),(.cond 37 .skip (.exit 1))]),(.block 2 (.draw [zfa 38 3 0,zld 39 38 1,zfa 40 3 0,zld 41 40 1,zfa 42 3 0,zld 43 42 1,zle 44 43,zbi 45 .sub 44 (zki 1),zia 46 41 45 ctOp,zfa 47 46 2,zld 48 47 1,zfa 49 3 0,zld 50 49 1,zfa 51 3 0,zld 52 51 1,zle 53 52,zbi 54 .sub 53 (zki 1),zia 55 50 54 ctOp,zfa 56 55 2,zld 57 56 1,zop 58 (.build (z0s ctOp) [(0,1,(zki 3)),(1,1,48),(2,1,57)]),zop 59 (.bsl 76 ctOp [58]),zop 60 (.app 39 59 76 ctOp),zfa 61 3 0,zst 61 60 1] [(0,21),(1,21)]))])
def QfQ:List (Nat × Md):=[(0,.b [.d,.d,.d]),(2,.b [.d]),(3,.b [.f])]
def QeX:TCode :=
 (zsq [(.reg [zLd 62 3 1,zst 2 62 1]),.ret])
def QkH:TCode :=
 (zsq [(.reg [zop 2 (.new 66 [(.n ctOp)])]),(.reg [zmv 5 0,zca 6 186 [5],zop 3 (.new 66 [(.n ctOp)]),zst 3 6 1]),(.reg [zmv 7 0,zfa 8 3 0,zld 9 8 1,zle 10 9,zca 11 116 [7,10],zmv 4 11]),(zsq [(.reg [zmv 12 0,zca 13 116 [12,(zki 16)]]),(.block 0 (zsq [(.reg [zbi 15 .eql 13 (zki 0),zmv 14 15]),(.cond 14 (.draw [zfa 16 3 0,zld 17 16 1,zmv 18 4,zmv 19 0,zca 20 187 [19],zia 21 17 18 ctOp,zst 21 20 4] [(0,4),(1,4)]) (zsq [(.reg [zbi 23 .eql 13 (zki 1),zmv 22 23]),(.cond 22 (.reg [zfa 24 3 0,zld 25 24 1,zmv 26 4,zop 27 (.slc 25 none (some 26) ctOp),zfa 28 3 0,zst 28 27 1]) (zsq [(.reg [zbi 30 .eql 13 (zki 2),zmv 29 30]),(.cond 29 (.block 1 (.loop QfQ QgX)) .skip)]))]))]))]),QeX])
def Qif:List (ARv × Md):=[(.l 2 1 true,.b [.d])]
def Qg4:Qd:=TQ 1 0 Qif K
def Qml:Qd:=Qseq (tawp QdQ 1 QeX (Qg4 K)) (Qg4 K)
def QjW:Qd:=Qblk 0 (Qml K)
def QmV:Qd:=Qblk 1 (QjW K)
def QaZ (c0:List Int) (c1:Int) (c2:Int) (m0:List TOp'):Prop:=Loop QdQ 1 QfQ QgX (QmV K) ⟨[(0,(.p 0 0 0)),(2,(.p 1 0 0)),(3,(.p 3 0 0))],[(0,(.box [(zcs [(.int .u8)] c0),(zci c1),(zci c2)])),(1,(.box [(zcs ctOp ([]))])),(2,(.sl 76 ctOp true m0)),(3,(.box [(.r ctOp 2 0 m0.length)]))],4⟩
theorem QgA (c0:List Int) (c1:Int) (c2:Int) (m0:List TOp') (h :
 ((QI (c0,c1,c2) (2:Int))∧(zif (decide (((m0.length:Nat):Int)<(w64 ((8:Int)+((Qc (c0,c1,c2) (2:Int)).1))))) ((((0:Int)≤w64 (((m0.length:Nat):Int)-(1:Int))∧Int.toNat (w64 (((m0.length:Nat):Int)-(1:Int)))<m0.length)∧(((0+(Int.toNat (w64 (((m0.length:Nat):Int)-(1:Int)))))<m0.length)∧(((0:Int)≤w64 (((m0.length:Nat):Int)-(1:Int))∧Int.toNat (w64 (((m0.length:Nat):Int)-(1:Int)))<m0.length)∧(((0+(Int.toNat (w64 (((m0.length:Nat):Int)-(1:Int)))))<m0.length)∧((m0.length=m0.length∨m0.length+1≤m0.length)∧m0.length+1≤big)))))∧(QaZ K (((Qc (c0,c1,c2) (2:Int)).2).1) (((Qc (c0,c1,c2) (2:Int)).2).2.1) (((Qc (c0,c1,c2) (2:Int)).2).2.2) (List.take (m0.length+1) ((List.take m0.length m0)++([((3:Int),(gtd dOp m0 (0+(Int.toNat (w64 (((m0.length:Nat):Int)-(1:Int)))))).2.2.1,(gtd dOp m0 (0+(Int.toNat (w64 (((m0.length:Nat):Int)-(1:Int)))))).2.2.1,[])]))))) (K (Zj ((List.take m0.length (List.drop 0 m0)),((Qc (c0,c1,c2) (2:Int)).2))))))):QaZ K c0 c1 c2 m0 :=
 Loop.of (by kernel_rfl) h
theorem QjP (c:((List Int) × Int × Int)) (h :
 let z1:=Qc ((QV c).2) ((((QV c).1).length:Nat):Int)
 let z2:=Qc (z1.2) (16:Int)
 ((Qh c)∧((QI ((QV c).2) ((((QV c).1).length:Nat):Int))∧((QI (z1.2) (16:Int))∧(zif ((z2.1)==(0:Int)) (((Qh (z2.2))∧(((0:Int)≤z1.1∧Int.toNat (z1.1)<((QV c).1).length)∧((0+(Int.toNat (z1.1)))<((QV c).1).length)))∧K (Zj ((List.take (((QV c).1).length) (List.drop 0 (((QV c).1).set (0+(Int.toNat (z1.1))) ((Js (z2.2)).1)))),((Js (z2.2)).2)))) (zif ((z2.1)==(1:Int)) (((0:Int)≤(0:Int)∧(0:Int)≤z1.1∧z1.1≤((((QV c).1).length:Nat):Int))∧K (Zj ((List.take (Int.toNat (z1.1)-Int.toNat (0:Int)) (List.drop 0 ((QV c).1))),(z2.2)))) (zif ((z2.1)==(2:Int)) (QaZ K ((z2.2).1) ((z2.2).2.1) ((z2.2).2.2) (List.take (((QV c).1).length) ((QV c).1))) (K (Zj ((List.take (((QV c).1).length) (List.drop 0 ((QV c).1))),(z2.2))))))))))):Hold (tawp QdQ (1+0) QkH (TQ 1 0 Qif K) (Qj [(.bx [(.c (.sl [(.int .u8)]) c.1),(.c TI c.2.1),(.c TI c.2.2)])])) :=
 Hold.of (by kernel_rfl) h
theorem Qea (c:((List Int) × Int × Int)) (hp:Qh c):∃ t:(List TOp') × (((List Int) × Int × Int)),(YA c t)∧TCon Try.prog 131 [(.bx [(.c (.sl [(.int .u8)]) c.1),(.c TI c.2.1),(.c TI c.2.2)])] (Zj t):=by
 refine Zh (tcx (n:=63) (sg:=QcD.sg) Qq (TOk.cons QmJ (TOk.cons Ye (TOk.cons Qku TOk.nil))) (by kernel_rfl) (by kernel_rfl) (QjP (fun r'=>∃ t,(YA c t)∧r'=Zj t) c ?_))
 conv=>zeta
 have b1:=Qj8 c hp
 generalize QV c=r1 at b1 ⊢
 obtain ⟨k1,k2,k3⟩:=b1
 have k4:1≤r1.1.length:=by
  simp only [Qn,Bool.and_eq_true,QP] at k1
  omega
 have b2:=QX r1.2 r1.1.length k3
 generalize Qc r1.2 r1.1.length=r2 at b2 ⊢
 have h1:=b2.1
 have h2:=b2.2.1 (by omega)
 have b3:=(QX r2.2 16 b2.2.2.2).2.2.2
 generalize Qc r2.2 16=r3 at b3 ⊢
 refine ⟨hp,k3,b2.2.2.2,fun _=>⟨⟨b3,⟨h1,by omega⟩,by omega⟩,QB ⟨?_,(Qjj _ b3).2⟩⟩,fun _=>⟨fun _=>⟨⟨by omega,by omega,by omega⟩,QB ⟨?_,b3⟩⟩,fun _=>⟨fun _=>?_,fun _=>(QB ⟨?_,b3⟩)⟩⟩⟩
 ·simp;omega
 ·simp;omega
 ·rw [List.take_length]
  have key:∀ (k:Nat) (c1 c2:Int) (c0:List Int) (m0:Qw),Qh (c0,c1,c2)→1≤m0.length→m0.length+k=9→QaZ (fun r'=>∃ t,(YA c t)∧r'=Zj t) c0 c1 c2 m0:=by
   intro k
   induction k with
   | zero =>
    intro c1 c2 c0 m0 hc q1 q2
    have b:=QX (c0,c1,c2) 2 hc
    have q3:=b.1
    have q4:=b.2.1 (by omega)
    refine QgA (fun r'=>∃ t,(YA c t)∧r'=Zj t) _ _ _ _ ⟨hc,fun h=>?_,fun _=>(QB ⟨?_,b.2.2.2⟩)⟩
    ·rw [Qi (x:=8+_) (by omega) (by omega)] at h
     simp at h;omega
    ·simp;omega
   | succ k ih =>
    intro c1 c2 c0 m0 hc q1 q2
    have b:=QX (c0,c1,c2) 2 hc
    refine QgA (fun r'=>∃ t,(YA c t)∧r'=Zj t) _ _ _ _ ⟨hc,fun _=>?_,fun _=>(QB ⟨?_,b.2.2.2⟩)⟩
    ·rw [Qi (x:=(m0.length:Int)-1) (by omega) (by omega)]
     refine ⟨⟨⟨by omega,by omega⟩,by omega,⟨by omega,by omega⟩,by omega,.inl rfl,by rw [Yw];omega⟩,?_⟩
     rw [JL]
     exact ih _ _ _ _ b.2.2.2 (by simp) (by simp;omega)
    ·simp;omega
  exact key (9-r1.1.length) _ _ _ _ b3 k4 (by omega)
 ·simp;omega
theorem QnN (c:((List Int) × Int × Int)) (hp:Qh c):YA c (Jq c):=(Classical.epsilon_spec (Qea c hp)).1
theorem Qlh (c:((List Int) × Int × Int)) (hp:Qh c):TCon Try.prog 131 [(.bx [(.c (.sl [(.int .u8)]) c.1),(.c TI c.2.1),(.c TI c.2.2)])] (Zj (Jq c)):=(Classical.epsilon_spec (Qea c hp)).2
theorem QpE:Qo Try.prog QcD:=Qs fun x h=>Qlh x.1 h
end
end Go.Proofs.Ytephkbajoofeoaa.Am

