/- -/
import Derived.Test.YtephkbajoofeoaaYCD1
import Derived.Test.YtephkbajoofeoaaYCP4
namespace Go.Proofs.Ytephkbajoofeoaa.Am
open Go Go.RowKit Go.Proofs.Ytephkbajoofeoaa
set_option linter.all false
set_option maxHeartbeats 2000000
noncomputable section
variable (K:TRes→Prop)
def ZY (t:Int × (((List Int) × Int × Int))):TRes:=⟨(zci t.1),[],[[(zcs [(.int .u8)] t.2.1),(zci t.2.2.1),(zci t.2.2.2)]],true,[]⟩
def ZZ (x0:((List Int) × Int × Int)):Int × (((List Int) × Int × Int)):=Classical.epsilon fun t:Int × (((List Int) × Int × Int))=>(Qbp x0 t)∧TCon Try.prog 204 [(.bx [(.c (.sl [(.int .u8)]) x0.1),(.c TI x0.2.1),(.c TI x0.2.2)])] (ZY t)
def Qbi:TRow:=Qr 204 [(.b [(.sl [(.int .u8)]),TI,TI])] fun x=>(some (Qf x.1),ZY (ZZ x.1))
def QnT:List TRow:=[ZA,JW]
def Qiu:TCode :=
 (zsq [(.reg [zmv 2 (zki 0)]),(zsq [(.reg [zmv 3 0,zca 4 116 [3,(zki 12)]]),(.block 0 (zsq [(.reg [zbi 6 .eql 4 (zki 0),zmv 5 6]),(.cond 5 (zsq [(.reg [zmv 7 0,zop 8 (.bsl 3 [TI] [(zki 2147483647),(zki (-2147483647)),(zki 2147483646),(zki 1),(zki (-1)),(zki 0)]),zca 9 182 [7,8],zmv 2 9]),.ret]) (zsq [(.reg [zbi 11 .eql 4 (zki 1),zmv 10 11]),(.cond 10 (zsq [(.reg [zmv 12 0,zca 13 116 [12,(zki 4000)],zbi 14 .sub 13 (zki 2000),zbi 15 .mul 14 (zki 997),zmv 2 15]),.ret]) (zsq [(.reg [zbi 17 .eql 4 (zki 2),zmv 16 17]),(.cond 16 (zsq [(.reg [zmv 18 0,zca 19 116 [18,(zki 9)],zbi 20 .sub 19 (zki 4),zmv 2 20]),.ret]) .skip)]))]))]))]),(.reg [zmv 21 0,zca 22 116 [21,(zki 17)],zbi 23 .sub 22 (zki 8),zbi 24 .mul 23 (zki 65536),zmv 25 0,zop 26 (.bsl 3 [TI] [(zki 1),(zki 1),(zki 2),(zki 4),(zki 3)]),zca 27 182 [25,26],zbi 28 .quo 24 27,zmv 2 28]),.ret])
def Qj4:List (ARv × Md):=[(.t 2,.one .d)]
theorem QkV (c:((List Int) × Int × Int)) (h :
 ((QD c (12:Int))∧(zif (((Qc c (12:Int)).1)==(0:Int)) ((Zv ((Qc c (12:Int)).2) ([(2147483647:Int),(-2147483647:Int),(2147483646:Int),(1:Int),(-1:Int),(0:Int)]))∧K (ZY ((Zg ((Qc c (12:Int)).2) ([(2147483647:Int),(-2147483647:Int),(2147483646:Int),(1:Int),(-1:Int),(0:Int)])).1,((Zg ((Qc c (12:Int)).2) ([(2147483647:Int),(-2147483647:Int),(2147483646:Int),(1:Int),(-1:Int),(0:Int)])).2)))) (zif (((Qc c (12:Int)).1)==(1:Int)) ((QD ((Qc c (12:Int)).2) (4000:Int))∧K (ZY (w64 ((w64 (((Qc ((Qc c (12:Int)).2) (4000:Int)).1)-(2000:Int)))*(997:Int)),((Qc ((Qc c (12:Int)).2) (4000:Int)).2)))) (zif (((Qc c (12:Int)).1)==(2:Int)) ((QD ((Qc c (12:Int)).2) (9:Int))∧K (ZY (w64 (((Qc ((Qc c (12:Int)).2) (9:Int)).1)-(4:Int)),((Qc ((Qc c (12:Int)).2) (9:Int)).2)))) (((QD ((Qc c (12:Int)).2) (17:Int))∧((Zv ((Qc ((Qc c (12:Int)).2) (17:Int)).2) ([(1:Int),(1:Int),(2:Int),(4:Int),(3:Int)]))∧(¬ ((Zg ((Qc ((Qc c (12:Int)).2) (17:Int)).2) ([(1:Int),(1:Int),(2:Int),(4:Int),(3:Int)])).1:Int)=0)))∧K (ZY (w64 (Int.tdiv (w64 ((w64 (((Qc ((Qc c (12:Int)).2) (17:Int)).1)-(8:Int)))*(65536:Int))) ((Zg ((Qc ((Qc c (12:Int)).2) (17:Int)).2) ([(1:Int),(1:Int),(2:Int),(4:Int),(3:Int)])).1)),((Zg ((Qc ((Qc c (12:Int)).2) (17:Int)).2) ([(1:Int),(1:Int),(2:Int),(4:Int),(3:Int)])).2))))))))):Hold (tawp QnT (1+0) Qiu (TQ 1 0 Qj4 K) (Ql [(.bx [(.c (.sl [(.int .u8)]) c.1),(.c TI c.2.1),(.c TI c.2.2)])])) :=
 Hold.of (by kernel_rfl) h
theorem Qf2 (c:((List Int) × Int × Int)) (hp:Qf c):∃ t:Int × (((List Int) × Int × Int)),(Qbp c t)∧TCon Try.prog 204 [(.bx [(.c (.sl [(.int .u8)]) c.1),(.c TI c.2.1),(.c TI c.2.2)])] (ZY t):=by
 refine Q6 (tcx (n:=29) (sg:=Qbi.sg) Qv (TOk.cons Yg (TOk.cons QbE TOk.nil)) (by kernel_rfl) (by kernel_rfl) (QkV (fun r'=>∃ t,(Qbp c t)∧r'=ZY t) c ?_))
 have b1:=QW c 12 hp
 generalize Qc c 12=r at b1 ⊢
 have hc:Qf r.2:=b1.2.2.2
 refine ⟨hp,fun _=>?_,fun _=>⟨fun _=>?_,fun _=>⟨fun _=>?_,fun _=>?_⟩⟩⟩
 ·have hpp:Zv r.2 [2147483647,-2147483647,2147483646,1,-1,0]:=⟨hc,by simp,by simp⟩
  have b2:=Qab _ _ hpp
  refine ⟨hpp,Qx ⟨?_,b2.2⟩⟩
  have b3:=b2.1
  simp only [List.mem_cons,List.not_mem_nil,or_false] at b3
  simp only [QU,Bool.and_eq_true,decide_eq_true_eq]
  omega
 ·have b2:=QW r.2 4000 hc
  refine ⟨hc,Qx ⟨?_,b2.2.2.2⟩⟩
  have h1:=b2.1
  have h2:=b2.2.1 (by omega)
  rw [Qk (x:=_-2000) (by omega) (by omega),Qk (by omega) (by omega)]
  simp only [QU,Bool.and_eq_true,decide_eq_true_eq]
  omega
 ·have b2:=QW r.2 9 hc
  refine ⟨hc,Qx ⟨?_,b2.2.2.2⟩⟩
  have h1:=b2.1
  have h2:=b2.2.1 (by omega)
  rw [Qk (by omega) (by omega)]
  simp only [QU,Bool.and_eq_true,decide_eq_true_eq]
  omega
 ·have b2:=QW r.2 17 hc
  have hpp:Zv (Qc r.2 17).2 [1,1,2,4,3]:=⟨b2.2.2.2,by simp,by simp⟩
  have b3:=Qab _ _ hpp
  have b4:=b3.1
  simp only [List.mem_cons,List.not_mem_nil,or_false] at b4
  have h1:=b2.1
  have h2:=b2.2.1 (by omega)
  refine ⟨⟨hc,hpp,by omega⟩,Qx ⟨?_,b3.2⟩⟩
  have h3:=Qnb (a:=((Qc r.2 17).1-8)*65536) (b:=(Zg (Qc r.2 17).2 [1,1,2,4,3]).1) (B:=1000000) (by omega) (by omega) (by omega)
  rw [Qk (x:=_-8) (by omega) (by omega),Qk (x:=_*65536) (by omega) (by omega),Qk (by omega) (by omega)]
  simp only [QU,Bool.and_eq_true,decide_eq_true_eq]
  omega
theorem QeK (c:((List Int) × Int × Int)) (hp:Qf c):Qbp c (ZZ c):=(Classical.epsilon_spec (Qf2 c hp)).1
theorem Qly (c:((List Int) × Int × Int)) (hp:Qf c):TCon Try.prog 204 [(.bx [(.c (.sl [(.int .u8)]) c.1),(.c TI c.2.1),(.c TI c.2.2)])] (ZY (ZZ c)):=(Classical.epsilon_spec (Qf2 c hp)).2
theorem Qew:Qq Try.prog Qbi:=Qy fun x h=>Qly x.1 h
def YU (t:Int × (((List Int) × Int × Int))):TRes:=⟨(zci t.1),[],[[(zcs [(.int .u8)] t.2.1),(zci t.2.2.1),(zci t.2.2.2)]],true,[]⟩
def JG (x0:((List Int) × Int × Int)):Int × (((List Int) × Int × Int)):=Classical.epsilon fun t:Int × (((List Int) × Int × Int))=>(Qa1 x0 t)∧TCon Try.prog 184 [(.bx [(.c (.sl [(.int .u8)]) x0.1),(.c TI x0.2.1),(.c TI x0.2.2)])] (YU t)
def Qbu:TRow:=Qr 184 [(.b [(.sl [(.int .u8)]),TI,TI])] fun x=>(some (Qf x.1),YU (JG x.1))
def Ql0:List TRow:=[J2,JW,Qbi]
def Qie:TCode :=
 (zsq [(.reg [zmv 2 (zki 0)]),(zsq [(.reg [zmv 3 0,zca 4 136 [3,(zki 8)]]),(.cond 4 (zsq [(.reg [zmv 5 0,zop 6 (.bsl 3 [TI] [(zki 2147483648),(zki (-2147483648)),(zki 9223372036854775807),(zki (-9223372036854775807))]),zca 7 182 [5,6],zmv 2 7]),.ret]) .skip)]),(.reg [zmv 8 0,zca 9 204 [8],zmv 2 9]),.ret])
def QnJ:List (ARv × Md):=[(.t 2,.one .d)]
theorem Qk8 (c:((List Int) × Int × Int)) (h :
 ((QD c (8:Int))∧(zif ((QJ c (8:Int)).1) ((Zv ((QJ c (8:Int)).2) ([(2147483648:Int),(-2147483648:Int),(9223372036854775807:Int),(-9223372036854775807:Int)]))∧K (YU ((Zg ((QJ c (8:Int)).2) ([(2147483648:Int),(-2147483648:Int),(9223372036854775807:Int),(-9223372036854775807:Int)])).1,((Zg ((QJ c (8:Int)).2) ([(2147483648:Int),(-2147483648:Int),(9223372036854775807:Int),(-9223372036854775807:Int)])).2)))) ((Qf ((QJ c (8:Int)).2))∧K (YU ((ZZ ((QJ c (8:Int)).2)).1,((ZZ ((QJ c (8:Int)).2)).2))))))):Hold (tawp Ql0 (1+0) Qie (TQ 1 0 QnJ K) (Ql [(.bx [(.c (.sl [(.int .u8)]) c.1),(.c TI c.2.1),(.c TI c.2.2)])])) :=
 Hold.of (by kernel_rfl) h
theorem QfY (c:((List Int) × Int × Int)) (hp:Qf c):∃ t:Int × (((List Int) × Int × Int)),(Qa1 c t)∧TCon Try.prog 184 [(.bx [(.c (.sl [(.int .u8)]) c.1),(.c TI c.2.1),(.c TI c.2.2)])] (YU t):=by
 refine Q6 (tcx (n:=10) (sg:=Qbu.sg) Qv (TOk.cons Qdr (TOk.cons QbE (TOk.cons Qew TOk.nil))) (by kernel_rfl) (by kernel_rfl) (Qk8 (fun r'=>∃ t,(Qa1 c t)∧r'=YU t) c ?_))
 have b1:=Qdf c 8 hp
 generalize QJ c 8=r at b1 ⊢
 have hpp:Zv r.2 [2147483648,-2147483648,9223372036854775807,-9223372036854775807]:=⟨b1,by simp,by simp⟩
 exact ⟨hp,fun _=>⟨hpp,Qx ((Qab _ _ hpp).2)⟩,fun _=>⟨b1,Qx ((QeK _ b1).2)⟩⟩
theorem Qnh (c:((List Int) × Int × Int)) (hp:Qf c):Qa1 c (JG c):=(Classical.epsilon_spec (QfY c hp)).1
theorem Qlq (c:((List Int) × Int × Int)) (hp:Qf c):TCon Try.prog 184 [(.bx [(.c (.sl [(.int .u8)]) c.1),(.c TI c.2.1),(.c TI c.2.2)])] (YU (JG c)):=(Classical.epsilon_spec (QfY c hp)).2
theorem QkN:Qq Try.prog Qbu:=Qy fun x h=>Qlq x.1 h
def ZP (t:(List Int) × (((List Int) × Int × Int))):TRes:=⟨(.r [TI] 0 0 ((t.1).length)),[(.sl 3 [TI] true t.1)],[[(zcs [(.int .u8)] t.2.1),(zci t.2.2.1),(zci t.2.2.2)]],true,[]⟩
def Y9 (x0:((List Int) × Int × Int)) (x1:Int):(List Int) × (((List Int) × Int × Int)):=Classical.epsilon fun t:(List Int) × (((List Int) × Int × Int))=>(YT x0 x1 t)∧TCon Try.prog 181 [(.bx [(.c (.sl [(.int .u8)]) x0.1),(.c TI x0.2.1),(.c TI x0.2.2)]),(.c TI x1)] (ZP t)
def Qbq:TRow:=Qr 181 [(.b [(.sl [(.int .u8)]),TI,TI]),(.c TI)] fun x=>(some (Y4 x.1 x.2.1),ZP (Y9 x.1 x.2.1))
def Qc6:List TRow:=[Qbi]
def Qex:TCode :=
 (zsq [(zsq [(.reg [zmv 8 6,zmv 9 1,zbi 10 .lss 8 9]),(.cond 10 .skip (.exit 0))]),(.block 1 (.reg [zmv 13 5,zmv 14 0,zca 15 204 [14],zop 16 (.bsl 3 [TI] [15]),zop 17 (.app 13 16 3 [TI]),zmv 5 17])),(.reg [zmv 11 6,zbi 12 .add 11 (zki 1),zmv 6 12])])
def QhU:List (Nat × Md):=[(0,.b [.d,.d,.d]),(1,.one .d),(5,.one .f),(6,.one .d)]
def QfK:TCode :=
 (zsq [(.reg [zmv 18 5,zmv 4 18]),.ret])
def Qky:TCode :=
 (zsq [(.reg [zmv 4 (.k (.n [TI]))]),(.reg [zop 7 (.bsl 3 [TI] []),zmv 5 7]),(zsq [(.reg [zmv 6 (zki 0)]),(.block 0 (.loop QhU Qex))]),QfK])
def Qg8:List (ARv × Md):=[(.t 4,.one (.o 3))]
def Qhf:Qd:=TQ 1 0 Qg8 K
def Qmo:Qd:=Qseq (tawp Qc6 1 QfK (Qhf K)) (Qhf K)
def Qjn:Qd:=Qblk 0 (Qmo K)
def QaF (n:Int) (i:Int) (c0:List Int) (c1:Int) (c2:Int) (out:List Int):Prop:=Loop Qc6 1 QhU Qex (Qjn K) ⟨[(0,(.p 0 0 0)),(1,(zci n)),(5,(.r [TI] 1 0 out.length)),(6,(zci i))],[(0,(.box [(zcs [(.int .u8)] c0),(zci c1),(zci c2)])),(1,(.sl 3 [TI] true out))],2⟩
theorem Qdz (n:Int) (i:Int) (c0:List Int) (c1:Int) (c2:Int) (out:List Int) (h :
 (zif (decide (i<n)) (((Qf (c0,c1,c2))∧((out.length=out.length∨out.length+1≤out.length)∧out.length+1≤big))∧(QaF K n (w64 (i+(1:Int))) (((ZZ (c0,c1,c2)).2).1) (((ZZ (c0,c1,c2)).2).2.1) (((ZZ (c0,c1,c2)).2).2.2) (List.take (out.length+1) ((List.take out.length out)++([(ZZ (c0,c1,c2)).1]))))) (K (ZP ((List.take out.length out),(c0,c1,c2)))))):QaF K n i c0 c1 c2 out :=
 Loop.of (by kernel_rfl) h
theorem Qkc (c:((List Int) × Int × Int)) (n:Int) (h :
 (QaF K n 0 c.1 c.2.1 c.2.2 ([]:List Int))):Hold (tawp Qc6 (1+0) Qky (TQ 1 0 Qg8 K) (Ql [(.bx [(.c (.sl [(.int .u8)]) c.1),(.c TI c.2.1),(.c TI c.2.2)]),(.c TI n)])) :=
 Hold.of (by kernel_rfl) h
theorem QdP (c:((List Int) × Int × Int)) (n:Int) (hp:Y4 c n):∃ t:(List Int) × (((List Int) × Int × Int)),(YT c n t)∧TCon Try.prog 181 [(.bx [(.c (.sl [(.int .u8)]) c.1),(.c TI c.2.1),(.c TI c.2.2)]),(.c TI n)] (ZP t):=by
 refine Q6 (tcx (n:=19) (sg:=Qbq.sg) Qv (TOk.cons Qew TOk.nil) (by kernel_rfl) (by kernel_rfl) (Qkc (fun r'=>∃ t,(YT c n t)∧r'=ZP t) c n ?_))
 obtain ⟨h1,h2⟩:=hp
 refine Jf n.toNat (fun k=>∀ (c0:List Int) (c1 c2:Int) (out:List Int),out.length=k→Q8 out=true→Qf (c0,c1,c2)→QaF (fun r'=>∃ t,(YT c n t)∧r'=ZP t) n (k:Int) c0 c1 c2 out) ?_ ?_ c.1 c.2.1 c.2.2 [] rfl rfl h1
 ·intro c0 c1 c2 out hl hf hc
  refine Qdz (fun r'=>∃ t,(YT c n t)∧r'=ZP t) n _ _ _ _ _ ⟨fun h=>by simp at h;omega,fun _=>(Qx ⟨?_,?_,hc⟩)⟩
  ·simp;omega
  ·simp only [List.take_length];exact hf
 ·intro k hk ih c0 c1 c2 out hl hf hc
  have b:=QeK (c0,c1,c2) hc
  refine Qdz (fun r'=>∃ t,(YT c n t)∧r'=ZP t) n _ _ _ _ _ ⟨fun _=>⟨⟨hc,.inl rfl,by rw [Je];omega⟩,?_⟩,fun h=>by simp at h;omega⟩
  rw [sc1 (by omega),Qa7]
  exact ih _ _ _ _ (by simp;omega) (Qnr hf b.1) b.2
theorem QiX (c:((List Int) × Int × Int)) (n:Int) (hp:Y4 c n):YT c n (Y9 c n):=(Classical.epsilon_spec (QdP c n hp)).1
theorem Qi6 (c:((List Int) × Int × Int)) (n:Int) (hp:Y4 c n):TCon Try.prog 181 [(.bx [(.c (.sl [(.int .u8)]) c.1),(.c TI c.2.1),(.c TI c.2.2)]),(.c TI n)] (ZP (Y9 c n)):=(Classical.epsilon_spec (QdP c n hp)).2
theorem Qni:Qq Try.prog Qbq:=Qy fun x h=>Qi6 x.1 x.2.1 h
def Yl (t:TOp' × (((List Int) × Int × Int))):TRes:=⟨(.a [(zci t.1.1),(zci t.1.2.1),(zci t.1.2.2.1),(.r [TI] 0 0 ((t.1.2.2.2).length))]),[(.sl 3 [TI] true t.1.2.2.2)],[[(zcs [(.int .u8)] t.2.1),(zci t.2.2.1),(zci t.2.2.2)]],true,[]⟩
def e_op (x0:((List Int) × Int × Int)) (x1:Int):TOp' × (((List Int) × Int × Int)):=Classical.epsilon fun t:TOp' × (((List Int) × Int × Int))=>(q_op x0 x1 t)∧TCon Try.prog 205 [(.bx [(.c (.sl [(.int .u8)]) x0.1),(.c TI x0.2.1),(.c TI x0.2.2)]),(.c TI x1)] (Yl t)
def QaZ:TRow:=Qr 205 [(.b [(.sl [(.int .u8)]),TI,TI]),(.c TI)] fun x=>(some (p_op x.1 x.2.1),Yl (e_op x.1 x.2.1))
def Qgz:List TRow:=[ZA,Qbg,Qbq]
def Qgl:TCode :=
 (zsq [(.reg [zmv 19 0,zLd 20 5 4,zca 21 191 [20],zca 22 181 [19,21],zfa 23 5 3,zst 23 22 1]),(.reg [zLd 24 5 4,zst 4 24 4]),.ret])
def QnU:List (Nat × Md):=[(0,.b [.d,.d,.d]),(4,.b (zds 4)),(5,.b (zds 4))]
def QiA:TCode:=.wk QnU Qgl
def Qjx:TCode :=
 (zsq [(.reg [zop 4 (.new 76 (z0s ctOp))]),(.reg [zmv 6 0,zca 7 116 [6,(zki 5)],zbi 8 .add (zki 1) 7,zmv 9 1,zmv 10 1,zop 11 (.build (z0s ctOp) [(0,1,8),(1,1,9),(2,1,10)]),zop 5 (.new 76 (z0s ctOp)),zst 5 11 4]),(zsq [(.reg [zfa 12 5 0,zld 13 12 1,zbi 14 .eql 13 (zki 1)]),(.cond 14 (.reg [zmv 15 0,zca 16 116 [15,(zki 3)],zbi 17 .add (zki 1) 16,zfa 18 5 2,zst 18 17 1]) .skip)]),QiA])
def QhZ:List (ARv × Md):=[(.l 4 4 true,.b [.d,.d,.d,.o 3])]
def Qit:Qd:=TQ 1 0 QhZ K
@[irreducible] def Qbc (c:((List Int) × Int × Int)) (inn:Int) (c0:List Int) (c1:Int) (c2:Int) (o2:Int):Prop:=tawp Qgz 1 Qgl (Qit K) ⟨[(0,(.p 0 0 0)),(4,(.p 1 0 0)),(5,(.p 2 0 0))],[(0,(.box [(zcs [(.int .u8)] c0),(zci c1),(zci c2)])),(1,(.box (Tup.cells ctOp ((0:Int),(0:Int),(0:Int),[])))),(2,(.box (Tup.cells ctOp (w64 ((1:Int)+((Qc c (5:Int)).1)),inn,o2,[]))))],3⟩
theorem QiC (c:((List Int) × Int × Int)) (inn:Int) (c0:List Int) (c1:Int) (c2:Int) (o2:Int) (h :
 ((Y4 (c0,c1,c2) (QG (w64 ((1:Int)+((Qc c (5:Int)).1)),inn,o2,[])))∧K (Yl ((w64 ((1:Int)+((Qc c (5:Int)).1)),inn,o2,(List.take (((Y9 (c0,c1,c2) (QG (w64 ((1:Int)+((Qc c (5:Int)).1)),inn,o2,[]))).1).length) ((Y9 (c0,c1,c2) (QG (w64 ((1:Int)+((Qc c (5:Int)).1)),inn,o2,[]))).1))),((Y9 (c0,c1,c2) (QG (w64 ((1:Int)+((Qc c (5:Int)).1)),inn,o2,[]))).2))))):Hold (Qbc K c inn c0 c1 c2 o2) :=
 Hold.of (by kernel_rfl) h
theorem Qny (c:((List Int) × Int × Int)) (inn:Int) (h :
 ((QD c (5:Int))∧(zif ((w64 ((1:Int)+((Qc c (5:Int)).1)))==(1:Int)) ((QD ((Qc c (5:Int)).2) (3:Int))∧(Qbc K c inn (((Qc ((Qc c (5:Int)).2) (3:Int)).2).1) (((Qc ((Qc c (5:Int)).2) (3:Int)).2).2.1) (((Qc ((Qc c (5:Int)).2) (3:Int)).2).2.2) (w64 ((1:Int)+((Qc ((Qc c (5:Int)).2) (3:Int)).1))))) (Qbc K c inn (((Qc c (5:Int)).2).1) (((Qc c (5:Int)).2).2.1) (((Qc c (5:Int)).2).2.2) inn)))):Hold (tawp Qgz (1+0) Qjx (TQ 1 0 QhZ K) (Ql [(.bx [(.c (.sl [(.int .u8)]) c.1),(.c TI c.2.1),(.c TI c.2.2)]),(.c TI inn)])) :=
 Hold.of (by kernel_rfl) h
theorem Qhs (c:((List Int) × Int × Int)) (inn:Int) (hp:p_op c inn):∃ t:TOp' × (((List Int) × Int × Int)),(q_op c inn t)∧TCon Try.prog 205 [(.bx [(.c (.sl [(.int .u8)]) c.1),(.c TI c.2.1),(.c TI c.2.2)]),(.c TI inn)] (Yl t):=by
 refine Q6 (tcx (n:=25) (sg:=QaZ.sg) Qv (TOk.cons Yg (TOk.cons QgP (TOk.cons Qni TOk.nil))) (by kernel_rfl) (by kernel_rfl) (Qny (fun r'=>∃ t,(q_op c inn t)∧r'=Yl t) c inn ?_))
 have b1:=QW c 5 hp.1
 have h1:=b1.1
 have h2:=b1.2.1 (by omega)
 obtain ⟨_,h3,h4⟩:=hp
 have hw:w64 (1+(Qc c 5).1)=1+(Qc c 5).1:=Qk (by omega) (by omega)
 have key:∀ c0 c1 c2 o2,Qf (c0,c1,c2)→1≤o2→o2≤3→(1+(Qc c 5).1=1∨inn=o2)→Qbc (fun r'=>∃ t,(q_op c inn t)∧r'=Yl t) c inn c0 c1 c2 o2:=by
  intro c0 c1 c2 o2 hc k1 k2 k3
  refine (QiC (fun r'=>∃ t,(q_op c inn t)∧r'=Yl t) c inn c0 c1 c2 o2 ?_).h
  rw [hw]
  have h5:1≤1+(Qc c 5).1:=by omega
  have h6:1+(Qc c 5).1≤5:=by omega
  generalize 1+(Qc c 5).1=o1 at h5 h6 k3 ⊢
  have hs:=QfF o1 [] h3 h4 k1 k2
  have hv:Y4 (c0,c1,c2) (QG (o1,inn,o2,[])):=⟨hc,by omega⟩
  have b:=QiX _ _ hv
  have hl:=b.1
  refine ⟨hv,Qx ⟨?_,rfl,k1,k2,?_,b.2.2⟩⟩
  ·simp only [List.take_length]
   exact Qka h5 h6 h3 h4 k1 k2 k3 hl b.2.1
  ·simp;omega
 have b2:=QW (Qc c 5).2 3 b1.2.2.2
 have h7:=b2.1
 have h8:=b2.2.1 (by omega)
 rw [hw] at *
 refine ⟨‹Qf c›,fun h=>⟨b1.2.2.2,?_⟩,fun _=>key _ _ _ _ b1.2.2.2 h3 h4 (.inr rfl)⟩
 rw [Qk (x:=1+(Qc (Qc c 5).2 3).1) (by omega) (by omega)]
 exact key _ _ _ _ b2.2.2.2 (by omega) (by omega) (.inl (by simpa using h))
theorem QhI (c:((List Int) × Int × Int)) (inn:Int) (hp:p_op c inn):q_op c inn (e_op c inn):=(Classical.epsilon_spec (Qhs c inn hp)).1
theorem Qjv (c:((List Int) × Int × Int)) (inn:Int) (hp:p_op c inn):TCon Try.prog 205 [(.bx [(.c (.sl [(.int .u8)]) c.1),(.c TI c.2.1),(.c TI c.2.2)]),(.c TI inn)] (Yl (e_op c inn)):=(Classical.epsilon_spec (Qhs c inn hp)).2
theorem QeH:Qq Try.prog QaZ:=Qy fun x h=>Qjv x.1 x.2.1 h
def Zx (t:TOp' × (((List Int) × Int × Int))):TRes:=⟨(.a (Tup.cells ctOp t.1)),[],[[(zcs [(.int .u8)] t.2.1),(zci t.2.2.1),(zci t.2.2.2)]],true,[]⟩
def J3 (x0:((List Int) × Int × Int)):TOp' × (((List Int) × Int × Int)):=Classical.epsilon fun t:TOp' × (((List Int) × Int × Int))=>(Qba x0 t)∧TCon Try.prog 187 [(.bx [(.c (.sl [(.int .u8)]) x0.1),(.c TI x0.2.1),(.c TI x0.2.2)])] (Zx t)
def QcJ:TRow:=Qr 187 [(.b [(.sl [(.int .u8)]),TI,TI])] fun x=>(some (Qf x.1),Zx (J3 x.1))
def QkH:List TRow:=[ZA,QaZ,JW,Qbu]
def Qio:TCode :=
 (zsq [(.reg [zop 2 (.new 76 (z0s ctOp))]),(.reg [zmv 4 0,zmv 5 0,zca 6 116 [5,(zki 3)],zbi 7 .add (zki 1) 6,zca 8 205 [4,7],zop 3 (.new 76 (z0s ctOp)),zst 3 8 4]),(zsq [(.reg [zmv 9 0,zca 10 116 [9,(zki 14)]]),(.block 0 (zsq [(.reg [zbi 12 .eql 10 (zki 0),zmv 11 12]),(.cond 11 (.reg [zmv 13 0,zca 14 116 [13,(zki 8)],zbi 15 .sub 14 (zki 1),zfa 16 3 0,zst 16 15 1]) (zsq [(.reg [zbi 18 .eql 10 (zki 1),zmv 17 18]),(.cond 17 (.reg [zmv 19 0,zfa 20 3 1,zld 21 20 1,zbi 22 .add 21 (zki 1),zop 23 (.bsl 3 [TI] [(zki 0),(zki 7),22]),zca 24 182 [19,23],zfa 25 3 1,zst 25 24 1]) (zsq [(.reg [zbi 27 .eql 10 (zki 2),zmv 26 27]),(.cond 26 (.reg [zfa 28 3 3,zld 29 28 1,zop 30 (.bsl 3 [TI] [(zki 0)]),zop 31 (.app 29 30 3 [TI]),zfa 32 3 3,zst 32 31 1]) (zsq [(.reg [zbi 34 .eql 10 (zki 3),zmv 33 34]),(.cond 33 (zsq [(.reg [zfa 35 3 3,zld 36 35 1,zle 37 36,zbi 38 .gtr 37 (zki 0)]),(.cond 38 (.draw [zfa 39 3 3,zld 40 39 1,zmv 41 0,zca 42 184 [41],zia 43 40 (zki 0) [TI],zst 43 42 1] [(0,3),(1,3)]) .skip)]) .skip)]))]))]))]))]),(.reg [zLd 44 3 4,zst 2 44 4]),.ret])
def QiJ:List (ARv × Md):=[(.l 2 4 true,.b (zds 4))]
theorem QnG (c:((List Int) × Int × Int)) (h :
 let z4:=Qc c (3:Int)
 let z1:=e_op (z4.2) (w64 ((1:Int)+(z4.1)))
 let z2:=Qc (z1.2) (14:Int)
 let z3:=List.take (((z1.1).2.2.2).length) (List.drop 0 ((z1.1).2.2.2))
 (((QD c (3:Int))∧(p_op (z4.2) (w64 ((1:Int)+(z4.1)))))∧((QD (z1.2) (14:Int))∧(zif ((z2.1)==(0:Int)) ((QD (z2.2) (8:Int))∧K (Zx ((w64 (((Qc (z2.2) (8:Int)).1)-(1:Int)),(z1.1).2.1,(z1.1).2.2.1,z3),((Qc (z2.2) (8:Int)).2)))) (zif ((z2.1)==(1:Int)) ((Zv (z2.2) ([(0:Int),(7:Int),w64 (((z1.1).2.1)+(1:Int))]))∧K (Zx (((z1.1).1,(Zg (z2.2) ([(0:Int),(7:Int),w64 (((z1.1).2.1)+(1:Int))])).1,(z1.1).2.2.1,z3),((Zg (z2.2) ([(0:Int),(7:Int),w64 (((z1.1).2.1)+(1:Int))])).2)))) (zif ((z2.1)==(2:Int)) (((((z1.1).2.2.2).length=((z1.1).2.2.2).length∨((z1.1).2.2.2).length+1≤((z1.1).2.2.2).length)∧((z1.1).2.2.2).length+1≤big)∧K (Zx (((z1.1).1,(z1.1).2.1,(z1.1).2.2.1,(List.take (((z1.1).2.2.2).length+1) (List.drop 0 ((List.take (((z1.1).2.2.2).length) ((z1.1).2.2.2))++([(0:Int)]))))),(z2.2)))) (zif ((z2.1)==(3:Int)) (zif (decide (((((z1.1).2.2.2).length:Nat):Int)>(0:Int))) (((Qf (z2.2))∧(((0:Int)≤(0:Int)∧Int.toNat (0:Int)<((z1.1).2.2.2).length)∧((0+(Int.toNat (0:Int)))<((z1.1).2.2.2).length)))∧K (Zx (((z1.1).1,(z1.1).2.1,(z1.1).2.2.1,(List.take (((z1.1).2.2.2).length) (List.drop 0 (((z1.1).2.2.2).set (0+(Int.toNat (0:Int))) ((JG (z2.2)).1))))),((JG (z2.2)).2)))) (K (Zx (((z1.1).1,(z1.1).2.1,(z1.1).2.2.1,z3),(z2.2))))) (K (Zx (((z1.1).1,(z1.1).2.1,(z1.1).2.2.1,z3),(z2.2))))))))))):Hold (tawp QkH (1+0) Qio (TQ 1 0 QiJ K) (Ql [(.bx [(.c (.sl [(.int .u8)]) c.1),(.c TI c.2.1),(.c TI c.2.2)])])) :=
 Hold.of (by kernel_rfl) h
theorem QdR (c:((List Int) × Int × Int)) (hp:Qf c):∃ t:TOp' × (((List Int) × Int × Int)),(Qba c t)∧TCon Try.prog 187 [(.bx [(.c (.sl [(.int .u8)]) c.1),(.c TI c.2.1),(.c TI c.2.2)])] (Zx t):=by
 refine Q6 (tcx (n:=45) (sg:=QcJ.sg) Qv (TOk.cons Yg (TOk.cons QeH (TOk.cons QbE (TOk.cons QkN TOk.nil)))) (by kernel_rfl) (by kernel_rfl) (QnG (fun r'=>∃ t,(Qba c t)∧r'=Zx t) c ?_))
 conv=>zeta
 have b1:=QW c 3 hp
 generalize Qc c 3=r1 at b1 ⊢
 have h1:=b1.1
 have h2:=b1.2.1 (by omega)
 rw [Qk (x:=1+r1.1) (by omega) (by omega)]
 have ho:p_op r1.2 (1+r1.1):=⟨b1.2.2.2,by omega,by omega⟩
 have b2:=QhI _ _ ho
 generalize e_op r1.2 (1+r1.1)=r2 at b2 ⊢
 have hl:=b2.2.2.2.2.1
 have hc2:=b2.2.2.2.2.2
 have b3:=(QW r2.2 14 hc2).2.2.2
 generalize Qc r2.2 14=r3 at b3 ⊢
 refine ⟨⟨hp,ho⟩,hc2,fun _=>⟨b3,Qx ⟨?_,(QW _ _ b3).2.2.2⟩⟩,fun _=>⟨fun _=>⟨⟨b3,by simp,by simp⟩,Qx ⟨?_,(Qab _ _ ⟨b3,by simp,by simp⟩).2⟩⟩,fun _=>⟨fun _=>⟨⟨.inl rfl,by rw [Je];omega⟩,Qx ⟨?_,b3⟩⟩,fun _=>⟨fun _=>⟨fun hh=>⟨⟨b3,⟨by omega,by simpa using hh⟩,by simpa using hh⟩,Qx ⟨?_,Qnh _ b3⟩⟩,fun _=>(Qx ⟨?_,b3⟩)⟩,fun _=>(Qx ⟨?_,b3⟩)⟩⟩⟩⟩
 all_goals first
  | (simp;omega)
  | omega
  | skip
theorem Ql8 (c:((List Int) × Int × Int)) (hp:Qf c):Qba c (J3 c):=(Classical.epsilon_spec (QdR c hp)).1
theorem Qm4 (c:((List Int) × Int × Int)) (hp:Qf c):TCon Try.prog 187 [(.bx [(.c (.sl [(.int .u8)]) c.1),(.c TI c.2.1),(.c TI c.2.2)])] (Zx (J3 c)):=(Classical.epsilon_spec (QdR c hp)).2
theorem QkR:Qq Try.prog QcJ:=Qy fun x h=>Qm4 x.1 h
def ZU (t:(List TOp') × (((List Int) × Int × Int))):TRes:=⟨(.a [(.r ctOp 0 0 ((t.1).length))]),[(.sl 76 ctOp true t.1)],[[(zcs [(.int .u8)] t.2.1),(zci t.2.2.1),(zci t.2.2.2)]],true,[]⟩
def QX (x0:((List Int) × Int × Int)):(List TOp') × (((List Int) × Int × Int)):=Classical.epsilon fun t:(List TOp') × (((List Int) × Int × Int))=>(Yr x0 t)∧TCon Try.prog 186 [(.bx [(.c (.sl [(.int .u8)]) x0.1),(.c TI x0.2.1),(.c TI x0.2.2)])] (ZU t)
def Qc3:TRow:=Qr 186 [(.b [(.sl [(.int .u8)]),TI,TI])] fun x=>(some (Qf x.1),ZU (QX x.1))
def Qc1:List TRow:=[ZA,QaZ]
def QhJ:TCode :=
 (zsq [(zsq [(.reg [zmv 14 5,zbi 15 .gtr 14 (zki 0)]),(.cond 15 .skip (.exit 0))]),(.block 1 (zsq [(.reg [zmv 18 0,zmv 19 4,zca 20 205 [18,19],zop 6 (.new 76 (z0s ctOp)),zst 6 20 4]),(.reg [zfa 21 3 0,zld 22 21 1,zLd 23 6 4,zop 24 (.bsl 76 ctOp [23]),zop 25 (.app 22 24 76 ctOp),zfa 26 3 0,zst 26 25 1]),(.reg [zfa 27 6 2,zld 28 27 1,zmv 4 28])])),(.reg [zmv 16 5,zbi 17 .sub 16 (zki 1),zmv 5 17])])
def QfG:List (Nat × Md):=[(0,.b [.d,.d,.d]),(2,.b [.d]),(3,.b [.o 76]),(4,.one .d),(5,.one .d)]
def Qg5:TCode :=
 (zsq [(.reg [zLd 29 3 1,zst 2 29 1]),.ret])
def Qmn:TCode :=
 (zsq [(.reg [zop 2 (.new 66 [(.n ctOp)])]),(.reg [zop 7 (.build [(.n ctOp)] []),zop 3 (.new 66 [(.n ctOp)]),zst 3 7 1]),(.reg [zmv 8 0,zca 9 116 [8,(zki 3)],zbi 10 .add (zki 1) 9,zmv 4 10]),(zsq [(.reg [zmv 11 0,zca 12 116 [11,(zki 6)],zbi 13 .add (zki 1) 12,zmv 5 13]),(.block 0 (.loop QfG QhJ))]),Qg5])
def QgD:List (ARv × Md):=[(.l 2 1 true,.b [.o 76])]
def QdE:Qd:=TQ 1 0 QgD K
def Qjp:Qd:=Qseq (tawp Qc1 1 Qg5 (QdE K)) (QdE K)
def QlS:Qd:=Qblk 0 (Qjp K)
def Qaf (inn:Int) (n:Int) (c0:List Int) (c1:Int) (c2:Int) (m0:List TOp'):Prop:=Loop Qc1 1 QfG QhJ (QlS K) ⟨[(0,(.p 0 0 0)),(2,(.p 1 0 0)),(3,(.p 3 0 0)),(4,(zci inn)),(5,(zci n))],[(0,(.box [(zcs [(.int .u8)] c0),(zci c1),(zci c2)])),(1,(.box [(zcs ctOp ([]))])),(2,(.sl 76 ctOp true m0)),(3,(.box [(.r ctOp 2 0 m0.length)]))],4⟩
theorem QdI (inn:Int) (n:Int) (c0:List Int) (c1:Int) (c2:Int) (m0:List TOp') (h :
 (zif (decide (n>(0:Int))) ((p_op (c0,c1,c2) inn)∧(((m0.length=m0.length∨m0.length+1≤m0.length)∧m0.length+1≤big)∧(Qaf K (((e_op (c0,c1,c2) inn).1).2.2.1) (w64 (n-(1:Int))) (((e_op (c0,c1,c2) inn).2).1) (((e_op (c0,c1,c2) inn).2).2.1) (((e_op (c0,c1,c2) inn).2).2.2) (List.take (m0.length+1) ((List.take m0.length m0)++([(((e_op (c0,c1,c2) inn).1).1,((e_op (c0,c1,c2) inn).1).2.1,((e_op (c0,c1,c2) inn).1).2.2.1,(List.take ((((e_op (c0,c1,c2) inn).1).2.2.2).length) (List.drop 0 (((e_op (c0,c1,c2) inn).1).2.2.2))))])))))) (K (ZU ((List.take m0.length m0),(c0,c1,c2)))))):Qaf K inn n c0 c1 c2 m0 :=
 Loop.of (by kernel_rfl) h
theorem QkT (c:((List Int) × Int × Int)) (h :
 ((QD c (3:Int))∧((QD ((Qc c (3:Int)).2) (6:Int))∧(Qaf K (w64 ((1:Int)+((Qc c (3:Int)).1))) (w64 ((1:Int)+((Qc ((Qc c (3:Int)).2) (6:Int)).1))) (((Qc ((Qc c (3:Int)).2) (6:Int)).2).1) (((Qc ((Qc c (3:Int)).2) (6:Int)).2).2.1) (((Qc ((Qc c (3:Int)).2) (6:Int)).2).2.2) ([]:List TOp'))))):Hold (tawp Qc1 (1+0) Qmn (TQ 1 0 QgD K) (Ql [(.bx [(.c (.sl [(.int .u8)]) c.1),(.c TI c.2.1),(.c TI c.2.2)])])) :=
 Hold.of (by kernel_rfl) h
theorem QgE (c:((List Int) × Int × Int)) (hp:Qf c):∃ t:(List TOp') × (((List Int) × Int × Int)),(Yr c t)∧TCon Try.prog 186 [(.bx [(.c (.sl [(.int .u8)]) c.1),(.c TI c.2.1),(.c TI c.2.2)])] (ZU t):=by
 refine Q6 (tcx (n:=30) (sg:=Qc3.sg) Qv (TOk.cons Yg (TOk.cons QeH TOk.nil)) (by kernel_rfl) (by kernel_rfl) (QkT (fun r'=>∃ t,(Yr c t)∧r'=ZU t) c ?_))
 have b1:=QW c 3 hp
 generalize Qc c 3=r1 at b1 ⊢
 have b2:=QW r1.2 6 b1.2.2.2
 generalize Qc r1.2 6=r2 at b2 ⊢
 have h1:=b1.1
 have h2:=b1.2.1 (by omega)
 have h3:=b2.1
 have h4:=b2.2.1 (by omega)
 rw [Qk (x:=1+r1.1) (by omega) (by omega),Qk (x:=1+r2.1) (by omega) (by omega)]
 refine ⟨hp,b1.2.2.2,?_⟩
 have key:∀ (k:Nat) (inn c1 c2:Int) (c0:List Int) (m0:Qp),Qf (c0,c1,c2)→1≤inn→inn≤3→m0.length+k≤6→1≤m0.length+k→QZ none m0=true→QaA none m0 inn=true→Qaf (fun r'=>∃ t,(Yr c t)∧r'=ZU t) inn (k:Int) c0 c1 c2 m0:=by
  intro k
  induction k with
  | zero =>
   intro inn c1 c2 c0 m0 hc k1 k2 k3 k4 k5 k6
   refine QdI (fun r'=>∃ t,(Yr c t)∧r'=ZU t) _ _ _ _ _ _ ⟨fun h=>by simp at h,fun _=>(Qx ⟨?_,?_,hc⟩)⟩
   ·simp only [List.take_length,Qs,Bool.and_eq_true,QK]
    exact ⟨by omega,k5⟩
   ·simp only [List.take_length];omega
  | succ k ih =>
   intro inn c1 c2 c0 m0 hc k1 k2 k3 k4 k5 k6
   have ho:p_op (c0,c1,c2) inn:=⟨hc,k1,k2⟩
   have b:=QhI _ _ ho
   refine QdI (fun r'=>∃ t,(Yr c t)∧r'=ZU t) _ _ _ _ _ _ ⟨fun _=>⟨ho,⟨.inl rfl,by rw [Je];omega⟩,?_⟩,fun h=>by simp at h <;> omega⟩
   rw [Qa7,Qk (x:=((k+1:Nat):Int)-1) (by omega) (by omega),show ((k+1:Nat):Int)-1=k by omega]
   refine ih _ _ _ _ _ b.2.2.2.2.2 b.2.2.1 b.2.2.2.1 (by simp;omega) (by simp;omega) (QeR _ _ _ k5 ?_ ?_) ?_
   ·simp only [List.drop_zero,List.take_length];exact b.1
   ·rw [show (((e_op (c0,c1,c2) inn).1.1,(e_op (c0,c1,c2) inn).1.2.1,(e_op (c0,c1,c2) inn).1.2.2.1,List.take (e_op (c0,c1,c2) inn).1.2.2.2.length (List.drop 0 (e_op (c0,c1,c2) inn).1.2.2.2)):TOp').2.1=inn from b.2.1]
    exact k6
   ·exact QgO _ _ _
 have h:=key (1+r2.1).toNat (1+r1.1) r2.2.2.1 r2.2.2.2 r2.2.1 [] b2.2.2.2 (by omega) (by omega) (by simp;omega) (by simp;omega) rfl rfl
 rw [Int.toNat_of_nonneg (by omega)] at h
 exact h
theorem Qix (c:((List Int) × Int × Int)) (hp:Qf c):Yr c (QX c):=(Classical.epsilon_spec (QgE c hp)).1
theorem QjM (c:((List Int) × Int × Int)) (hp:Qf c):TCon Try.prog 186 [(.bx [(.c (.sl [(.int .u8)]) c.1),(.c TI c.2.1),(.c TI c.2.2)])] (ZU (QX c)):=(Classical.epsilon_spec (QgE c hp)).2
theorem QjA:Qq Try.prog Qc3:=Qy fun x h=>QjM x.1 h
def Zl (t:(List TOp') × (((List Int) × Int × Int))):TRes:=⟨(.a [(zcs ctOp t.1)]),[],[[(zcs [(.int .u8)] t.2.1),(zci t.2.2.1),(zci t.2.2.2)]],true,[]⟩
def ZF (x0:((List Int) × Int × Int)):(List TOp') × (((List Int) × Int × Int)):=Classical.epsilon fun t:(List TOp') × (((List Int) × Int × Int))=>(Yx x0 t)∧TCon Try.prog 131 [(.bx [(.c (.sl [(.int .u8)]) x0.1),(.c TI x0.2.1),(.c TI x0.2.2)])] (Zl t)
def QcP:TRow:=Qr 131 [(.b [(.sl [(.int .u8)]),TI,TI])] fun x=>(some (Qf x.1),Zl (ZF x.1))
def Qce:List TRow:=[Qc3,ZA,QcJ]
def Qgt:TCode :=
 (zsq [(zsq [(.draw [zfa 31 3 0,zld 32 31 1,zle 33 32,zmv 34 0,zca 35 116 [34,(zki 2)],zbi 36 .add (zki 8) 35,zbi 37 .lss 33 36] [(0,4),(1,4),(2,4)]),(.cond 37 .skip (.exit 1))]),(.block 2 (.draw [zfa 38 3 0,zld 39 38 1,zfa 40 3 0,zld 41 40 1,zfa 42 3 0,zld 43 42 1,zle 44 43,zbi 45 .sub 44 (zki 1),zia 46 41 45 ctOp,zfa 47 46 2,zld 48 47 1,zfa 49 3 0,zld 50 49 1,zfa 51 3 0,zld 52 51 1,zle 53 52,zbi 54 .sub 53 (zki 1),zia 55 50 54 ctOp,zfa 56 55 2,zld 57 56 1,zop 58 (.build (z0s ctOp) [(0,1,(zki 3)),(1,1,48),(2,1,57)]),zop 59 (.bsl 76 ctOp [58]),zop 60 (.app 39 59 76 ctOp),zfa 61 3 0,zst 61 60 1] [(0,21),(1,21)]))])
def QdJ:List (Nat × Md):=[(0,.b [.d,.d,.d]),(2,.b [.d]),(3,.b [.f])]
def Qd0:TCode :=
 (zsq [(.reg [zLd 62 3 1,zst 2 62 1]),.ret])
def Qkd:TCode :=
 (zsq [(.reg [zop 2 (.new 66 [(.n ctOp)])]),(.reg [zmv 5 0,zca 6 186 [5],zop 3 (.new 66 [(.n ctOp)]),zst 3 6 1]),(.reg [zmv 7 0,zfa 8 3 0,zld 9 8 1,zle 10 9,zca 11 116 [7,10],zmv 4 11]),(zsq [(.reg [zmv 12 0,zca 13 116 [12,(zki 16)]]),(.block 0 (zsq [(.reg [zbi 15 .eql 13 (zki 0),zmv 14 15]),(.cond 14 (.draw [zfa 16 3 0,zld 17 16 1,zmv 18 4,zmv 19 0,zca 20 187 [19],zia 21 17 18 ctOp,zst 21 20 4] [(0,4),(1,4)]) (zsq [(.reg [zbi 23 .eql 13 (zki 1),zmv 22 23]),(.cond 22 (.reg [zfa 24 3 0,zld 25 24 1,zmv 26 4,zop 27 (.slc 25 none (some 26) ctOp),zfa 28 3 0,zst 28 27 1]) (zsq [(.reg [zbi 30 .eql 13 (zki 2),zmv 29 30]),(.cond 29 (.block 1 (.loop QdJ Qgt)) .skip)]))]))]))]),Qd0])
def Qfo:List (ARv × Md):=[(.l 2 1 true,.b [.d])]
def QhV:Qd:=TQ 1 0 Qfo K
def Qko:Qd:=Qseq (tawp Qce 1 Qd0 (QhV K)) (QhV K)
def QjG:Qd:=Qblk 0 (Qko K)
def QjO:Qd:=Qblk 1 (QjG K)
def Qai (c0:List Int) (c1:Int) (c2:Int) (m0:List TOp'):Prop:=Loop Qce 1 QdJ Qgt (QjO K) ⟨[(0,(.p 0 0 0)),(2,(.p 1 0 0)),(3,(.p 3 0 0))],[(0,(.box [(zcs [(.int .u8)] c0),(zci c1),(zci c2)])),(1,(.box [(zcs ctOp ([]))])),(2,(.sl 76 ctOp true m0)),(3,(.box [(.r ctOp 2 0 m0.length)]))],4⟩
theorem QdZ (c0:List Int) (c1:Int) (c2:Int) (m0:List TOp') (h :
 ((QD (c0,c1,c2) (2:Int))∧(zif (decide (((m0.length:Nat):Int)<(w64 ((8:Int)+((Qc (c0,c1,c2) (2:Int)).1))))) ((((0:Int)≤w64 (((m0.length:Nat):Int)-(1:Int))∧Int.toNat (w64 (((m0.length:Nat):Int)-(1:Int)))<m0.length)∧(((0+(Int.toNat (w64 (((m0.length:Nat):Int)-(1:Int)))))<m0.length)∧(((0:Int)≤w64 (((m0.length:Nat):Int)-(1:Int))∧Int.toNat (w64 (((m0.length:Nat):Int)-(1:Int)))<m0.length)∧(((0+(Int.toNat (w64 (((m0.length:Nat):Int)-(1:Int)))))<m0.length)∧((m0.length=m0.length∨m0.length+1≤m0.length)∧m0.length+1≤big)))))∧(Qai K (((Qc (c0,c1,c2) (2:Int)).2).1) (((Qc (c0,c1,c2) (2:Int)).2).2.1) (((Qc (c0,c1,c2) (2:Int)).2).2.2) (List.take (m0.length+1) ((List.take m0.length m0)++([((3:Int),(gtd dOp m0 (0+(Int.toNat (w64 (((m0.length:Nat):Int)-(1:Int)))))).2.2.1,(gtd dOp m0 (0+(Int.toNat (w64 (((m0.length:Nat):Int)-(1:Int)))))).2.2.1,[])]))))) (K (Zl ((List.take m0.length (List.drop 0 m0)),((Qc (c0,c1,c2) (2:Int)).2))))))):Qai K c0 c1 c2 m0 :=
 Loop.of (by kernel_rfl) h
theorem Ql3 (c:((List Int) × Int × Int)) (h :
 let z1:=Qc ((QX c).2) ((((QX c).1).length:Nat):Int)
 let z2:=Qc (z1.2) (16:Int)
 ((Qf c)∧((QD ((QX c).2) ((((QX c).1).length:Nat):Int))∧((QD (z1.2) (16:Int))∧(zif ((z2.1)==(0:Int)) (((Qf (z2.2))∧(((0:Int)≤z1.1∧Int.toNat (z1.1)<((QX c).1).length)∧((0+(Int.toNat (z1.1)))<((QX c).1).length)))∧K (Zl ((List.take (((QX c).1).length) (List.drop 0 (((QX c).1).set (0+(Int.toNat (z1.1))) ((J3 (z2.2)).1)))),((J3 (z2.2)).2)))) (zif ((z2.1)==(1:Int)) (((0:Int)≤(0:Int)∧(0:Int)≤z1.1∧z1.1≤((((QX c).1).length:Nat):Int))∧K (Zl ((List.take (Int.toNat (z1.1)-Int.toNat (0:Int)) (List.drop 0 ((QX c).1))),(z2.2)))) (zif ((z2.1)==(2:Int)) (Qai K ((z2.2).1) ((z2.2).2.1) ((z2.2).2.2) (List.take (((QX c).1).length) ((QX c).1))) (K (Zl ((List.take (((QX c).1).length) (List.drop 0 ((QX c).1))),(z2.2))))))))))):Hold (tawp Qce (1+0) Qkd (TQ 1 0 Qfo K) (Ql [(.bx [(.c (.sl [(.int .u8)]) c.1),(.c TI c.2.1),(.c TI c.2.2)])])) :=
 Hold.of (by kernel_rfl) h
theorem QdM (c:((List Int) × Int × Int)) (hp:Qf c):∃ t:(List TOp') × (((List Int) × Int × Int)),(Yx c t)∧TCon Try.prog 131 [(.bx [(.c (.sl [(.int .u8)]) c.1),(.c TI c.2.1),(.c TI c.2.2)])] (Zl t):=by
 refine Q6 (tcx (n:=63) (sg:=QcP.sg) Qv (TOk.cons QjA (TOk.cons Yg (TOk.cons QkR TOk.nil))) (by kernel_rfl) (by kernel_rfl) (Ql3 (fun r'=>∃ t,(Yx c t)∧r'=Zl t) c ?_))
 conv=>zeta
 have b1:=Qix c hp
 generalize QX c=r1 at b1 ⊢
 obtain ⟨k1,k2,k3⟩:=b1
 have k4:1≤r1.1.length:=by
  simp only [Qs,Bool.and_eq_true,QK] at k1
  omega
 have b2:=QW r1.2 r1.1.length k3
 generalize Qc r1.2 r1.1.length=r2 at b2 ⊢
 have h1:=b2.1
 have h2:=b2.2.1 (by omega)
 have b3:=(QW r2.2 16 b2.2.2.2).2.2.2
 generalize Qc r2.2 16=r3 at b3 ⊢
 refine ⟨hp,k3,b2.2.2.2,fun _=>⟨⟨b3,⟨h1,by omega⟩,by omega⟩,Qx ⟨?_,(Ql8 _ b3).2⟩⟩,fun _=>⟨fun _=>⟨⟨by omega,by omega,by omega⟩,Qx ⟨?_,b3⟩⟩,fun _=>⟨fun _=>?_,fun _=>(Qx ⟨?_,b3⟩)⟩⟩⟩
 ·simp;omega
 ·simp;omega
 ·rw [List.take_length]
  have key:∀ (k:Nat) (c1 c2:Int) (c0:List Int) (m0:Qp),Qf (c0,c1,c2)→1≤m0.length→m0.length+k=9→Qai (fun r'=>∃ t,(Yx c t)∧r'=Zl t) c0 c1 c2 m0:=by
   intro k
   induction k with
   | zero =>
    intro c1 c2 c0 m0 hc q1 q2
    have b:=QW (c0,c1,c2) 2 hc
    have q3:=b.1
    have q4:=b.2.1 (by omega)
    refine QdZ (fun r'=>∃ t,(Yx c t)∧r'=Zl t) _ _ _ _ ⟨hc,fun h=>?_,fun _=>(Qx ⟨?_,b.2.2.2⟩)⟩
    ·rw [Qk (x:=8+_) (by omega) (by omega)] at h
     simp at h;omega
    ·simp;omega
   | succ k ih =>
    intro c1 c2 c0 m0 hc q1 q2
    have b:=QW (c0,c1,c2) 2 hc
    refine QdZ (fun r'=>∃ t,(Yx c t)∧r'=Zl t) _ _ _ _ ⟨hc,fun _=>?_,fun _=>(Qx ⟨?_,b.2.2.2⟩)⟩
    ·rw [Qk (x:=(m0.length:Int)-1) (by omega) (by omega)]
     refine ⟨⟨⟨by omega,by omega⟩,by omega,⟨by omega,by omega⟩,by omega,.inl rfl,by rw [Je];omega⟩,?_⟩
     rw [Qa7]
     exact ih _ _ _ _ b.2.2.2 (by simp) (by simp;omega)
    ·simp;omega
  exact key (9-r1.1.length) _ _ _ _ b3 k4 (by omega)
 ·simp;omega
theorem Qlt (c:((List Int) × Int × Int)) (hp:Qf c):Yx c (ZF c):=(Classical.epsilon_spec (QdM c hp)).1
theorem Qno (c:((List Int) × Int × Int)) (hp:Qf c):TCon Try.prog 131 [(.bx [(.c (.sl [(.int .u8)]) c.1),(.c TI c.2.1),(.c TI c.2.2)])] (Zl (ZF c)):=(Classical.epsilon_spec (QdM c hp)).2
theorem Qkl:Qq Try.prog QcP:=Qy fun x h=>Qno x.1 h
end
end Go.Proofs.Ytephkbajoofeoaa.Am

