/- -/
import Derived.Test.YtjbdljkhbglnhaaGreatZAD1
import Derived.Test.YtjbdljkhbglnhaaGreatZAP4
namespace Go.Proofs.YtjbdljkhbglnhaaGreat.Am
open Go Go.RowKit Go.Proofs.YtjbdljkhbglnhaaGreat
set_option linter.all false
set_option maxHeartbeats 2000000
noncomputable section
variable (K:TRes→Prop)
def Qa0 (t:Int × (((List Int) × Int × Int))):TRes:=⟨(zci t.1),[],[[(zcs [(.int .u8)] t.2.1),(zci t.2.2.1),(zci t.2.2.2)]],true,[]⟩
def QaZ (x0:((List Int) × Int × Int)):Int × (((List Int) × Int × Int)):=Classical.epsilon fun t:Int × (((List Int) × Int × Int))=>(Qg8 x0 t)∧TCon Tryz.prog 181 [(.bx [(.c (.sl [(.int .u8)]) x0.1),(.c TI x0.2.1),(.c TI x0.2.2)])] (Qa0 t)
def QgH:TRow:=Qh 181 [(.b [(.sl [(.int .u8)]),TI,TI])] fun x=>(some (Qy x.1),Qa0 (QaZ x.1))
def QLw:List TRow:=[Jy,QbB]
def QMz:TCode :=
 (zsq [(.reg [zmv 2 (zki 0)]),(zsq [(.reg [zmv 3 0,zca 4 108 [3,(zki 12)]]),(.block 0 (zsq [(.reg [zbi 6 .eql 4 (zki 0),zmv 5 6]),(.cond 5 (zsq [(.reg [zmv 7 0,zop 8 (.bsl 3 [TI] [(zki 2147483647),(zki (-2147483647)),(zki 2147483646),(zki 1),(zki (-1)),(zki 0)]),zca 9 145 [7,8],zmv 2 9]),.ret]) (zsq [(.reg [zbi 11 .eql 4 (zki 1),zmv 10 11]),(.cond 10 (zsq [(.reg [zmv 12 0,zca 13 108 [12,(zki 4000)],zbi 14 .sub 13 (zki 2000),zbi 15 .mul 14 (zki 997),zmv 2 15]),.ret]) (zsq [(.reg [zbi 17 .eql 4 (zki 2),zmv 16 17]),(.cond 16 (zsq [(.reg [zmv 18 0,zca 19 108 [18,(zki 9)],zbi 20 .sub 19 (zki 4),zmv 2 20]),.ret]) .skip)]))]))]))]),(.reg [zmv 21 0,zca 22 108 [21,(zki 17)],zbi 23 .sub 22 (zki 8),zbi 24 .mul 23 (zki 65536),zmv 25 0,zop 26 (.bsl 3 [TI] [(zki 1),(zki 1),(zki 2),(zki 4),(zki 3)]),zca 27 145 [25,26],zbi 28 .quo 24 27,zmv 2 28]),.ret])
def QRF:List (ARv × Md):=[(.t 2,.one .d)]
theorem QQA (c:((List Int) × Int × Int)) (h :
((Zb c (12:Int))∧(zif (((Qg c (12:Int)).1)==(0:Int)) ((YZ ((Qg c (12:Int)).2) ([(2147483647:Int),(-2147483647:Int),(2147483646:Int),(1:Int),(-1:Int),(0:Int)]))∧K (Qa0 ((Zw ((Qg c (12:Int)).2) ([(2147483647:Int),(-2147483647:Int),(2147483646:Int),(1:Int),(-1:Int),(0:Int)])).1,((Zw ((Qg c (12:Int)).2) ([(2147483647:Int),(-2147483647:Int),(2147483646:Int),(1:Int),(-1:Int),(0:Int)])).2)))) (zif (((Qg c (12:Int)).1)==(1:Int)) ((Zb ((Qg c (12:Int)).2) (4000:Int))∧K (Qa0 (w64 ((w64 (((Qg ((Qg c (12:Int)).2) (4000:Int)).1)-(2000:Int)))*(997:Int)),((Qg ((Qg c (12:Int)).2) (4000:Int)).2)))) (zif (((Qg c (12:Int)).1)==(2:Int)) ((Zb ((Qg c (12:Int)).2) (9:Int))∧K (Qa0 (w64 (((Qg ((Qg c (12:Int)).2) (9:Int)).1)-(4:Int)),((Qg ((Qg c (12:Int)).2) (9:Int)).2)))) (((Zb ((Qg c (12:Int)).2) (17:Int))∧((YZ ((Qg ((Qg c (12:Int)).2) (17:Int)).2) ([(1:Int),(1:Int),(2:Int),(4:Int),(3:Int)]))∧(¬ ((Zw ((Qg ((Qg c (12:Int)).2) (17:Int)).2) ([(1:Int),(1:Int),(2:Int),(4:Int),(3:Int)])).1:Int)=0)))∧K (Qa0 (w64 (Int.tdiv (w64 ((w64 (((Qg ((Qg c (12:Int)).2) (17:Int)).1)-(8:Int)))*(65536:Int))) ((Zw ((Qg ((Qg c (12:Int)).2) (17:Int)).2) ([(1:Int),(1:Int),(2:Int),(4:Int),(3:Int)])).1)),((Zw ((Qg ((Qg c (12:Int)).2) (17:Int)).2) ([(1:Int),(1:Int),(2:Int),(4:Int),(3:Int)])).2))))))))):Hold (tawp QLw (1+0) QMz (TQ 1 0 QRF K) (Qf [(.bx [(.c (.sl [(.int .u8)]) c.1),(.c TI c.2.1),(.c TI c.2.2)])])) :=
 Hold.of (by kernel_rfl) h
theorem Qyh (c:((List Int) × Int × Int)) (hp:Qy c):∃ t:Int × (((List Int) × Int × Int)),(Qg8 c t)∧TCon Tryz.prog 181 [(.bx [(.c (.sl [(.int .u8)]) c.1),(.c TI c.2.1),(.c TI c.2.2)])] (Qa0 t):=by
 refine YQ (tcx (n:=29) (sg:=QgH.sg) Ql (TOk.cons JT (TOk.cons QdL TOk.nil)) (by kernel_rfl) (by kernel_rfl) (QQA (fun r'=>∃ t,(Qg8 c t)∧r'=Qa0 t) c ?_))
 have b1:=Z2 c 12 hp
 generalize Qg c 12=r at b1 ⊢
 have hc:Qy r.2:=b1.2.2.2
 refine ⟨hp,fun _=>?_,fun _=>⟨fun _=>?_,fun _=>⟨fun _=>?_,fun _=>?_⟩⟩⟩
 ·have hpp:YZ r.2 [2147483647,-2147483647,2147483646,1,-1,0]:=⟨hc,by simp,by simp⟩
  have b2:=Qdc _ _ hpp
  refine ⟨hpp,Q4 ⟨?_,b2.2⟩⟩
  have b3:=b2.1
  simp only [List.mem_cons,List.not_mem_nil,or_false] at b3
  simp only [Q6,Bool.and_eq_true,decide_eq_true_eq]
  omega
 ·have b2:=Z2 r.2 4000 hc
  refine ⟨hc,Q4 ⟨?_,b2.2.2.2⟩⟩
  have h1:=b2.1
  have h2:=b2.2.1 (by omega)
  rw [Qp (x:=_-2000) (by omega) (by omega),Qp (by omega) (by omega)]
  simp only [Q6,Bool.and_eq_true,decide_eq_true_eq]
  omega
 ·have b2:=Z2 r.2 9 hc
  refine ⟨hc,Q4 ⟨?_,b2.2.2.2⟩⟩
  have h1:=b2.1
  have h2:=b2.2.1 (by omega)
  rw [Qp (by omega) (by omega)]
  simp only [Q6,Bool.and_eq_true,decide_eq_true_eq]
  omega
 ·have b2:=Z2 r.2 17 hc
  have hpp:YZ (Qg r.2 17).2 [1,1,2,4,3]:=⟨b2.2.2.2,by simp,by simp⟩
  have b3:=Qdc _ _ hpp
  have b4:=b3.1
  simp only [List.mem_cons,List.not_mem_nil,or_false] at b4
  have h1:=b2.1
  have h2:=b2.2.1 (by omega)
  refine ⟨⟨hc,hpp,by omega⟩,Q4 ⟨?_,b3.2⟩⟩
  have h3:=QCl (a:=((Qg r.2 17).1-8)*65536) (b:=(Zw (Qg r.2 17).2 [1,1,2,4,3]).1) (B:=1000000) (by omega) (by omega) (by omega)
  rw [Qp (x:=_-8) (by omega) (by omega),Qp (x:=_*65536) (by omega) (by omega),Qp (by omega) (by omega)]
  simp only [Q6,Bool.and_eq_true,decide_eq_true_eq]
  omega
theorem Qzm (c:((List Int) × Int × Int)) (hp:Qy c):Qg8 c (QaZ c):=(Classical.epsilon_spec (Qyh c hp)).1
theorem QHs (c:((List Int) × Int × Int)) (hp:Qy c):TCon Tryz.prog 181 [(.bx [(.c (.sl [(.int .u8)]) c.1),(.c TI c.2.1),(.c TI c.2.2)])] (Qa0 (QaZ c)):=(Classical.epsilon_spec (Qyh c hp)).2
theorem Qxk:Qi Tryz.prog QgH:=Qm fun x h=>QHs x.1 h
def QcS (t:Int × (((List Int) × Int × Int))):TRes:=⟨(zci t.1),[],[[(zcs [(.int .u8)] t.2.1),(zci t.2.2.1),(zci t.2.2.2)]],true,[]⟩
def Qcc (x0:((List Int) × Int × Int)):Int × (((List Int) × Int × Int)):=Classical.epsilon fun t:Int × (((List Int) × Int × Int))=>(Qf7 x0 t)∧TCon Tryz.prog 182 [(.bx [(.c (.sl [(.int .u8)]) x0.1),(.c TI x0.2.1),(.c TI x0.2.2)])] (QcS t)
def Qgg:TRow:=Qh 182 [(.b [(.sl [(.int .u8)]),TI,TI])] fun x=>(some (Qy x.1),QcS (Qcc x.1))
def QDa:List TRow:=[Qe8,QbB,QgH]
def QNh:TCode :=
 (zsq [(.reg [zmv 2 (zki 0)]),(zsq [(.reg [zmv 3 0,zca 4 106 [3,(zki 8)]]),(.cond 4 (zsq [(.reg [zmv 5 0,zop 6 (.bsl 3 [TI] [(zki 2147483648),(zki (-2147483648)),(zki 9223372036854775807),(zki (-9223372036854775807))]),zca 7 145 [5,6],zmv 2 7]),.ret]) .skip)]),(.reg [zmv 8 0,zca 9 181 [8],zmv 2 9]),.ret])
def QAT:List (ARv × Md):=[(.t 2,.one .d)]
theorem QEM (c:((List Int) × Int × Int)) (h :
((Zb c (8:Int))∧(zif ((ZF c (8:Int)).1) ((YZ ((ZF c (8:Int)).2) ([(2147483648:Int),(-2147483648:Int),(9223372036854775807:Int),(-9223372036854775807:Int)]))∧K (QcS ((Zw ((ZF c (8:Int)).2) ([(2147483648:Int),(-2147483648:Int),(9223372036854775807:Int),(-9223372036854775807:Int)])).1,((Zw ((ZF c (8:Int)).2) ([(2147483648:Int),(-2147483648:Int),(9223372036854775807:Int),(-9223372036854775807:Int)])).2)))) ((Qy ((ZF c (8:Int)).2))∧K (QcS ((QaZ ((ZF c (8:Int)).2)).1,((QaZ ((ZF c (8:Int)).2)).2))))))):Hold (tawp QDa (1+0) QNh (TQ 1 0 QAT K) (Qf [(.bx [(.c (.sl [(.int .u8)]) c.1),(.c TI c.2.1),(.c TI c.2.2)])])) :=
 Hold.of (by kernel_rfl) h
theorem QpA (c:((List Int) × Int × Int)) (hp:Qy c):∃ t:Int × (((List Int) × Int × Int)),(Qf7 c t)∧TCon Tryz.prog 182 [(.bx [(.c (.sl [(.int .u8)]) c.1),(.c TI c.2.1),(.c TI c.2.2)])] (QcS t):=by
 refine YQ (tcx (n:=10) (sg:=Qgg.sg) Ql (TOk.cons QlY (TOk.cons QdL (TOk.cons Qxk TOk.nil))) (by kernel_rfl) (by kernel_rfl) (QEM (fun r'=>∃ t,(Qf7 c t)∧r'=QcS t) c ?_))
 have b1:=QnL c 8 hp
 generalize ZF c 8=r at b1 ⊢
 have hpp:YZ r.2 [2147483648,-2147483648,9223372036854775807,-9223372036854775807]:=⟨b1,by simp,by simp⟩
 exact ⟨hp,fun _=>⟨hpp,Q4 ((Qdc _ _ hpp).2)⟩,fun _=>⟨b1,Q4 ((Qzm _ b1).2)⟩⟩
theorem QsL (c:((List Int) × Int × Int)) (hp:Qy c):Qf7 c (Qcc c):=(Classical.epsilon_spec (QpA c hp)).1
theorem QMs (c:((List Int) × Int × Int)) (hp:Qy c):TCon Tryz.prog 182 [(.bx [(.c (.sl [(.int .u8)]) c.1),(.c TI c.2.1),(.c TI c.2.2)])] (QcS (Qcc c)):=(Classical.epsilon_spec (QpA c hp)).2
theorem Qwl:Qi Tryz.prog Qgg:=Qm fun x h=>QMs x.1 h
def Qbh (t:(List Int) × (((List Int) × Int × Int))):TRes:=⟨(.r [TI] 0 0 ((t.1).length)),[(.sl 3 [TI] true t.1)],[[(zcs [(.int .u8)] t.2.1),(zci t.2.2.1),(zci t.2.2.2)]],true,[]⟩
def Ya (x0:((List Int) × Int × Int)) (x1:Int):(List Int) × (((List Int) × Int × Int)):=Classical.epsilon fun t:(List Int) × (((List Int) × Int × Int))=>(Qcz x0 x1 t)∧TCon Tryz.prog 105 [(.bx [(.c (.sl [(.int .u8)]) x0.1),(.c TI x0.2.1),(.c TI x0.2.2)]),(.c TI x1)] (Qbh t)
def Qey:TRow:=Qh 105 [(.b [(.sl [(.int .u8)]),TI,TI]),(.c TI)] fun x=>(some (JA x.1 x.2.1),Qbh (Ya x.1 x.2.1))
def Qnv:List TRow:=[QgH]
def QpI:TCode :=
 (zsq [(zsq [(.reg [zmv 8 6,zmv 9 1,zbi 10 .lss 8 9]),(.cond 10 .skip (.exit 0))]),(.block 1 (.reg [zmv 13 5,zmv 14 0,zca 15 181 [14],zop 16 (.bsl 3 [TI] [15]),zop 17 (.app 13 16 3 [TI]),zmv 5 17])),(.reg [zmv 11 6,zbi 12 .add 11 (zki 1),zmv 6 12])])
def Qzl:List (Nat × Md):=[(0,.b [.d,.d,.d]),(1,.one .d),(5,.one .f),(6,.one .d)]
def Qpt:TCode :=
 (zsq [(.reg [zmv 18 5,zmv 4 18]),.ret])
def QO7:TCode :=
 (zsq [(.reg [zmv 4 (.k (.n [TI]))]),(.reg [zop 7 (.bsl 3 [TI] []),zmv 5 7]),(zsq [(.reg [zmv 6 (zki 0)]),(.block 0 (.loop Qzl QpI))]),Qpt])
def QrL:List (ARv × Md):=[(.t 4,.one (.o 3))]
def QvI:Qb:=TQ 1 0 QrL K
def QEY:Qb:=Qseq (tawp Qnv 1 Qpt (QvI K)) (QvI K)
def QH4:Qb:=Qblk 0 (QEY K)
def Qgl (n:Int) (i:Int) (c0:List Int) (c1:Int) (c2:Int) (out:List Int):Prop:=Loop Qnv 1 Qzl QpI (QH4 K) ⟨[(0,(.p 0 0 0)),(1,(zci n)),(5,(.r [TI] 1 0 out.length)),(6,(zci i))],[(0,(.box [(zcs [(.int .u8)] c0),(zci c1),(zci c2)])),(1,(.sl 3 [TI] true out))],2⟩
theorem QqP (n:Int) (i:Int) (c0:List Int) (c1:Int) (c2:Int) (out:List Int) (h :
(zif (decide (i<n)) (((Qy (c0,c1,c2))∧((out.length=out.length∨out.length+1≤out.length)∧out.length+1≤big))∧(Qgl K n (w64 (i+(1:Int))) (((QaZ (c0,c1,c2)).2).1) (((QaZ (c0,c1,c2)).2).2.1) (((QaZ (c0,c1,c2)).2).2.2) (List.take (out.length+1) ((List.take out.length out)++([(QaZ (c0,c1,c2)).1]))))) (K (Qbh ((List.take out.length out),(c0,c1,c2)))))):Qgl K n i c0 c1 c2 out :=
 Loop.of (by kernel_rfl) h
theorem QOi (c:((List Int) × Int × Int)) (n:Int) (h :
(Qgl K n 0 c.1 c.2.1 c.2.2 ([]:List Int))):Hold (tawp Qnv (1+0) QO7 (TQ 1 0 QrL K) (Qf [(.bx [(.c (.sl [(.int .u8)]) c.1),(.c TI c.2.1),(.c TI c.2.2)]),(.c TI n)])) :=
 Hold.of (by kernel_rfl) h
theorem Qyu (c:((List Int) × Int × Int)) (n:Int) (hp:JA c n):∃ t:(List Int) × (((List Int) × Int × Int)),(Qcz c n t)∧TCon Tryz.prog 105 [(.bx [(.c (.sl [(.int .u8)]) c.1),(.c TI c.2.1),(.c TI c.2.2)]),(.c TI n)] (Qbh t):=by
 refine YQ (tcx (n:=19) (sg:=Qey.sg) Ql (TOk.cons Qxk TOk.nil) (by kernel_rfl) (by kernel_rfl) (QOi (fun r'=>∃ t,(Qcz c n t)∧r'=Qbh t) c n ?_))
 obtain ⟨h1,h2⟩:=hp
 refine Qau n.toNat (fun k=>∀ (c0:List Int) (c1 c2:Int) (out:List Int),out.length=k→Zs out=true→Qy (c0,c1,c2)→Qgl (fun r'=>∃ t,(Qcz c n t)∧r'=Qbh t) n (k:Int) c0 c1 c2 out) ?_ ?_ c.1 c.2.1 c.2.2 [] rfl rfl h1
 ·intro c0 c1 c2 out hl hf hc
  refine QqP (fun r'=>∃ t,(Qcz c n t)∧r'=Qbh t) n _ _ _ _ _ ⟨fun h=>by simp at h;omega,fun _=>(Q4 ⟨?_,?_,hc⟩)⟩
  ·simp;omega
  ·simp only [List.take_length];exact hf
 ·intro k hk ih c0 c1 c2 out hl hf hc
  have b:=Qzm (c0,c1,c2) hc
  refine QqP (fun r'=>∃ t,(Qcz c n t)∧r'=Qbh t) n _ _ _ _ _ ⟨fun _=>⟨⟨hc,.inl rfl,by rw [Zx];omega⟩,?_⟩,fun h=>by simp at h;omega⟩
  rw [sc1 (by omega),Zv]
  exact ih _ _ _ _ (by simp;omega) (QNB hf b.1) b.2
theorem Qeh (c:((List Int) × Int × Int)) (n:Int) (hp:JA c n):Qcz c n (Ya c n):=(Classical.epsilon_spec (Qyu c n hp)).1
theorem QGx (c:((List Int) × Int × Int)) (n:Int) (hp:JA c n):TCon Tryz.prog 105 [(.bx [(.c (.sl [(.int .u8)]) c.1),(.c TI c.2.1),(.c TI c.2.2)]),(.c TI n)] (Qbh (Ya c n)):=(Classical.epsilon_spec (Qyu c n hp)).2
theorem QlQ:Qi Tryz.prog Qey:=Qm fun x h=>QGx x.1 x.2.1 h
def QbC (t:(List Int) × (((List Int) × Int × Int))):TRes:=⟨(zcs [TI] t.1),[],[[(zcs [(.int .u8)] t.2.1),(zci t.2.2.1),(zci t.2.2.2)]],true,[]⟩
def Qej (x0:((List Int) × Int × Int)):(List Int) × (((List Int) × Int × Int)):=Classical.epsilon fun t:(List Int) × (((List Int) × Int × Int))=>(Qge x0 t)∧TCon Tryz.prog 107 [(.bx [(.c (.sl [(.int .u8)]) x0.1),(.c TI x0.2.1),(.c TI x0.2.2)])] (QbC t)
def Qky:TRow:=Qh 107 [(.b [(.sl [(.int .u8)]),TI,TI])] fun x=>(some (Qy x.1),QbC (Qej x.1))
def QMu:List TRow:=[Jy,Qey,Qgg,QbB]
def QQy:TCode :=
 (zsq [(.reg [zmv 2 (.k (.n [TI]))]),(.reg [zmv 4 0,zmv 5 0,zca 6 108 [5,(zki 4)],zbi 7 .add (zki 1) 6,zca 8 105 [4,7],zmv 3 8]),(zsq [(.reg [zmv 9 0,zca 10 108 [9,(zki 16)]]),(.block 0 (zsq [(.reg [zbi 12 .eql 10 (zki 0),zmv 11 12]),(.cond 11 (.reg [zmv 13 3,zmv 14 0,zca 15 182 [14],zia 16 13 (zki 0) [TI],zst 16 15 1]) (zsq [(.reg [zbi 18 .eql 10 (zki 1),zmv 17 18]),(.cond 17 (zsq [(.reg [zmv 19 0,zmv 20 0,zop 21 (.bsl 3 [TI] [(zki 0),(zki 6),(zki 7)]),zca 22 145 [20,21],zca 23 105 [19,22],zmv 2 23]),.ret]) .skip)]))]))]),(.reg [zmv 24 3,zmv 2 24]),.ret])
def QE9:List (ARv × Md):=[(.t 2,.one .d)]
theorem QQo (c:((List Int) × Int × Int)) (h :
let z3:=Qg c (4:Int)
let z1:=Ya (z3.2) (w64 ((1:Int)+(z3.1)))
let z2:=Qg (z1.2) (16:Int)
(((Zb c (4:Int))∧(JA (z3.2) (w64 ((1:Int)+(z3.1)))))∧((Zb (z1.2) (16:Int))∧(zif ((z2.1)==(0:Int)) (((Qy (z2.2))∧(((0:Int)≤(0:Int)∧Int.toNat (0:Int)<(z1.1).length)∧((0+(Int.toNat (0:Int)))<(z1.1).length)))∧K (QbC ((List.take ((z1.1).length) (List.drop 0 ((z1.1).set (0+(Int.toNat (0:Int))) ((Qcc (z2.2)).1)))),((Qcc (z2.2)).2)))) (zif ((z2.1)==(1:Int)) (((YZ (z2.2) ([(0:Int),(6:Int),(7:Int)]))∧(JA ((Zw (z2.2) ([(0:Int),(6:Int),(7:Int)])).2) ((Zw (z2.2) ([(0:Int),(6:Int),(7:Int)])).1)))∧K (QbC ((List.take (((Ya ((Zw (z2.2) ([(0:Int),(6:Int),(7:Int)])).2) ((Zw (z2.2) ([(0:Int),(6:Int),(7:Int)])).1)).1).length) (List.drop 0 ((Ya ((Zw (z2.2) ([(0:Int),(6:Int),(7:Int)])).2) ((Zw (z2.2) ([(0:Int),(6:Int),(7:Int)])).1)).1))),((Ya ((Zw (z2.2) ([(0:Int),(6:Int),(7:Int)])).2) ((Zw (z2.2) ([(0:Int),(6:Int),(7:Int)])).1)).2)))) (K (QbC ((List.take ((z1.1).length) (List.drop 0 (z1.1))),(z2.2))))))))):Hold (tawp QMu (1+0) QQy (TQ 1 0 QE9 K) (Qf [(.bx [(.c (.sl [(.int .u8)]) c.1),(.c TI c.2.1),(.c TI c.2.2)])])) :=
 Hold.of (by kernel_rfl) h
theorem Qrh (c:((List Int) × Int × Int)) (hp:Qy c):∃ t:(List Int) × (((List Int) × Int × Int)),(Qge c t)∧TCon Tryz.prog 107 [(.bx [(.c (.sl [(.int .u8)]) c.1),(.c TI c.2.1),(.c TI c.2.2)])] (QbC t):=by
 refine YQ (tcx (n:=25) (sg:=Qky.sg) Ql (TOk.cons JT (TOk.cons QlQ (TOk.cons Qwl (TOk.cons QdL TOk.nil)))) (by kernel_rfl) (by kernel_rfl) (QQo (fun r'=>∃ t,(Qge c t)∧r'=QbC t) c ?_))
 conv=>zeta
 have b1:=Z2 c 4 hp
 generalize Qg c 4=r1 at b1 ⊢
 have h1:=b1.1
 have h2:=b1.2.1 (by omega)
 rw [Qp (x:=1+r1.1) (by omega) (by omega)]
 have hv:JA r1.2 (1+r1.1):=⟨b1.2.2.2,by omega⟩
 have b2:=Qeh _ _ hv
 generalize Ya r1.2 (1+r1.1)=r2 at b2 ⊢
 have b3:=Z2 r2.2 16 b2.2.2
 generalize Qg r2.2 16=r3 at b3 ⊢
 have hc:=b3.2.2.2
 have hl:=b2.1
 have hpk:YZ r3.2 [0,6,7]:=⟨hc,by simp,by simp⟩
 have b4:=Qdc _ _ hpk
 have b5:=b4.1
 simp only [List.mem_cons,List.not_mem_nil,or_false] at b5
 have hv2:JA (Zw r3.2 [0,6,7]).2 (Zw r3.2 [0,6,7]).1:=⟨b4.2,by omega⟩
 have b6:=Qeh _ _ hv2
 have hl2:=b6.1
 refine ⟨⟨hp,hv⟩,b2.2.2,fun _=>⟨⟨hc,⟨by omega,?_⟩,?_⟩,Q4 ⟨?_,QsL _ hc⟩⟩,fun _=>⟨fun _=>⟨⟨hpk,hv2⟩,Q4 ⟨?_,b6.2.2⟩⟩,fun _=>(Q4 ⟨?_,hc⟩)⟩⟩ <;> (simp;omega)
theorem QLv (c:((List Int) × Int × Int)) (hp:Qy c):Qge c (Qej c):=(Classical.epsilon_spec (Qrh c hp)).1
theorem QBA (c:((List Int) × Int × Int)) (hp:Qy c):TCon Tryz.prog 107 [(.bx [(.c (.sl [(.int .u8)]) c.1),(.c TI c.2.1),(.c TI c.2.2)])] (QbC (Qej c)):=(Classical.epsilon_spec (Qrh c hp)).2
theorem QKz:Qi Tryz.prog Qky:=Qm fun x h=>QBA x.1 h
def Qb1 (t:TOp' × (((List Int) × Int × Int))):TRes:=⟨(.a [(zci t.1.1),(zci t.1.2.1),(zci t.1.2.2.1),(.r [TI] 0 0 ((t.1.2.2.2).length))]),[(.sl 3 [TI] true t.1.2.2.2)],[[(zcs [(.int .u8)] t.2.1),(zci t.2.2.1),(zci t.2.2.2)]],true,[]⟩
def e_op (x0:((List Int) × Int × Int)) (x1:Int):TOp' × (((List Int) × Int × Int)):=Classical.epsilon fun t:TOp' × (((List Int) × Int × Int))=>(q_op x0 x1 t)∧TCon Tryz.prog 223 [(.bx [(.c (.sl [(.int .u8)]) x0.1),(.c TI x0.2.1),(.c TI x0.2.2)]),(.c TI x1)] (Qb1 t)
def Qgb:TRow:=Qh 223 [(.b [(.sl [(.int .u8)]),TI,TI]),(.c TI)] fun x=>(some (p_op x.1 x.2.1),Qb1 (e_op x.1 x.2.1))
def Qsf:List TRow:=[Jy,Qiy,Qey]
def Qsj:TCode :=
 (zsq [(.reg [zmv 19 0,zLd 20 5 4,zca 21 202 [20],zca 22 105 [19,21],zfa 23 5 3,zst 23 22 1]),(.reg [zLd 24 5 4,zst 4 24 4]),.ret])
def QPn:List (Nat × Md):=[(0,.b [.d,.d,.d]),(4,.b (zds 4)),(5,.b (zds 4))]
def QLI:TCode:=.wk QPn Qsj
def QMQ:TCode :=
 (zsq [(.reg [zop 4 (.new 69 (z0s ctOp))]),(.reg [zmv 6 0,zca 7 108 [6,(zki 5)],zbi 8 .add (zki 1) 7,zmv 9 1,zmv 10 1,zop 11 (.build (z0s ctOp) [(0,1,8),(1,1,9),(2,1,10)]),zop 5 (.new 69 (z0s ctOp)),zst 5 11 4]),(zsq [(.reg [zfa 12 5 0,zld 13 12 1,zbi 14 .eql 13 (zki 1)]),(.cond 14 (.reg [zmv 15 0,zca 16 108 [15,(zki 3)],zbi 17 .add (zki 1) 16,zfa 18 5 2,zst 18 17 1]) .skip)]),QLI])
def Qwm:List (ARv × Md):=[(.l 4 4 true,.b [.d,.d,.d,.o 3])]
def QFK:Qb:=TQ 1 0 Qwm K
def Qih (c:((List Int) × Int × Int)) (inn:Int) (c0:List Int) (c1:Int) (c2:Int) (o2:Int):Prop:=tawp Qsf 1 Qsj (QFK K) ⟨[(0,(.p 0 0 0)),(4,(.p 1 0 0)),(5,(.p 2 0 0))],[(0,(.box [(zcs [(.int .u8)] c0),(zci c1),(zci c2)])),(1,(.box (Tup.cells ctOp ((0:Int),(0:Int),(0:Int),[])))),(2,(.box (Tup.cells ctOp (w64 ((1:Int)+((Qg c (5:Int)).1)),inn,o2,[]))))],3⟩
theorem QKm (c:((List Int) × Int × Int)) (inn:Int) (c0:List Int) (c1:Int) (c2:Int) (o2:Int) (h :
((JA (c0,c1,c2) (ZY (w64 ((1:Int)+((Qg c (5:Int)).1)),inn,o2,[])))∧K (Qb1 ((w64 ((1:Int)+((Qg c (5:Int)).1)),inn,o2,(List.take (((Ya (c0,c1,c2) (ZY (w64 ((1:Int)+((Qg c (5:Int)).1)),inn,o2,[]))).1).length) ((Ya (c0,c1,c2) (ZY (w64 ((1:Int)+((Qg c (5:Int)).1)),inn,o2,[]))).1))),((Ya (c0,c1,c2) (ZY (w64 ((1:Int)+((Qg c (5:Int)).1)),inn,o2,[]))).2))))):Hold (Qih K c inn c0 c1 c2 o2) :=
 Hold.of (by kernel_rfl) h
theorem QH6 (c:((List Int) × Int × Int)) (inn:Int) (h :
((Zb c (5:Int))∧(zif ((w64 ((1:Int)+((Qg c (5:Int)).1)))==(1:Int)) ((Zb ((Qg c (5:Int)).2) (3:Int))∧(Qih K c inn (((Qg ((Qg c (5:Int)).2) (3:Int)).2).1) (((Qg ((Qg c (5:Int)).2) (3:Int)).2).2.1) (((Qg ((Qg c (5:Int)).2) (3:Int)).2).2.2) (w64 ((1:Int)+((Qg ((Qg c (5:Int)).2) (3:Int)).1))))) (Qih K c inn (((Qg c (5:Int)).2).1) (((Qg c (5:Int)).2).2.1) (((Qg c (5:Int)).2).2.2) inn)))):Hold (tawp Qsf (1+0) QMQ (TQ 1 0 Qwm K) (Qf [(.bx [(.c (.sl [(.int .u8)]) c.1),(.c TI c.2.1),(.c TI c.2.2)]),(.c TI inn)])) :=
 Hold.of (by kernel_rfl) h
theorem Qsp (c:((List Int) × Int × Int)) (inn:Int) (hp:p_op c inn):∃ t:TOp' × (((List Int) × Int × Int)),(q_op c inn t)∧TCon Tryz.prog 223 [(.bx [(.c (.sl [(.int .u8)]) c.1),(.c TI c.2.1),(.c TI c.2.2)]),(.c TI inn)] (Qb1 t):=by
 refine YQ (tcx (n:=25) (sg:=Qgb.sg) Ql (TOk.cons JT (TOk.cons Qsy (TOk.cons QlQ TOk.nil))) (by kernel_rfl) (by kernel_rfl) (QH6 (fun r'=>∃ t,(q_op c inn t)∧r'=Qb1 t) c inn ?_))
 have b1:=Z2 c 5 hp.1
 have h1:=b1.1
 have h2:=b1.2.1 (by omega)
 obtain ⟨_,h3,h4⟩:=hp
 have hw:w64 (1+(Qg c 5).1)=1+(Qg c 5).1:=Qp (by omega) (by omega)
 have key:∀ c0 c1 c2 o2,Qy (c0,c1,c2)→1≤o2→o2≤3→(1+(Qg c 5).1=1∨inn=o2)→Qih (fun r'=>∃ t,(q_op c inn t)∧r'=Qb1 t) c inn c0 c1 c2 o2:=by
  intro c0 c1 c2 o2 hc k1 k2 k3
  refine (QKm (fun r'=>∃ t,(q_op c inn t)∧r'=Qb1 t) c inn c0 c1 c2 o2 ?_).h
  rw [hw]
  have h5:1≤1+(Qg c 5).1:=by omega
  have h6:1+(Qg c 5).1≤5:=by omega
  generalize 1+(Qg c 5).1=o1 at h5 h6 k3 ⊢
  have hs:=Qwi o1 [] h3 h4 k1 k2
  have hv:JA (c0,c1,c2) (ZY (o1,inn,o2,[])):=⟨hc,by omega⟩
  have b:=Qeh _ _ hv
  have hl:=b.1
  refine ⟨hv,Q4 ⟨?_,rfl,k1,k2,?_,b.2.2⟩⟩
  ·simp only [List.take_length]
   exact QQ7 h5 h6 h3 h4 k1 k2 k3 hl b.2.1
  ·simp;omega
 have b2:=Z2 (Qg c 5).2 3 b1.2.2.2
 have h7:=b2.1
 have h8:=b2.2.1 (by omega)
 rw [hw] at *
 refine ⟨‹Qy c›,fun h=>⟨b1.2.2.2,?_⟩,fun _=>key _ _ _ _ b1.2.2.2 h3 h4 (.inr rfl)⟩
 rw [Qp (x:=1+(Qg (Qg c 5).2 3).1) (by omega) (by omega)]
 exact key _ _ _ _ b2.2.2.2 (by omega) (by omega) (.inl (by simpa using h))
theorem QxL (c:((List Int) × Int × Int)) (inn:Int) (hp:p_op c inn):q_op c inn (e_op c inn):=(Classical.epsilon_spec (Qsp c inn hp)).1
theorem QI7 (c:((List Int) × Int × Int)) (inn:Int) (hp:p_op c inn):TCon Tryz.prog 223 [(.bx [(.c (.sl [(.int .u8)]) c.1),(.c TI c.2.1),(.c TI c.2.2)]),(.c TI inn)] (Qb1 (e_op c inn)):=(Classical.epsilon_spec (Qsp c inn hp)).2
theorem QzD:Qi Tryz.prog Qgb:=Qm fun x h=>QI7 x.1 x.2.1 h
def J9 (t:TOp' × (((List Int) × Int × Int))):TRes:=⟨(.a (Tup.cells ctOp t.1)),[],[[(zcs [(.int .u8)] t.2.1),(zci t.2.2.1),(zci t.2.2.2)]],true,[]⟩
def QfA (x0:((List Int) × Int × Int)):TOp' × (((List Int) × Int × Int)):=Classical.epsilon fun t:TOp' × (((List Int) × Int × Int))=>(Qjb x0 t)∧TCon Tryz.prog 201 [(.bx [(.c (.sl [(.int .u8)]) x0.1),(.c TI x0.2.1),(.c TI x0.2.2)])] (J9 t)
def QjY:TRow:=Qh 201 [(.b [(.sl [(.int .u8)]),TI,TI])] fun x=>(some (Qy x.1),J9 (QfA x.1))
def QQC:List TRow:=[Jy,Qgb,QbB,Qgg]
def QJG:TCode :=
 (zsq [(.reg [zop 2 (.new 69 (z0s ctOp))]),(.reg [zmv 4 0,zmv 5 0,zca 6 108 [5,(zki 3)],zbi 7 .add (zki 1) 6,zca 8 223 [4,7],zop 3 (.new 69 (z0s ctOp)),zst 3 8 4]),(zsq [(.reg [zmv 9 0,zca 10 108 [9,(zki 14)]]),(.block 0 (zsq [(.reg [zbi 12 .eql 10 (zki 0),zmv 11 12]),(.cond 11 (.reg [zmv 13 0,zca 14 108 [13,(zki 8)],zbi 15 .sub 14 (zki 1),zfa 16 3 0,zst 16 15 1]) (zsq [(.reg [zbi 18 .eql 10 (zki 1),zmv 17 18]),(.cond 17 (.reg [zmv 19 0,zfa 20 3 1,zld 21 20 1,zbi 22 .add 21 (zki 1),zop 23 (.bsl 3 [TI] [(zki 0),(zki 7),22]),zca 24 145 [19,23],zfa 25 3 1,zst 25 24 1]) (zsq [(.reg [zbi 27 .eql 10 (zki 2),zmv 26 27]),(.cond 26 (.reg [zfa 28 3 3,zld 29 28 1,zop 30 (.bsl 3 [TI] [(zki 0)]),zop 31 (.app 29 30 3 [TI]),zfa 32 3 3,zst 32 31 1]) (zsq [(.reg [zbi 34 .eql 10 (zki 3),zmv 33 34]),(.cond 33 (zsq [(.reg [zfa 35 3 3,zld 36 35 1,zle 37 36,zbi 38 .gtr 37 (zki 0)]),(.cond 38 (.draw [zfa 39 3 3,zld 40 39 1,zmv 41 0,zca 42 182 [41],zia 43 40 (zki 0) [TI],zst 43 42 1] [(0,3),(1,3)]) .skip)]) .skip)]))]))]))]))]),(.reg [zLd 44 3 4,zst 2 44 4]),.ret])
def QEw:List (ARv × Md):=[(.l 2 4 true,.b (zds 4))]
theorem QIS (c:((List Int) × Int × Int)) (h :
let z4:=Qg c (3:Int)
let z1:=e_op (z4.2) (w64 ((1:Int)+(z4.1)))
let z2:=Qg (z1.2) (14:Int)
let z3:=List.take (((z1.1).2.2.2).length) (List.drop 0 ((z1.1).2.2.2))
(((Zb c (3:Int))∧(p_op (z4.2) (w64 ((1:Int)+(z4.1)))))∧((Zb (z1.2) (14:Int))∧(zif ((z2.1)==(0:Int)) ((Zb (z2.2) (8:Int))∧K (J9 ((w64 (((Qg (z2.2) (8:Int)).1)-(1:Int)),(z1.1).2.1,(z1.1).2.2.1,z3),((Qg (z2.2) (8:Int)).2)))) (zif ((z2.1)==(1:Int)) ((YZ (z2.2) ([(0:Int),(7:Int),w64 (((z1.1).2.1)+(1:Int))]))∧K (J9 (((z1.1).1,(Zw (z2.2) ([(0:Int),(7:Int),w64 (((z1.1).2.1)+(1:Int))])).1,(z1.1).2.2.1,z3),((Zw (z2.2) ([(0:Int),(7:Int),w64 (((z1.1).2.1)+(1:Int))])).2)))) (zif ((z2.1)==(2:Int)) (((((z1.1).2.2.2).length=((z1.1).2.2.2).length∨((z1.1).2.2.2).length+1≤((z1.1).2.2.2).length)∧((z1.1).2.2.2).length+1≤big)∧K (J9 (((z1.1).1,(z1.1).2.1,(z1.1).2.2.1,(List.take (((z1.1).2.2.2).length+1) (List.drop 0 ((List.take (((z1.1).2.2.2).length) ((z1.1).2.2.2))++([(0:Int)]))))),(z2.2)))) (zif ((z2.1)==(3:Int)) (zif (decide (((((z1.1).2.2.2).length:Nat):Int)>(0:Int))) (((Qy (z2.2))∧(((0:Int)≤(0:Int)∧Int.toNat (0:Int)<((z1.1).2.2.2).length)∧((0+(Int.toNat (0:Int)))<((z1.1).2.2.2).length)))∧K (J9 (((z1.1).1,(z1.1).2.1,(z1.1).2.2.1,(List.take (((z1.1).2.2.2).length) (List.drop 0 (((z1.1).2.2.2).set (0+(Int.toNat (0:Int))) ((Qcc (z2.2)).1))))),((Qcc (z2.2)).2)))) (K (J9 (((z1.1).1,(z1.1).2.1,(z1.1).2.2.1,z3),(z2.2))))) (K (J9 (((z1.1).1,(z1.1).2.1,(z1.1).2.2.1,z3),(z2.2))))))))))):Hold (tawp QQC (1+0) QJG (TQ 1 0 QEw K) (Qf [(.bx [(.c (.sl [(.int .u8)]) c.1),(.c TI c.2.1),(.c TI c.2.2)])])) :=
 Hold.of (by kernel_rfl) h
theorem Qza (c:((List Int) × Int × Int)) (hp:Qy c):∃ t:TOp' × (((List Int) × Int × Int)),(Qjb c t)∧TCon Tryz.prog 201 [(.bx [(.c (.sl [(.int .u8)]) c.1),(.c TI c.2.1),(.c TI c.2.2)])] (J9 t):=by
 refine YQ (tcx (n:=45) (sg:=QjY.sg) Ql (TOk.cons JT (TOk.cons QzD (TOk.cons QdL (TOk.cons Qwl TOk.nil)))) (by kernel_rfl) (by kernel_rfl) (QIS (fun r'=>∃ t,(Qjb c t)∧r'=J9 t) c ?_))
 conv=>zeta
 have b1:=Z2 c 3 hp
 generalize Qg c 3=r1 at b1 ⊢
 have h1:=b1.1
 have h2:=b1.2.1 (by omega)
 rw [Qp (x:=1+r1.1) (by omega) (by omega)]
 have ho:p_op r1.2 (1+r1.1):=⟨b1.2.2.2,by omega,by omega⟩
 have b2:=QxL _ _ ho
 generalize e_op r1.2 (1+r1.1)=r2 at b2 ⊢
 have hl:=b2.2.2.2.2.1
 have hc2:=b2.2.2.2.2.2
 have b3:=(Z2 r2.2 14 hc2).2.2.2
 generalize Qg r2.2 14=r3 at b3 ⊢
 refine ⟨⟨hp,ho⟩,hc2,fun _=>⟨b3,Q4 ⟨?_,(Z2 _ _ b3).2.2.2⟩⟩,fun _=>⟨fun _=>⟨⟨b3,by simp,by simp⟩,Q4 ⟨?_,(Qdc _ _ ⟨b3,by simp,by simp⟩).2⟩⟩,fun _=>⟨fun _=>⟨⟨.inl rfl,by rw [Zx];omega⟩,Q4 ⟨?_,b3⟩⟩,fun _=>⟨fun _=>⟨fun hh=>⟨⟨b3,⟨by omega,by simpa using hh⟩,by simpa using hh⟩,Q4 ⟨?_,QsL _ b3⟩⟩,fun _=>(Q4 ⟨?_,b3⟩)⟩,fun _=>(Q4 ⟨?_,b3⟩)⟩⟩⟩⟩
 all_goals first
  | (simp;omega)
  | omega
  | skip
theorem QD6 (c:((List Int) × Int × Int)) (hp:Qy c):Qjb c (QfA c):=(Classical.epsilon_spec (Qza c hp)).1
theorem QCY (c:((List Int) × Int × Int)) (hp:Qy c):TCon Tryz.prog 201 [(.bx [(.c (.sl [(.int .u8)]) c.1),(.c TI c.2.1),(.c TI c.2.2)])] (J9 (QfA c)):=(Classical.epsilon_spec (Qza c hp)).2
theorem QBQ:Qi Tryz.prog QjY:=Qm fun x h=>QCY x.1 h
def Qbe (t:(List TOp') × (((List Int) × Int × Int))):TRes:=⟨(.a [(.r ctOp 0 0 ((t.1).length))]),[(.sl 69 ctOp true t.1)],[[(zcs [(.int .u8)] t.2.1),(zci t.2.2.1),(zci t.2.2.2)]],true,[]⟩
def Zp (x0:((List Int) × Int × Int)):(List TOp') × (((List Int) × Int × Int)):=Classical.epsilon fun t:(List TOp') × (((List Int) × Int × Int))=>(Qb9 x0 t)∧TCon Tryz.prog 198 [(.bx [(.c (.sl [(.int .u8)]) x0.1),(.c TI x0.2.1),(.c TI x0.2.2)])] (Qbe t)
def Qig:TRow:=Qh 198 [(.b [(.sl [(.int .u8)]),TI,TI])] fun x=>(some (Qy x.1),Qbe (Zp x.1))
def QnG:List TRow:=[Jy,Qgb]
def Qxb:TCode :=
 (zsq [(zsq [(.reg [zmv 14 5,zbi 15 .gtr 14 (zki 0)]),(.cond 15 .skip (.exit 0))]),(.block 1 (zsq [(.reg [zmv 18 0,zmv 19 4,zca 20 223 [18,19],zop 6 (.new 69 (z0s ctOp)),zst 6 20 4]),(.reg [zfa 21 3 0,zld 22 21 1,zLd 23 6 4,zop 24 (.bsl 69 ctOp [23]),zop 25 (.app 22 24 69 ctOp),zfa 26 3 0,zst 26 25 1]),(.reg [zfa 27 6 2,zld 28 27 1,zmv 4 28])])),(.reg [zmv 16 5,zbi 17 .sub 16 (zki 1),zmv 5 17])])
def QuN:List (Nat × Md):=[(0,.b [.d,.d,.d]),(2,.b [.d]),(3,.b [.o 69]),(4,.one .d),(5,.one .d)]
def Qu3:TCode :=
 (zsq [(.reg [zLd 29 3 1,zst 2 29 1]),.ret])
def QN8:TCode :=
 (zsq [(.reg [zop 2 (.new 26 [(.n ctOp)])]),(.reg [zop 7 (.build [(.n ctOp)] []),zop 3 (.new 26 [(.n ctOp)]),zst 3 7 1]),(.reg [zmv 8 0,zca 9 108 [8,(zki 3)],zbi 10 .add (zki 1) 9,zmv 4 10]),(zsq [(.reg [zmv 11 0,zca 12 108 [11,(zki 6)],zbi 13 .add (zki 1) 12,zmv 5 13]),(.block 0 (.loop QuN Qxb))]),Qu3])
def QyO:List (ARv × Md):=[(.l 2 1 true,.b [.o 69])]
def QzZ:Qb:=TQ 1 0 QyO K
def QHV:Qb:=Qseq (tawp QnG 1 Qu3 (QzZ K)) (QzZ K)
def QGg:Qb:=Qblk 0 (QHV K)
def Qi6 (inn:Int) (n:Int) (c0:List Int) (c1:Int) (c2:Int) (m0:List TOp'):Prop:=Loop QnG 1 QuN Qxb (QGg K) ⟨[(0,(.p 0 0 0)),(2,(.p 1 0 0)),(3,(.p 3 0 0)),(4,(zci inn)),(5,(zci n))],[(0,(.box [(zcs [(.int .u8)] c0),(zci c1),(zci c2)])),(1,(.box [(zcs ctOp ([]))])),(2,(.sl 69 ctOp true m0)),(3,(.box [(.r ctOp 2 0 m0.length)]))],4⟩
theorem Qu8 (inn:Int) (n:Int) (c0:List Int) (c1:Int) (c2:Int) (m0:List TOp') (h :
(zif (decide (n>(0:Int))) ((p_op (c0,c1,c2) inn)∧(((m0.length=m0.length∨m0.length+1≤m0.length)∧m0.length+1≤big)∧(Qi6 K (((e_op (c0,c1,c2) inn).1).2.2.1) (w64 (n-(1:Int))) (((e_op (c0,c1,c2) inn).2).1) (((e_op (c0,c1,c2) inn).2).2.1) (((e_op (c0,c1,c2) inn).2).2.2) (List.take (m0.length+1) ((List.take m0.length m0)++([(((e_op (c0,c1,c2) inn).1).1,((e_op (c0,c1,c2) inn).1).2.1,((e_op (c0,c1,c2) inn).1).2.2.1,(List.take ((((e_op (c0,c1,c2) inn).1).2.2.2).length) (List.drop 0 (((e_op (c0,c1,c2) inn).1).2.2.2))))])))))) (K (Qbe ((List.take m0.length m0),(c0,c1,c2)))))):Qi6 K inn n c0 c1 c2 m0 :=
 Loop.of (by kernel_rfl) h
theorem QMA (c:((List Int) × Int × Int)) (h :
((Zb c (3:Int))∧((Zb ((Qg c (3:Int)).2) (6:Int))∧(Qi6 K (w64 ((1:Int)+((Qg c (3:Int)).1))) (w64 ((1:Int)+((Qg ((Qg c (3:Int)).2) (6:Int)).1))) (((Qg ((Qg c (3:Int)).2) (6:Int)).2).1) (((Qg ((Qg c (3:Int)).2) (6:Int)).2).2.1) (((Qg ((Qg c (3:Int)).2) (6:Int)).2).2.2) ([]:List TOp'))))):Hold (tawp QnG (1+0) QN8 (TQ 1 0 QyO K) (Qf [(.bx [(.c (.sl [(.int .u8)]) c.1),(.c TI c.2.1),(.c TI c.2.2)])])) :=
 Hold.of (by kernel_rfl) h
theorem QsT (c:((List Int) × Int × Int)) (hp:Qy c):∃ t:(List TOp') × (((List Int) × Int × Int)),(Qb9 c t)∧TCon Tryz.prog 198 [(.bx [(.c (.sl [(.int .u8)]) c.1),(.c TI c.2.1),(.c TI c.2.2)])] (Qbe t):=by
 refine YQ (tcx (n:=30) (sg:=Qig.sg) Ql (TOk.cons JT (TOk.cons QzD TOk.nil)) (by kernel_rfl) (by kernel_rfl) (QMA (fun r'=>∃ t,(Qb9 c t)∧r'=Qbe t) c ?_))
 have b1:=Z2 c 3 hp
 generalize Qg c 3=r1 at b1 ⊢
 have b2:=Z2 r1.2 6 b1.2.2.2
 generalize Qg r1.2 6=r2 at b2 ⊢
 have h1:=b1.1
 have h2:=b1.2.1 (by omega)
 have h3:=b2.1
 have h4:=b2.2.1 (by omega)
 rw [Qp (x:=1+r1.1) (by omega) (by omega),Qp (x:=1+r2.1) (by omega) (by omega)]
 refine ⟨hp,b1.2.2.2,?_⟩
 have key:∀ (k:Nat) (inn c1 c2:Int) (c0:List Int) (m0:Q5),Qy (c0,c1,c2)→1≤inn→inn≤3→m0.length+k≤6→1≤m0.length+k→Ye none m0=true→QhR none m0 inn=true→Qi6 (fun r'=>∃ t,(Qb9 c t)∧r'=Qbe t) inn (k:Int) c0 c1 c2 m0:=by
  intro k
  induction k with
  | zero =>
   intro inn c1 c2 c0 m0 hc k1 k2 k3 k4 k5 k6
   refine Qu8 (fun r'=>∃ t,(Qb9 c t)∧r'=Qbe t) _ _ _ _ _ _ ⟨fun h=>by simp at h,fun _=>(Q4 ⟨?_,?_,hc⟩)⟩
   ·simp only [List.take_length,QN,Bool.and_eq_true,QR]
    exact ⟨by omega,k5⟩
   ·simp only [List.take_length];omega
  | succ k ih =>
   intro inn c1 c2 c0 m0 hc k1 k2 k3 k4 k5 k6
   have ho:p_op (c0,c1,c2) inn:=⟨hc,k1,k2⟩
   have b:=QxL _ _ ho
   refine Qu8 (fun r'=>∃ t,(Qb9 c t)∧r'=Qbe t) _ _ _ _ _ _ ⟨fun _=>⟨ho,⟨.inl rfl,by rw [Zx];omega⟩,?_⟩,fun h=>by simp at h <;> omega⟩
   rw [Zv,Qp (x:=((k+1:Nat):Int)-1) (by omega) (by omega),show ((k+1:Nat):Int)-1=k by omega]
   refine ih _ _ _ _ _ b.2.2.2.2.2 b.2.2.1 b.2.2.2.1 (by simp;omega) (by simp;omega) (QqU _ _ _ k5 ?_ ?_) ?_
   ·simp only [List.drop_zero,List.take_length];exact b.1
   ·rw [show (((e_op (c0,c1,c2) inn).1.1,(e_op (c0,c1,c2) inn).1.2.1,(e_op (c0,c1,c2) inn).1.2.2.1,List.take (e_op (c0,c1,c2) inn).1.2.2.2.length (List.drop 0 (e_op (c0,c1,c2) inn).1.2.2.2)):TOp').2.1=inn from b.2.1]
    exact k6
   ·exact QyZ _ _ _
 have h:=key (1+r2.1).toNat (1+r1.1) r2.2.2.1 r2.2.2.2 r2.2.1 [] b2.2.2.2 (by omega) (by omega) (by simp;omega) (by simp;omega) rfl rfl
 rw [Int.toNat_of_nonneg (by omega)] at h
 exact h
theorem QsQ (c:((List Int) × Int × Int)) (hp:Qy c):Qb9 c (Zp c):=(Classical.epsilon_spec (QsT c hp)).1
theorem QOO (c:((List Int) × Int × Int)) (hp:Qy c):TCon Tryz.prog 198 [(.bx [(.c (.sl [(.int .u8)]) c.1),(.c TI c.2.1),(.c TI c.2.2)])] (Qbe (Zp c)):=(Classical.epsilon_spec (QsT c hp)).2
theorem QqA:Qi Tryz.prog Qig:=Qm fun x h=>QOO x.1 h
def JR (t:(List TOp') × (((List Int) × Int × Int))):TRes:=⟨(.a [(zcs ctOp t.1)]),[],[[(zcs [(.int .u8)] t.2.1),(zci t.2.2.1),(zci t.2.2.2)]],true,[]⟩
def Qf4 (x0:((List Int) × Int × Int)):(List TOp') × (((List Int) × Int × Int)):=Classical.epsilon fun t:(List TOp') × (((List Int) × Int × Int))=>(QdQ x0 t)∧TCon Tryz.prog 144 [(.bx [(.c (.sl [(.int .u8)]) x0.1),(.c TI x0.2.1),(.c TI x0.2.2)])] (JR t)
def Qnz:TRow:=Qh 144 [(.b [(.sl [(.int .u8)]),TI,TI])] fun x=>(some (Qy x.1),JR (Qf4 x.1))
def QlI:List TRow:=[Qig,Jy,QjY]
def QuJ:TCode :=
 (zsq [(zsq [(.draw [zfa 31 3 0,zld 32 31 1,zle 33 32,zmv 34 0,zca 35 108 [34,(zki 2)],zbi 36 .add (zki 8) 35,zbi 37 .lss 33 36] [(0,4),(1,4),(2,4)]),(.cond 37 .skip (.exit 1))]),(.block 2 (.draw [zfa 38 3 0,zld 39 38 1,zfa 40 3 0,zld 41 40 1,zfa 42 3 0,zld 43 42 1,zle 44 43,zbi 45 .sub 44 (zki 1),zia 46 41 45 ctOp,zfa 47 46 2,zld 48 47 1,zfa 49 3 0,zld 50 49 1,zfa 51 3 0,zld 52 51 1,zle 53 52,zbi 54 .sub 53 (zki 1),zia 55 50 54 ctOp,zfa 56 55 2,zld 57 56 1,zop 58 (.build (z0s ctOp) [(0,1,(zki 3)),(1,1,48),(2,1,57)]),zop 59 (.bsl 69 ctOp [58]),zop 60 (.app 39 59 69 ctOp),zfa 61 3 0,zst 61 60 1] [(0,21),(1,21)]))])
def QoX:List (Nat × Md):=[(0,.b [.d,.d,.d]),(2,.b [.d]),(3,.b [.f])]
def Qye:TCode :=
 (zsq [(.reg [zLd 62 3 1,zst 2 62 1]),.ret])
def QM3:TCode :=
 (zsq [(.reg [zop 2 (.new 26 [(.n ctOp)])]),(.reg [zmv 5 0,zca 6 198 [5],zop 3 (.new 26 [(.n ctOp)]),zst 3 6 1]),(.reg [zmv 7 0,zfa 8 3 0,zld 9 8 1,zle 10 9,zca 11 108 [7,10],zmv 4 11]),(zsq [(.reg [zmv 12 0,zca 13 108 [12,(zki 16)]]),(.block 0 (zsq [(.reg [zbi 15 .eql 13 (zki 0),zmv 14 15]),(.cond 14 (.draw [zfa 16 3 0,zld 17 16 1,zmv 18 4,zmv 19 0,zca 20 201 [19],zia 21 17 18 ctOp,zst 21 20 4] [(0,4),(1,4)]) (zsq [(.reg [zbi 23 .eql 13 (zki 1),zmv 22 23]),(.cond 22 (.reg [zfa 24 3 0,zld 25 24 1,zmv 26 4,zop 27 (.slc 25 none (some 26) ctOp),zfa 28 3 0,zst 28 27 1]) (zsq [(.reg [zbi 30 .eql 13 (zki 2),zmv 29 30]),(.cond 29 (.block 1 (.loop QoX QuJ)) .skip)]))]))]))]),Qye])
def QtV:List (ARv × Md):=[(.l 2 1 true,.b [.d])]
def QtG:Qb:=TQ 1 0 QtV K
def QMb:Qb:=Qseq (tawp QlI 1 Qye (QtG K)) (QtG K)
def QJx:Qb:=Qblk 0 (QMb K)
def QJd:Qb:=Qblk 1 (QJx K)
def Qg2 (c0:List Int) (c1:Int) (c2:Int) (m0:List TOp'):Prop:=Loop QlI 1 QoX QuJ (QJd K) ⟨[(0,(.p 0 0 0)),(2,(.p 1 0 0)),(3,(.p 3 0 0))],[(0,(.box [(zcs [(.int .u8)] c0),(zci c1),(zci c2)])),(1,(.box [(zcs ctOp ([]))])),(2,(.sl 69 ctOp true m0)),(3,(.box [(.r ctOp 2 0 m0.length)]))],4⟩
theorem Qqs (c0:List Int) (c1:Int) (c2:Int) (m0:List TOp') (h :
((Zb (c0,c1,c2) (2:Int))∧(zif (decide (((m0.length:Nat):Int)<(w64 ((8:Int)+((Qg (c0,c1,c2) (2:Int)).1))))) ((((0:Int)≤w64 (((m0.length:Nat):Int)-(1:Int))∧Int.toNat (w64 (((m0.length:Nat):Int)-(1:Int)))<m0.length)∧(((0+(Int.toNat (w64 (((m0.length:Nat):Int)-(1:Int)))))<m0.length)∧(((0:Int)≤w64 (((m0.length:Nat):Int)-(1:Int))∧Int.toNat (w64 (((m0.length:Nat):Int)-(1:Int)))<m0.length)∧(((0+(Int.toNat (w64 (((m0.length:Nat):Int)-(1:Int)))))<m0.length)∧((m0.length=m0.length∨m0.length+1≤m0.length)∧m0.length+1≤big)))))∧(Qg2 K (((Qg (c0,c1,c2) (2:Int)).2).1) (((Qg (c0,c1,c2) (2:Int)).2).2.1) (((Qg (c0,c1,c2) (2:Int)).2).2.2) (List.take (m0.length+1) ((List.take m0.length m0)++([((3:Int),(gtd dOp m0 (0+(Int.toNat (w64 (((m0.length:Nat):Int)-(1:Int)))))).2.2.1,(gtd dOp m0 (0+(Int.toNat (w64 (((m0.length:Nat):Int)-(1:Int)))))).2.2.1,[])]))))) (K (JR ((List.take m0.length (List.drop 0 m0)),((Qg (c0,c1,c2) (2:Int)).2))))))):Qg2 K c0 c1 c2 m0 :=
 Loop.of (by kernel_rfl) h
theorem QH1 (c:((List Int) × Int × Int)) (h :
let z1:=Qg ((Zp c).2) ((((Zp c).1).length:Nat):Int)
let z2:=Qg (z1.2) (16:Int)
((Qy c)∧((Zb ((Zp c).2) ((((Zp c).1).length:Nat):Int))∧((Zb (z1.2) (16:Int))∧(zif ((z2.1)==(0:Int)) (((Qy (z2.2))∧(((0:Int)≤z1.1∧Int.toNat (z1.1)<((Zp c).1).length)∧((0+(Int.toNat (z1.1)))<((Zp c).1).length)))∧K (JR ((List.take (((Zp c).1).length) (List.drop 0 (((Zp c).1).set (0+(Int.toNat (z1.1))) ((QfA (z2.2)).1)))),((QfA (z2.2)).2)))) (zif ((z2.1)==(1:Int)) (((0:Int)≤(0:Int)∧(0:Int)≤z1.1∧z1.1≤((((Zp c).1).length:Nat):Int))∧K (JR ((List.take (Int.toNat (z1.1)-Int.toNat (0:Int)) (List.drop 0 ((Zp c).1))),(z2.2)))) (zif ((z2.1)==(2:Int)) (Qg2 K ((z2.2).1) ((z2.2).2.1) ((z2.2).2.2) (List.take (((Zp c).1).length) ((Zp c).1))) (K (JR ((List.take (((Zp c).1).length) (List.drop 0 ((Zp c).1))),(z2.2))))))))))):Hold (tawp QlI (1+0) QM3 (TQ 1 0 QtV K) (Qf [(.bx [(.c (.sl [(.int .u8)]) c.1),(.c TI c.2.1),(.c TI c.2.2)])])) :=
 Hold.of (by kernel_rfl) h
theorem QMU (c:((List Int) × Int × Int)) (hp:Qy c):∃ t:(List TOp') × (((List Int) × Int × Int)),(QdQ c t)∧TCon Tryz.prog 144 [(.bx [(.c (.sl [(.int .u8)]) c.1),(.c TI c.2.1),(.c TI c.2.2)])] (JR t):=by
 refine YQ (tcx (n:=63) (sg:=Qnz.sg) Ql (TOk.cons QqA (TOk.cons JT (TOk.cons QBQ TOk.nil))) (by kernel_rfl) (by kernel_rfl) (QH1 (fun r'=>∃ t,(QdQ c t)∧r'=JR t) c ?_))
 conv=>zeta
 have b1:=QsQ c hp
 generalize Zp c=r1 at b1 ⊢
 obtain ⟨k1,k2,k3⟩:=b1
 have k4:1≤r1.1.length:=by
  simp only [QN,Bool.and_eq_true,QR] at k1
  omega
 have b2:=Z2 r1.2 r1.1.length k3
 generalize Qg r1.2 r1.1.length=r2 at b2 ⊢
 have h1:=b2.1
 have h2:=b2.2.1 (by omega)
 have b3:=(Z2 r2.2 16 b2.2.2.2).2.2.2
 generalize Qg r2.2 16=r3 at b3 ⊢
 refine ⟨hp,k3,b2.2.2.2,fun _=>⟨⟨b3,⟨h1,by omega⟩,by omega⟩,Q4 ⟨?_,(QD6 _ b3).2⟩⟩,fun _=>⟨fun _=>⟨⟨by omega,by omega,by omega⟩,Q4 ⟨?_,b3⟩⟩,fun _=>⟨fun _=>?_,fun _=>(Q4 ⟨?_,b3⟩)⟩⟩⟩
 ·simp;omega
 ·simp;omega
 ·rw [List.take_length]
  have key:∀ (k:Nat) (c1 c2:Int) (c0:List Int) (m0:Q5),Qy (c0,c1,c2)→1≤m0.length→m0.length+k=9→Qg2 (fun r'=>∃ t,(QdQ c t)∧r'=JR t) c0 c1 c2 m0:=by
   intro k
   induction k with
   | zero =>
    intro c1 c2 c0 m0 hc q1 q2
    have b:=Z2 (c0,c1,c2) 2 hc
    have q3:=b.1
    have q4:=b.2.1 (by omega)
    refine Qqs (fun r'=>∃ t,(QdQ c t)∧r'=JR t) _ _ _ _ ⟨hc,fun h=>?_,fun _=>(Q4 ⟨?_,b.2.2.2⟩)⟩
    ·rw [Qp (x:=8+_) (by omega) (by omega)] at h
     simp at h;omega
    ·simp;omega
   | succ k ih =>
    intro c1 c2 c0 m0 hc q1 q2
    have b:=Z2 (c0,c1,c2) 2 hc
    refine Qqs (fun r'=>∃ t,(QdQ c t)∧r'=JR t) _ _ _ _ ⟨hc,fun _=>?_,fun _=>(Q4 ⟨?_,b.2.2.2⟩)⟩
    ·rw [Qp (x:=(m0.length:Int)-1) (by omega) (by omega)]
     refine ⟨⟨⟨by omega,by omega⟩,by omega,⟨by omega,by omega⟩,by omega,.inl rfl,by rw [Zx];omega⟩,?_⟩
     rw [Zv]
     exact ih _ _ _ _ b.2.2.2 (by simp) (by simp;omega)
    ·simp;omega
  exact key (9-r1.1.length) _ _ _ _ b3 k4 (by omega)
 ·simp;omega
theorem QKq (c:((List Int) × Int × Int)) (hp:Qy c):TCon Tryz.prog 144 [(.bx [(.c (.sl [(.int .u8)]) c.1),(.c TI c.2.1),(.c TI c.2.2)])] (JR (Qf4 c)):=(Classical.epsilon_spec (QMU c hp)).2
theorem QDv:Qi Tryz.prog Qnz:=Qm fun x h=>QKq x.1 h
end
end Go.Proofs.YtjbdljkhbglnhaaGreat.Am

