/- -/
import Derived.Test.YtephkbajoofeoaaYDD1
import Derived.Test.YtephkbajoofeoaaYDP4
namespace Go.Proofs.Ytephkbajoofeoaa.Am
open Go Go.RowKit Go.Proofs.Ytephkbajoofeoaa
set_option linter.all false
set_option maxHeartbeats 2000000
noncomputable section
variable (K:TRes→Prop)
def Ye (t:Int × (((List Int) × Int × Int))):TRes:=⟨(zci t.1),[],[[(zcs [(.int .u8)] t.2.1),(zci t.2.2.1),(zci t.2.2.2)]],true,[]⟩
def ZX (x0:((List Int) × Int × Int)):Int × (((List Int) × Int × Int)):=Classical.epsilon fun t:Int × (((List Int) × Int × Int))=>(Qbp x0 t)∧TCon Try.prog 204 [(.bx [(.c (.sl [(.int .u8)]) x0.1),(.c TI x0.2.1),(.c TI x0.2.2)])] (Ye t)
def Qaz:TRow:=Qp 204 [(.b [(.sl [(.int .u8)]),TI,TI])] fun x=>(some (Qe x.1),Ye (ZX x.1))
def QkO:List TRow:=[Zj,Yn]
def QnE:TCode :=
 (zsq [(.reg [zmv 2 (zki 0)]),(zsq [(.reg [zmv 3 0,zca 4 116 [3,(zki 12)]]),(.block 0 (zsq [(.reg [zbi 6 .eql 4 (zki 0),zmv 5 6]),(.cond 5 (zsq [(.reg [zmv 7 0,zop 8 (.bsl 3 [TI] [(zki 2147483647),(zki (-2147483647)),(zki 2147483646),(zki 1),(zki (-1)),(zki 0)]),zca 9 182 [7,8],zmv 2 9]),.ret]) (zsq [(.reg [zbi 11 .eql 4 (zki 1),zmv 10 11]),(.cond 10 (zsq [(.reg [zmv 12 0,zca 13 116 [12,(zki 4000)],zbi 14 .sub 13 (zki 2000),zbi 15 .mul 14 (zki 997),zmv 2 15]),.ret]) (zsq [(.reg [zbi 17 .eql 4 (zki 2),zmv 16 17]),(.cond 16 (zsq [(.reg [zmv 18 0,zca 19 116 [18,(zki 9)],zbi 20 .sub 19 (zki 4),zmv 2 20]),.ret]) .skip)]))]))]))]),(.reg [zmv 21 0,zca 22 116 [21,(zki 17)],zbi 23 .sub 22 (zki 8),zbi 24 .mul 23 (zki 65536),zmv 25 0,zop 26 (.bsl 3 [TI] [(zki 1),(zki 1),(zki 2),(zki 4),(zki 3)]),zca 27 182 [25,26],zbi 28 .quo 24 27,zmv 2 28]),.ret])
def QkD:List (ARv × Md):=[(.t 2,.one .d)]
theorem Qko (c:((List Int) × Int × Int)) (h :
 ((Qx c (12:Int))∧(zif (((Qb c (12:Int)).1)==(0:Int)) ((Q9 ((Qb c (12:Int)).2) ([(2147483647:Int),(-2147483647:Int),(2147483646:Int),(1:Int),(-1:Int),(0:Int)]))∧K (Ye ((QD ((Qb c (12:Int)).2) ([(2147483647:Int),(-2147483647:Int),(2147483646:Int),(1:Int),(-1:Int),(0:Int)])).1,((QD ((Qb c (12:Int)).2) ([(2147483647:Int),(-2147483647:Int),(2147483646:Int),(1:Int),(-1:Int),(0:Int)])).2)))) (zif (((Qb c (12:Int)).1)==(1:Int)) ((Qx ((Qb c (12:Int)).2) (4000:Int))∧K (Ye (w64 ((w64 (((Qb ((Qb c (12:Int)).2) (4000:Int)).1)-(2000:Int)))*(997:Int)),((Qb ((Qb c (12:Int)).2) (4000:Int)).2)))) (zif (((Qb c (12:Int)).1)==(2:Int)) ((Qx ((Qb c (12:Int)).2) (9:Int))∧K (Ye (w64 (((Qb ((Qb c (12:Int)).2) (9:Int)).1)-(4:Int)),((Qb ((Qb c (12:Int)).2) (9:Int)).2)))) (((Qx ((Qb c (12:Int)).2) (17:Int))∧((Q9 ((Qb ((Qb c (12:Int)).2) (17:Int)).2) ([(1:Int),(1:Int),(2:Int),(4:Int),(3:Int)]))∧(¬ ((QD ((Qb ((Qb c (12:Int)).2) (17:Int)).2) ([(1:Int),(1:Int),(2:Int),(4:Int),(3:Int)])).1:Int)=0)))∧K (Ye (w64 (Int.tdiv (w64 ((w64 (((Qb ((Qb c (12:Int)).2) (17:Int)).1)-(8:Int)))*(65536:Int))) ((QD ((Qb ((Qb c (12:Int)).2) (17:Int)).2) ([(1:Int),(1:Int),(2:Int),(4:Int),(3:Int)])).1)),((QD ((Qb ((Qb c (12:Int)).2) (17:Int)).2) ([(1:Int),(1:Int),(2:Int),(4:Int),(3:Int)])).2))))))))):Hold (tawp QkO (1+0) QnE (TQ 1 0 QkD K) (Qm [(.bx [(.c (.sl [(.int .u8)]) c.1),(.c TI c.2.1),(.c TI c.2.2)])])) :=
 Hold.of (by kernel_rfl) h
theorem QfU (c:((List Int) × Int × Int)) (hp:Qe c):∃ t:Int × (((List Int) × Int × Int)),(Qbp c t)∧TCon Try.prog 204 [(.bx [(.c (.sl [(.int .u8)]) c.1),(.c TI c.2.1),(.c TI c.2.2)])] (Ye t):=by
 refine Q7 (tcx (n:=29) (sg:=Qaz.sg) Qt (TOk.cons Zv (TOk.cons JC TOk.nil)) (by kernel_rfl) (by kernel_rfl) (Qko (fun r'=>∃ t,(Qbp c t)∧r'=Ye t) c ?_))
 have b1:=QS c 12 hp
 generalize Qb c 12=r at b1 ⊢
 have hc:Qe r.2:=b1.2.2.2
 refine ⟨hp,fun _=>?_,fun _=>⟨fun _=>?_,fun _=>⟨fun _=>?_,fun _=>?_⟩⟩⟩
 ·have hpp:Q9 r.2 [2147483647,-2147483647,2147483646,1,-1,0]:=⟨hc,by simp,by simp⟩
  have b2:=Y8 _ _ hpp
  refine ⟨hpp,Qo ⟨?_,b2.2⟩⟩
  have b3:=b2.1
  simp only [List.mem_cons,List.not_mem_nil,or_false] at b3
  simp only [Q6,Bool.and_eq_true,decide_eq_true_eq]
  omega
 ·have b2:=QS r.2 4000 hc
  refine ⟨hc,Qo ⟨?_,b2.2.2.2⟩⟩
  have h1:=b2.1
  have h2:=b2.2.1 (by omega)
  rw [Qi (x:=_-2000) (by omega) (by omega),Qi (by omega) (by omega)]
  simp only [Q6,Bool.and_eq_true,decide_eq_true_eq]
  omega
 ·have b2:=QS r.2 9 hc
  refine ⟨hc,Qo ⟨?_,b2.2.2.2⟩⟩
  have h1:=b2.1
  have h2:=b2.2.1 (by omega)
  rw [Qi (by omega) (by omega)]
  simp only [Q6,Bool.and_eq_true,decide_eq_true_eq]
  omega
 ·have b2:=QS r.2 17 hc
  have hpp:Q9 (Qb r.2 17).2 [1,1,2,4,3]:=⟨b2.2.2.2,by simp,by simp⟩
  have b3:=Y8 _ _ hpp
  have b4:=b3.1
  simp only [List.mem_cons,List.not_mem_nil,or_false] at b4
  have h1:=b2.1
  have h2:=b2.2.1 (by omega)
  refine ⟨⟨hc,hpp,by omega⟩,Qo ⟨?_,b3.2⟩⟩
  have h3:=QnR (a:=((Qb r.2 17).1-8)*65536) (b:=(QD (Qb r.2 17).2 [1,1,2,4,3]).1) (B:=1000000) (by omega) (by omega) (by omega)
  rw [Qi (x:=_-8) (by omega) (by omega),Qi (x:=_*65536) (by omega) (by omega),Qi (by omega) (by omega)]
  simp only [Q6,Bool.and_eq_true,decide_eq_true_eq]
  omega
theorem Qg5 (c:((List Int) × Int × Int)) (hp:Qe c):Qbp c (ZX c):=(Classical.epsilon_spec (QfU c hp)).1
theorem Qpx (c:((List Int) × Int × Int)) (hp:Qe c):TCon Try.prog 204 [(.bx [(.c (.sl [(.int .u8)]) c.1),(.c TI c.2.1),(.c TI c.2.2)])] (Ye (ZX c)):=(Classical.epsilon_spec (QfU c hp)).2
theorem Qit:Qq Try.prog Qaz:=Qv fun x h=>Qpx x.1 h
def YH (t:Int × (((List Int) × Int × Int))):TRes:=⟨(zci t.1),[],[[(zcs [(.int .u8)] t.2.1),(zci t.2.2.1),(zci t.2.2.2)]],true,[]⟩
def Y1 (x0:((List Int) × Int × Int)):Int × (((List Int) × Int × Int)):=Classical.epsilon fun t:Int × (((List Int) × Int × Int))=>(Qbv x0 t)∧TCon Try.prog 184 [(.bx [(.c (.sl [(.int .u8)]) x0.1),(.c TI x0.2.1),(.c TI x0.2.2)])] (YH t)
def QaS:TRow:=Qp 184 [(.b [(.sl [(.int .u8)]),TI,TI])] fun x=>(some (Qe x.1),YH (Y1 x.1))
def Qlz:List TRow:=[Qap,Yn,Qaz]
def Qle:TCode :=
 (zsq [(.reg [zmv 2 (zki 0)]),(zsq [(.reg [zmv 3 0,zca 4 136 [3,(zki 8)]]),(.cond 4 (zsq [(.reg [zmv 5 0,zop 6 (.bsl 3 [TI] [(zki 2147483648),(zki (-2147483648)),(zki 9223372036854775807),(zki (-9223372036854775807))]),zca 7 182 [5,6],zmv 2 7]),.ret]) .skip)]),(.reg [zmv 8 0,zca 9 204 [8],zmv 2 9]),.ret])
def QmR:List (ARv × Md):=[(.t 2,.one .d)]
theorem Qkz (c:((List Int) × Int × Int)) (h :
 ((Qx c (8:Int))∧(zif ((QL c (8:Int)).1) ((Q9 ((QL c (8:Int)).2) ([(2147483648:Int),(-2147483648:Int),(9223372036854775807:Int),(-9223372036854775807:Int)]))∧K (YH ((QD ((QL c (8:Int)).2) ([(2147483648:Int),(-2147483648:Int),(9223372036854775807:Int),(-9223372036854775807:Int)])).1,((QD ((QL c (8:Int)).2) ([(2147483648:Int),(-2147483648:Int),(9223372036854775807:Int),(-9223372036854775807:Int)])).2)))) ((Qe ((QL c (8:Int)).2))∧K (YH ((ZX ((QL c (8:Int)).2)).1,((ZX ((QL c (8:Int)).2)).2))))))):Hold (tawp Qlz (1+0) Qle (TQ 1 0 QmR K) (Qm [(.bx [(.c (.sl [(.int .u8)]) c.1),(.c TI c.2.1),(.c TI c.2.2)])])) :=
 Hold.of (by kernel_rfl) h
theorem QfE (c:((List Int) × Int × Int)) (hp:Qe c):∃ t:Int × (((List Int) × Int × Int)),(Qbv c t)∧TCon Try.prog 184 [(.bx [(.c (.sl [(.int .u8)]) c.1),(.c TI c.2.1),(.c TI c.2.2)])] (YH t):=by
 refine Q7 (tcx (n:=10) (sg:=QaS.sg) Qt (TOk.cons Qd1 (TOk.cons JC (TOk.cons Qit TOk.nil))) (by kernel_rfl) (by kernel_rfl) (Qkz (fun r'=>∃ t,(Qbv c t)∧r'=YH t) c ?_))
 have b1:=Qdj c 8 hp
 generalize QL c 8=r at b1 ⊢
 have hpp:Q9 r.2 [2147483648,-2147483648,9223372036854775807,-9223372036854775807]:=⟨b1,by simp,by simp⟩
 exact ⟨hp,fun _=>⟨hpp,Qo ((Y8 _ _ hpp).2)⟩,fun _=>⟨b1,Qo ((Qg5 _ b1).2)⟩⟩
theorem Qh1 (c:((List Int) × Int × Int)) (hp:Qe c):Qbv c (Y1 c):=(Classical.epsilon_spec (QfE c hp)).1
theorem QkF (c:((List Int) × Int × Int)) (hp:Qe c):TCon Try.prog 184 [(.bx [(.c (.sl [(.int .u8)]) c.1),(.c TI c.2.1),(.c TI c.2.2)])] (YH (Y1 c)):=(Classical.epsilon_spec (QfE c hp)).2
theorem Qjf:Qq Try.prog QaS:=Qv fun x h=>QkF x.1 h
def Z5 (t:(List Int) × (((List Int) × Int × Int))):TRes:=⟨(.r [TI] 0 0 ((t.1).length)),[(.sl 3 [TI] true t.1)],[[(zcs [(.int .u8)] t.2.1),(zci t.2.2.1),(zci t.2.2.2)]],true,[]⟩
def QV (x0:((List Int) × Int × Int)) (x1:Int):(List Int) × (((List Int) × Int × Int)):=Classical.epsilon fun t:(List Int) × (((List Int) × Int × Int))=>(YC x0 x1 t)∧TCon Try.prog 181 [(.bx [(.c (.sl [(.int .u8)]) x0.1),(.c TI x0.2.1),(.c TI x0.2.2)]),(.c TI x1)] (Z5 t)
def J3:TRow:=Qp 181 [(.b [(.sl [(.int .u8)]),TI,TI]),(.c TI)] fun x=>(some (Zi x.1 x.2.1),Z5 (QV x.1 x.2.1))
def Qes:List TRow:=[Qaz]
def QiU:TCode :=
 (zsq [(zsq [(.reg [zmv 8 6,zmv 9 1,zbi 10 .lss 8 9]),(.cond 10 .skip (.exit 0))]),(.block 1 (.reg [zmv 13 5,zmv 14 0,zca 15 204 [14],zop 16 (.bsl 3 [TI] [15]),zop 17 (.app 13 16 3 [TI]),zmv 5 17])),(.reg [zmv 11 6,zbi 12 .add 11 (zki 1),zmv 6 12])])
def QeX:List (Nat × Md):=[(0,.b [.d,.d,.d]),(1,.one .d),(5,.one .f),(6,.one .d)]
def Qiq:TCode :=
 (zsq [(.reg [zmv 18 5,zmv 4 18]),.ret])
def Qoo:TCode :=
 (zsq [(.reg [zmv 4 (.k (.n [TI]))]),(.reg [zop 7 (.bsl 3 [TI] []),zmv 5 7]),(zsq [(.reg [zmv 6 (zki 0)]),(.block 0 (.loop QeX QiU))]),Qiq])
def QgK:List (ARv × Md):=[(.t 4,.one (.o 3))]
def Qh8:Qg:=TQ 1 0 QgK K
def Qqx:Qg:=Qseq (tawp Qes 1 Qiq (Qh8 K)) (Qh8 K)
def QjU:Qg:=Qblk 0 (Qqx K)
def Qa8 (n:Int) (i:Int) (c0:List Int) (c1:Int) (c2:Int) (out:List Int):Prop:=Loop Qes 1 QeX QiU (QjU K) ⟨[(0,(.p 0 0 0)),(1,(zci n)),(5,(.r [TI] 1 0 out.length)),(6,(zci i))],[(0,(.box [(zcs [(.int .u8)] c0),(zci c1),(zci c2)])),(1,(.sl 3 [TI] true out))],2⟩
theorem Qgl (n:Int) (i:Int) (c0:List Int) (c1:Int) (c2:Int) (out:List Int) (h :
 (zif (decide (i<n)) (((Qe (c0,c1,c2))∧((out.length=out.length∨out.length+1≤out.length)∧out.length+1≤big))∧(Qa8 K n (w64 (i+(1:Int))) (((ZX (c0,c1,c2)).2).1) (((ZX (c0,c1,c2)).2).2.1) (((ZX (c0,c1,c2)).2).2.2) (List.take (out.length+1) ((List.take out.length out)++([(ZX (c0,c1,c2)).1]))))) (K (Z5 ((List.take out.length out),(c0,c1,c2)))))):Qa8 K n i c0 c1 c2 out :=
 Loop.of (by kernel_rfl) h
theorem Qoy (c:((List Int) × Int × Int)) (n:Int) (h :
 (Qa8 K n 0 c.1 c.2.1 c.2.2 ([]:List Int))):Hold (tawp Qes (1+0) Qoo (TQ 1 0 QgK K) (Qm [(.bx [(.c (.sl [(.int .u8)]) c.1),(.c TI c.2.1),(.c TI c.2.2)]),(.c TI n)])) :=
 Hold.of (by kernel_rfl) h
theorem QeL (c:((List Int) × Int × Int)) (n:Int) (hp:Zi c n):∃ t:(List Int) × (((List Int) × Int × Int)),(YC c n t)∧TCon Try.prog 181 [(.bx [(.c (.sl [(.int .u8)]) c.1),(.c TI c.2.1),(.c TI c.2.2)]),(.c TI n)] (Z5 t):=by
 refine Q7 (tcx (n:=19) (sg:=J3.sg) Qt (TOk.cons Qit TOk.nil) (by kernel_rfl) (by kernel_rfl) (Qoy (fun r'=>∃ t,(YC c n t)∧r'=Z5 t) c n ?_))
 obtain ⟨h1,h2⟩:=hp
 refine Qea n.toNat (fun k=>∀ (c0:List Int) (c1 c2:Int) (out:List Int),out.length=k→Za out=true→Qe (c0,c1,c2)→Qa8 (fun r'=>∃ t,(YC c n t)∧r'=Z5 t) n (k:Int) c0 c1 c2 out) ?_ ?_ c.1 c.2.1 c.2.2 [] rfl rfl h1
 ·intro c0 c1 c2 out hl hf hc
  refine Qgl (fun r'=>∃ t,(YC c n t)∧r'=Z5 t) n _ _ _ _ _ ⟨fun h=>by simp at h;omega,fun _=>(Qo ⟨?_,?_,hc⟩)⟩
  ·simp;omega
  ·simp only [List.take_length];exact hf
 ·intro k hk ih c0 c1 c2 out hl hf hc
  have b:=Qg5 (c0,c1,c2) hc
  refine Qgl (fun r'=>∃ t,(YC c n t)∧r'=Z5 t) n _ _ _ _ _ ⟨fun _=>⟨⟨hc,.inl rfl,by rw [ZJ];omega⟩,?_⟩,fun h=>by simp at h;omega⟩
  rw [sc1 (by omega),YU]
  exact ih _ _ _ _ (by simp;omega) (Qj0 hf b.1) b.2
theorem Qaf (c:((List Int) × Int × Int)) (n:Int) (hp:Zi c n):YC c n (QV c n):=(Classical.epsilon_spec (QeL c n hp)).1
theorem Qmu (c:((List Int) × Int × Int)) (n:Int) (hp:Zi c n):TCon Try.prog 181 [(.bx [(.c (.sl [(.int .u8)]) c.1),(.c TI c.2.1),(.c TI c.2.2)]),(.c TI n)] (Z5 (QV c n)):=(Classical.epsilon_spec (QeL c n hp)).2
theorem QcM:Qq Try.prog J3:=Qv fun x h=>Qmu x.1 x.2.1 h
def Yx (t:(List Int) × (((List Int) × Int × Int))):TRes:=⟨(zcs [TI] t.1),[],[[(zcs [(.int .u8)] t.2.1),(zci t.2.2.1),(zci t.2.2.2)]],true,[]⟩
def Qas (x0:((List Int) × Int × Int)):(List Int) × (((List Int) × Int × Int)):=Classical.epsilon fun t:(List Int) × (((List Int) × Int × Int))=>(Qay x0 t)∧TCon Try.prog 117 [(.bx [(.c (.sl [(.int .u8)]) x0.1),(.c TI x0.2.1),(.c TI x0.2.2)])] (Yx t)
def Qdv:TRow:=Qp 117 [(.b [(.sl [(.int .u8)]),TI,TI])] fun x=>(some (Qe x.1),Yx (Qas x.1))
def Qnl:List TRow:=[Zj,J3,QaS,Yn]
def Qqn:TCode :=
 (zsq [(.reg [zmv 2 (.k (.n [TI]))]),(.reg [zmv 4 0,zmv 5 0,zca 6 116 [5,(zki 4)],zbi 7 .add (zki 1) 6,zca 8 181 [4,7],zmv 3 8]),(zsq [(.reg [zmv 9 0,zca 10 116 [9,(zki 16)]]),(.block 0 (zsq [(.reg [zbi 12 .eql 10 (zki 0),zmv 11 12]),(.cond 11 (.reg [zmv 13 3,zmv 14 0,zca 15 184 [14],zia 16 13 (zki 0) [TI],zst 16 15 1]) (zsq [(.reg [zbi 18 .eql 10 (zki 1),zmv 17 18]),(.cond 17 (zsq [(.reg [zmv 19 0,zmv 20 0,zop 21 (.bsl 3 [TI] [(zki 0),(zki 6),(zki 7)]),zca 22 182 [20,21],zca 23 181 [19,22],zmv 2 23]),.ret]) .skip)]))]))]),(.reg [zmv 24 3,zmv 2 24]),.ret])
def QpM:List (ARv × Md):=[(.t 2,.one .d)]
theorem Qj4 (c:((List Int) × Int × Int)) (h :
 let z3:=Qb c (4:Int)
 let z1:=QV (z3.2) (w64 ((1:Int)+(z3.1)))
 let z2:=Qb (z1.2) (16:Int)
 (((Qx c (4:Int))∧(Zi (z3.2) (w64 ((1:Int)+(z3.1)))))∧((Qx (z1.2) (16:Int))∧(zif ((z2.1)==(0:Int)) (((Qe (z2.2))∧(((0:Int)≤(0:Int)∧Int.toNat (0:Int)<(z1.1).length)∧((0+(Int.toNat (0:Int)))<(z1.1).length)))∧K (Yx ((List.take ((z1.1).length) (List.drop 0 ((z1.1).set (0+(Int.toNat (0:Int))) ((Y1 (z2.2)).1)))),((Y1 (z2.2)).2)))) (zif ((z2.1)==(1:Int)) (((Q9 (z2.2) ([(0:Int),(6:Int),(7:Int)]))∧(Zi ((QD (z2.2) ([(0:Int),(6:Int),(7:Int)])).2) ((QD (z2.2) ([(0:Int),(6:Int),(7:Int)])).1)))∧K (Yx ((List.take (((QV ((QD (z2.2) ([(0:Int),(6:Int),(7:Int)])).2) ((QD (z2.2) ([(0:Int),(6:Int),(7:Int)])).1)).1).length) (List.drop 0 ((QV ((QD (z2.2) ([(0:Int),(6:Int),(7:Int)])).2) ((QD (z2.2) ([(0:Int),(6:Int),(7:Int)])).1)).1))),((QV ((QD (z2.2) ([(0:Int),(6:Int),(7:Int)])).2) ((QD (z2.2) ([(0:Int),(6:Int),(7:Int)])).1)).2)))) (K (Yx ((List.take ((z1.1).length) (List.drop 0 (z1.1))),(z2.2))))))))):Hold (tawp Qnl (1+0) Qqn (TQ 1 0 QpM K) (Qm [(.bx [(.c (.sl [(.int .u8)]) c.1),(.c TI c.2.1),(.c TI c.2.2)])])) :=
 Hold.of (by kernel_rfl) h
theorem QeC (c:((List Int) × Int × Int)) (hp:Qe c):∃ t:(List Int) × (((List Int) × Int × Int)),(Qay c t)∧TCon Try.prog 117 [(.bx [(.c (.sl [(.int .u8)]) c.1),(.c TI c.2.1),(.c TI c.2.2)])] (Yx t):=by
 refine Q7 (tcx (n:=25) (sg:=Qdv.sg) Qt (TOk.cons Zv (TOk.cons QcM (TOk.cons Qjf (TOk.cons JC TOk.nil)))) (by kernel_rfl) (by kernel_rfl) (Qj4 (fun r'=>∃ t,(Qay c t)∧r'=Yx t) c ?_))
 conv=>zeta
 have b1:=QS c 4 hp
 generalize Qb c 4=r1 at b1 ⊢
 have h1:=b1.1
 have h2:=b1.2.1 (by omega)
 rw [Qi (x:=1+r1.1) (by omega) (by omega)]
 have hv:Zi r1.2 (1+r1.1):=⟨b1.2.2.2,by omega⟩
 have b2:=Qaf _ _ hv
 generalize QV r1.2 (1+r1.1)=r2 at b2 ⊢
 have b3:=QS r2.2 16 b2.2.2
 generalize Qb r2.2 16=r3 at b3 ⊢
 have hc:=b3.2.2.2
 have hl:=b2.1
 have hpk:Q9 r3.2 [0,6,7]:=⟨hc,by simp,by simp⟩
 have b4:=Y8 _ _ hpk
 have b5:=b4.1
 simp only [List.mem_cons,List.not_mem_nil,or_false] at b5
 have hv2:Zi (QD r3.2 [0,6,7]).2 (QD r3.2 [0,6,7]).1:=⟨b4.2,by omega⟩
 have b6:=Qaf _ _ hv2
 have hl2:=b6.1
 refine ⟨⟨hp,hv⟩,b2.2.2,fun _=>⟨⟨hc,⟨by omega,?_⟩,?_⟩,Qo ⟨?_,Qh1 _ hc⟩⟩,fun _=>⟨fun _=>⟨⟨hpk,hv2⟩,Qo ⟨?_,b6.2.2⟩⟩,fun _=>(Qo ⟨?_,hc⟩)⟩⟩ <;> (simp;omega)
theorem Qpe (c:((List Int) × Int × Int)) (hp:Qe c):Qay c (Qas c):=(Classical.epsilon_spec (QeC c hp)).1
theorem QmY (c:((List Int) × Int × Int)) (hp:Qe c):TCon Try.prog 117 [(.bx [(.c (.sl [(.int .u8)]) c.1),(.c TI c.2.1),(.c TI c.2.2)])] (Yx (Qas c)):=(Classical.epsilon_spec (QeC c hp)).2
theorem Qke:Qq Try.prog Qdv:=Qv fun x h=>QmY x.1 h
def Yf (t:TOp' × (((List Int) × Int × Int))):TRes:=⟨(.a [(zci t.1.1),(zci t.1.2.1),(zci t.1.2.2.1),(.r [TI] 0 0 ((t.1.2.2.2).length))]),[(.sl 3 [TI] true t.1.2.2.2)],[[(zcs [(.int .u8)] t.2.1),(zci t.2.2.1),(zci t.2.2.2)]],true,[]⟩
def e_op (x0:((List Int) × Int × Int)) (x1:Int):TOp' × (((List Int) × Int × Int)):=Classical.epsilon fun t:TOp' × (((List Int) × Int × Int))=>(q_op x0 x1 t)∧TCon Try.prog 205 [(.bx [(.c (.sl [(.int .u8)]) x0.1),(.c TI x0.2.1),(.c TI x0.2.2)]),(.c TI x1)] (Yf t)
def Qb0:TRow:=Qp 205 [(.b [(.sl [(.int .u8)]),TI,TI]),(.c TI)] fun x=>(some (p_op x.1 x.2.1),Yf (e_op x.1 x.2.1))
def Qf3:List TRow:=[Zj,Qbm,J3]
def Qfc:TCode :=
 (zsq [(.reg [zmv 19 0,zLd 20 5 4,zca 21 191 [20],zca 22 181 [19,21],zfa 23 5 3,zst 23 22 1]),(.reg [zLd 24 5 4,zst 4 24 4]),.ret])
def QoF:List (Nat × Md):=[(0,.b [.d,.d,.d]),(4,.b (zds 4)),(5,.b (zds 4))]
def QmS:TCode:=.wk QoF Qfc
def Qmd:TCode :=
 (zsq [(.reg [zop 4 (.new 76 (z0s ctOp))]),(.reg [zmv 6 0,zca 7 116 [6,(zki 5)],zbi 8 .add (zki 1) 7,zmv 9 1,zmv 10 1,zop 11 (.build (z0s ctOp) [(0,1,8),(1,1,9),(2,1,10)]),zop 5 (.new 76 (z0s ctOp)),zst 5 11 4]),(zsq [(.reg [zfa 12 5 0,zld 13 12 1,zbi 14 .eql 13 (zki 1)]),(.cond 14 (.reg [zmv 15 0,zca 16 116 [15,(zki 3)],zbi 17 .add (zki 1) 16,zfa 18 5 2,zst 18 17 1]) .skip)]),QmS])
def QfT:List (ARv × Md):=[(.l 4 4 true,.b [.d,.d,.d,.o 3])]
def QkW:Qg:=TQ 1 0 QfT K
@[irreducible] def QaB (c:((List Int) × Int × Int)) (inn:Int) (c0:List Int) (c1:Int) (c2:Int) (o2:Int):Prop:=tawp Qf3 1 Qfc (QkW K) ⟨[(0,(.p 0 0 0)),(4,(.p 1 0 0)),(5,(.p 2 0 0))],[(0,(.box [(zcs [(.int .u8)] c0),(zci c1),(zci c2)])),(1,(.box (Tup.cells ctOp ((0:Int),(0:Int),(0:Int),[])))),(2,(.box (Tup.cells ctOp (w64 ((1:Int)+((Qb c (5:Int)).1)),inn,o2,[]))))],3⟩
theorem Qjz (c:((List Int) × Int × Int)) (inn:Int) (c0:List Int) (c1:Int) (c2:Int) (o2:Int) (h :
 ((Zi (c0,c1,c2) (QT (w64 ((1:Int)+((Qb c (5:Int)).1)),inn,o2,[])))∧K (Yf ((w64 ((1:Int)+((Qb c (5:Int)).1)),inn,o2,(List.take (((QV (c0,c1,c2) (QT (w64 ((1:Int)+((Qb c (5:Int)).1)),inn,o2,[]))).1).length) ((QV (c0,c1,c2) (QT (w64 ((1:Int)+((Qb c (5:Int)).1)),inn,o2,[]))).1))),((QV (c0,c1,c2) (QT (w64 ((1:Int)+((Qb c (5:Int)).1)),inn,o2,[]))).2))))):Hold (QaB K c inn c0 c1 c2 o2) :=
 Hold.of (by kernel_rfl) h
theorem QjO (c:((List Int) × Int × Int)) (inn:Int) (h :
 ((Qx c (5:Int))∧(zif ((w64 ((1:Int)+((Qb c (5:Int)).1)))==(1:Int)) ((Qx ((Qb c (5:Int)).2) (3:Int))∧(QaB K c inn (((Qb ((Qb c (5:Int)).2) (3:Int)).2).1) (((Qb ((Qb c (5:Int)).2) (3:Int)).2).2.1) (((Qb ((Qb c (5:Int)).2) (3:Int)).2).2.2) (w64 ((1:Int)+((Qb ((Qb c (5:Int)).2) (3:Int)).1))))) (QaB K c inn (((Qb c (5:Int)).2).1) (((Qb c (5:Int)).2).2.1) (((Qb c (5:Int)).2).2.2) inn)))):Hold (tawp Qf3 (1+0) Qmd (TQ 1 0 QfT K) (Qm [(.bx [(.c (.sl [(.int .u8)]) c.1),(.c TI c.2.1),(.c TI c.2.2)]),(.c TI inn)])) :=
 Hold.of (by kernel_rfl) h
theorem QfK (c:((List Int) × Int × Int)) (inn:Int) (hp:p_op c inn):∃ t:TOp' × (((List Int) × Int × Int)),(q_op c inn t)∧TCon Try.prog 205 [(.bx [(.c (.sl [(.int .u8)]) c.1),(.c TI c.2.1),(.c TI c.2.2)]),(.c TI inn)] (Yf t):=by
 refine Q7 (tcx (n:=25) (sg:=Qb0.sg) Qt (TOk.cons Zv (TOk.cons QgV (TOk.cons QcM TOk.nil))) (by kernel_rfl) (by kernel_rfl) (QjO (fun r'=>∃ t,(q_op c inn t)∧r'=Yf t) c inn ?_))
 have b1:=QS c 5 hp.1
 have h1:=b1.1
 have h2:=b1.2.1 (by omega)
 obtain ⟨_,h3,h4⟩:=hp
 have hw:w64 (1+(Qb c 5).1)=1+(Qb c 5).1:=Qi (by omega) (by omega)
 have key:∀ c0 c1 c2 o2,Qe (c0,c1,c2)→1≤o2→o2≤3→(1+(Qb c 5).1=1∨inn=o2)→QaB (fun r'=>∃ t,(q_op c inn t)∧r'=Yf t) c inn c0 c1 c2 o2:=by
  intro c0 c1 c2 o2 hc k1 k2 k3
  refine (Qjz (fun r'=>∃ t,(q_op c inn t)∧r'=Yf t) c inn c0 c1 c2 o2 ?_).h
  rw [hw]
  have h5:1≤1+(Qb c 5).1:=by omega
  have h6:1+(Qb c 5).1≤5:=by omega
  generalize 1+(Qb c 5).1=o1 at h5 h6 k3 ⊢
  have hs:=Qg1 o1 [] h3 h4 k1 k2
  have hv:Zi (c0,c1,c2) (QT (o1,inn,o2,[])):=⟨hc,by omega⟩
  have b:=Qaf _ _ hv
  have hl:=b.1
  refine ⟨hv,Qo ⟨?_,rfl,k1,k2,?_,b.2.2⟩⟩
  ·simp only [List.take_length]
   exact Ql0 h5 h6 h3 h4 k1 k2 k3 hl b.2.1
  ·simp;omega
 have b2:=QS (Qb c 5).2 3 b1.2.2.2
 have h7:=b2.1
 have h8:=b2.2.1 (by omega)
 rw [hw] at *
 refine ⟨‹Qe c›,fun h=>⟨b1.2.2.2,?_⟩,fun _=>key _ _ _ _ b1.2.2.2 h3 h4 (.inr rfl)⟩
 rw [Qi (x:=1+(Qb (Qb c 5).2 3).1) (by omega) (by omega)]
 exact key _ _ _ _ b2.2.2.2 (by omega) (by omega) (.inl (by simpa using h))
theorem Qhf (c:((List Int) × Int × Int)) (inn:Int) (hp:p_op c inn):q_op c inn (e_op c inn):=(Classical.epsilon_spec (QfK c inn hp)).1
theorem Qky (c:((List Int) × Int × Int)) (inn:Int) (hp:p_op c inn):TCon Try.prog 205 [(.bx [(.c (.sl [(.int .u8)]) c.1),(.c TI c.2.1),(.c TI c.2.2)]),(.c TI inn)] (Yf (e_op c inn)):=(Classical.epsilon_spec (QfK c inn hp)).2
theorem Qiz:Qq Try.prog Qb0:=Qv fun x h=>Qky x.1 x.2.1 h
def ZG (t:TOp' × (((List Int) × Int × Int))):TRes:=⟨(.a (Tup.cells ctOp t.1)),[],[[(zcs [(.int .u8)] t.2.1),(zci t.2.2.1),(zci t.2.2.2)]],true,[]⟩
def JF (x0:((List Int) × Int × Int)):TOp' × (((List Int) × Int × Int)):=Classical.epsilon fun t:TOp' × (((List Int) × Int × Int))=>(QaX x0 t)∧TCon Try.prog 187 [(.bx [(.c (.sl [(.int .u8)]) x0.1),(.c TI x0.2.1),(.c TI x0.2.2)])] (ZG t)
def Qdb:TRow:=Qp 187 [(.b [(.sl [(.int .u8)]),TI,TI])] fun x=>(some (Qe x.1),ZG (JF x.1))
def Qlc:List TRow:=[Zj,Qb0,Yn,QaS]
def QlE:TCode :=
 (zsq [(.reg [zop 2 (.new 76 (z0s ctOp))]),(.reg [zmv 4 0,zmv 5 0,zca 6 116 [5,(zki 3)],zbi 7 .add (zki 1) 6,zca 8 205 [4,7],zop 3 (.new 76 (z0s ctOp)),zst 3 8 4]),(zsq [(.reg [zmv 9 0,zca 10 116 [9,(zki 14)]]),(.block 0 (zsq [(.reg [zbi 12 .eql 10 (zki 0),zmv 11 12]),(.cond 11 (.reg [zmv 13 0,zca 14 116 [13,(zki 8)],zbi 15 .sub 14 (zki 1),zfa 16 3 0,zst 16 15 1]) (zsq [(.reg [zbi 18 .eql 10 (zki 1),zmv 17 18]),(.cond 17 (.reg [zmv 19 0,zfa 20 3 1,zld 21 20 1,zbi 22 .add 21 (zki 1),zop 23 (.bsl 3 [TI] [(zki 0),(zki 7),22]),zca 24 182 [19,23],zfa 25 3 1,zst 25 24 1]) (zsq [(.reg [zbi 27 .eql 10 (zki 2),zmv 26 27]),(.cond 26 (.reg [zfa 28 3 3,zld 29 28 1,zop 30 (.bsl 3 [TI] [(zki 0)]),zop 31 (.app 29 30 3 [TI]),zfa 32 3 3,zst 32 31 1]) (zsq [(.reg [zbi 34 .eql 10 (zki 3),zmv 33 34]),(.cond 33 (zsq [(.reg [zfa 35 3 3,zld 36 35 1,zle 37 36,zbi 38 .gtr 37 (zki 0)]),(.cond 38 (.draw [zfa 39 3 3,zld 40 39 1,zmv 41 0,zca 42 184 [41],zia 43 40 (zki 0) [TI],zst 43 42 1] [(0,3),(1,3)]) .skip)]) .skip)]))]))]))]))]),(.reg [zLd 44 3 4,zst 2 44 4]),.ret])
def Qoz:List (ARv × Md):=[(.l 2 4 true,.b (zds 4))]
theorem QoC (c:((List Int) × Int × Int)) (h :
 let z4:=Qb c (3:Int)
 let z1:=e_op (z4.2) (w64 ((1:Int)+(z4.1)))
 let z2:=Qb (z1.2) (14:Int)
 let z3:=List.take (((z1.1).2.2.2).length) (List.drop 0 ((z1.1).2.2.2))
 (((Qx c (3:Int))∧(p_op (z4.2) (w64 ((1:Int)+(z4.1)))))∧((Qx (z1.2) (14:Int))∧(zif ((z2.1)==(0:Int)) ((Qx (z2.2) (8:Int))∧K (ZG ((w64 (((Qb (z2.2) (8:Int)).1)-(1:Int)),(z1.1).2.1,(z1.1).2.2.1,z3),((Qb (z2.2) (8:Int)).2)))) (zif ((z2.1)==(1:Int)) ((Q9 (z2.2) ([(0:Int),(7:Int),w64 (((z1.1).2.1)+(1:Int))]))∧K (ZG (((z1.1).1,(QD (z2.2) ([(0:Int),(7:Int),w64 (((z1.1).2.1)+(1:Int))])).1,(z1.1).2.2.1,z3),((QD (z2.2) ([(0:Int),(7:Int),w64 (((z1.1).2.1)+(1:Int))])).2)))) (zif ((z2.1)==(2:Int)) (((((z1.1).2.2.2).length=((z1.1).2.2.2).length∨((z1.1).2.2.2).length+1≤((z1.1).2.2.2).length)∧((z1.1).2.2.2).length+1≤big)∧K (ZG (((z1.1).1,(z1.1).2.1,(z1.1).2.2.1,(List.take (((z1.1).2.2.2).length+1) (List.drop 0 ((List.take (((z1.1).2.2.2).length) ((z1.1).2.2.2))++([(0:Int)]))))),(z2.2)))) (zif ((z2.1)==(3:Int)) (zif (decide (((((z1.1).2.2.2).length:Nat):Int)>(0:Int))) (((Qe (z2.2))∧(((0:Int)≤(0:Int)∧Int.toNat (0:Int)<((z1.1).2.2.2).length)∧((0+(Int.toNat (0:Int)))<((z1.1).2.2.2).length)))∧K (ZG (((z1.1).1,(z1.1).2.1,(z1.1).2.2.1,(List.take (((z1.1).2.2.2).length) (List.drop 0 (((z1.1).2.2.2).set (0+(Int.toNat (0:Int))) ((Y1 (z2.2)).1))))),((Y1 (z2.2)).2)))) (K (ZG (((z1.1).1,(z1.1).2.1,(z1.1).2.2.1,z3),(z2.2))))) (K (ZG (((z1.1).1,(z1.1).2.1,(z1.1).2.2.1,z3),(z2.2))))))))))):Hold (tawp Qlc (1+0) QlE (TQ 1 0 Qoz K) (Qm [(.bx [(.c (.sl [(.int .u8)]) c.1),(.c TI c.2.1),(.c TI c.2.2)])])) :=
 Hold.of (by kernel_rfl) h
theorem QeB (c:((List Int) × Int × Int)) (hp:Qe c):∃ t:TOp' × (((List Int) × Int × Int)),(QaX c t)∧TCon Try.prog 187 [(.bx [(.c (.sl [(.int .u8)]) c.1),(.c TI c.2.1),(.c TI c.2.2)])] (ZG t):=by
 refine Q7 (tcx (n:=45) (sg:=Qdb.sg) Qt (TOk.cons Zv (TOk.cons Qiz (TOk.cons JC (TOk.cons Qjf TOk.nil)))) (by kernel_rfl) (by kernel_rfl) (QoC (fun r'=>∃ t,(QaX c t)∧r'=ZG t) c ?_))
 conv=>zeta
 have b1:=QS c 3 hp
 generalize Qb c 3=r1 at b1 ⊢
 have h1:=b1.1
 have h2:=b1.2.1 (by omega)
 rw [Qi (x:=1+r1.1) (by omega) (by omega)]
 have ho:p_op r1.2 (1+r1.1):=⟨b1.2.2.2,by omega,by omega⟩
 have b2:=Qhf _ _ ho
 generalize e_op r1.2 (1+r1.1)=r2 at b2 ⊢
 have hl:=b2.2.2.2.2.1
 have hc2:=b2.2.2.2.2.2
 have b3:=(QS r2.2 14 hc2).2.2.2
 generalize Qb r2.2 14=r3 at b3 ⊢
 refine ⟨⟨hp,ho⟩,hc2,fun _=>⟨b3,Qo ⟨?_,(QS _ _ b3).2.2.2⟩⟩,fun _=>⟨fun _=>⟨⟨b3,by simp,by simp⟩,Qo ⟨?_,(Y8 _ _ ⟨b3,by simp,by simp⟩).2⟩⟩,fun _=>⟨fun _=>⟨⟨.inl rfl,by rw [ZJ];omega⟩,Qo ⟨?_,b3⟩⟩,fun _=>⟨fun _=>⟨fun hh=>⟨⟨b3,⟨by omega,by simpa using hh⟩,by simpa using hh⟩,Qo ⟨?_,Qh1 _ b3⟩⟩,fun _=>(Qo ⟨?_,b3⟩)⟩,fun _=>(Qo ⟨?_,b3⟩)⟩⟩⟩⟩
 all_goals first
  | (simp;omega)
  | omega
  | skip
theorem Qp5 (c:((List Int) × Int × Int)) (hp:Qe c):QaX c (JF c):=(Classical.epsilon_spec (QeB c hp)).1
theorem QmQ (c:((List Int) × Int × Int)) (hp:Qe c):TCon Try.prog 187 [(.bx [(.c (.sl [(.int .u8)]) c.1),(.c TI c.2.1),(.c TI c.2.2)])] (ZG (JF c)):=(Classical.epsilon_spec (QeB c hp)).2
theorem QpY:Qq Try.prog Qdb:=Qv fun x h=>QmQ x.1 h
def ZZ (t:(List TOp') × (((List Int) × Int × Int))):TRes:=⟨(.a [(.r ctOp 0 0 ((t.1).length))]),[(.sl 76 ctOp true t.1)],[[(zcs [(.int .u8)] t.2.1),(zci t.2.2.1),(zci t.2.2.2)]],true,[]⟩
def Qr (x0:((List Int) × Int × Int)):(List TOp') × (((List Int) × Int × Int)):=Classical.epsilon fun t:(List TOp') × (((List Int) × Int × Int))=>(YA x0 t)∧TCon Try.prog 186 [(.bx [(.c (.sl [(.int .u8)]) x0.1),(.c TI x0.2.1),(.c TI x0.2.2)])] (ZZ t)
def Qa2:TRow:=Qp 186 [(.b [(.sl [(.int .u8)]),TI,TI])] fun x=>(some (Qe x.1),ZZ (Qr x.1))
def QdH:List TRow:=[Zj,Qb0]
def QiC:TCode :=
 (zsq [(zsq [(.reg [zmv 14 5,zbi 15 .gtr 14 (zki 0)]),(.cond 15 .skip (.exit 0))]),(.block 1 (zsq [(.reg [zmv 18 0,zmv 19 4,zca 20 205 [18,19],zop 6 (.new 76 (z0s ctOp)),zst 6 20 4]),(.reg [zfa 21 3 0,zld 22 21 1,zLd 23 6 4,zop 24 (.bsl 76 ctOp [23]),zop 25 (.app 22 24 76 ctOp),zfa 26 3 0,zst 26 25 1]),(.reg [zfa 27 6 2,zld 28 27 1,zmv 4 28])])),(.reg [zmv 16 5,zbi 17 .sub 16 (zki 1),zmv 5 17])])
def QiY:List (Nat × Md):=[(0,.b [.d,.d,.d]),(2,.b [.d]),(3,.b [.o 76]),(4,.one .d),(5,.one .d)]
def Qfr:TCode :=
 (zsq [(.reg [zLd 29 3 1,zst 2 29 1]),.ret])
def Qlv:TCode :=
 (zsq [(.reg [zop 2 (.new 66 [(.n ctOp)])]),(.reg [zop 7 (.build [(.n ctOp)] []),zop 3 (.new 66 [(.n ctOp)]),zst 3 7 1]),(.reg [zmv 8 0,zca 9 116 [8,(zki 3)],zbi 10 .add (zki 1) 9,zmv 4 10]),(zsq [(.reg [zmv 11 0,zca 12 116 [11,(zki 6)],zbi 13 .add (zki 1) 12,zmv 5 13]),(.block 0 (.loop QiY QiC))]),Qfr])
def Qir:List (ARv × Md):=[(.l 2 1 true,.b [.o 76])]
def Qe4:Qg:=TQ 1 0 Qir K
def Qp1:Qg:=Qseq (tawp QdH 1 Qfr (Qe4 K)) (Qe4 K)
def Qll:Qg:=Qblk 0 (Qp1 K)
def Qa5 (inn:Int) (n:Int) (c0:List Int) (c1:Int) (c2:Int) (m0:List TOp'):Prop:=Loop QdH 1 QiY QiC (Qll K) ⟨[(0,(.p 0 0 0)),(2,(.p 1 0 0)),(3,(.p 3 0 0)),(4,(zci inn)),(5,(zci n))],[(0,(.box [(zcs [(.int .u8)] c0),(zci c1),(zci c2)])),(1,(.box [(zcs ctOp ([]))])),(2,(.sl 76 ctOp true m0)),(3,(.box [(.r ctOp 2 0 m0.length)]))],4⟩
theorem Qhu (inn:Int) (n:Int) (c0:List Int) (c1:Int) (c2:Int) (m0:List TOp') (h :
 (zif (decide (n>(0:Int))) ((p_op (c0,c1,c2) inn)∧(((m0.length=m0.length∨m0.length+1≤m0.length)∧m0.length+1≤big)∧(Qa5 K (((e_op (c0,c1,c2) inn).1).2.2.1) (w64 (n-(1:Int))) (((e_op (c0,c1,c2) inn).2).1) (((e_op (c0,c1,c2) inn).2).2.1) (((e_op (c0,c1,c2) inn).2).2.2) (List.take (m0.length+1) ((List.take m0.length m0)++([(((e_op (c0,c1,c2) inn).1).1,((e_op (c0,c1,c2) inn).1).2.1,((e_op (c0,c1,c2) inn).1).2.2.1,(List.take ((((e_op (c0,c1,c2) inn).1).2.2.2).length) (List.drop 0 (((e_op (c0,c1,c2) inn).1).2.2.2))))])))))) (K (ZZ ((List.take m0.length m0),(c0,c1,c2)))))):Qa5 K inn n c0 c1 c2 m0 :=
 Loop.of (by kernel_rfl) h
theorem Qqa (c:((List Int) × Int × Int)) (h :
 ((Qx c (3:Int))∧((Qx ((Qb c (3:Int)).2) (6:Int))∧(Qa5 K (w64 ((1:Int)+((Qb c (3:Int)).1))) (w64 ((1:Int)+((Qb ((Qb c (3:Int)).2) (6:Int)).1))) (((Qb ((Qb c (3:Int)).2) (6:Int)).2).1) (((Qb ((Qb c (3:Int)).2) (6:Int)).2).2.1) (((Qb ((Qb c (3:Int)).2) (6:Int)).2).2.2) ([]:List TOp'))))):Hold (tawp QdH (1+0) Qlv (TQ 1 0 Qir K) (Qm [(.bx [(.c (.sl [(.int .u8)]) c.1),(.c TI c.2.1),(.c TI c.2.2)])])) :=
 Hold.of (by kernel_rfl) h
theorem QeQ (c:((List Int) × Int × Int)) (hp:Qe c):∃ t:(List TOp') × (((List Int) × Int × Int)),(YA c t)∧TCon Try.prog 186 [(.bx [(.c (.sl [(.int .u8)]) c.1),(.c TI c.2.1),(.c TI c.2.2)])] (ZZ t):=by
 refine Q7 (tcx (n:=30) (sg:=Qa2.sg) Qt (TOk.cons Zv (TOk.cons Qiz TOk.nil)) (by kernel_rfl) (by kernel_rfl) (Qqa (fun r'=>∃ t,(YA c t)∧r'=ZZ t) c ?_))
 have b1:=QS c 3 hp
 generalize Qb c 3=r1 at b1 ⊢
 have b2:=QS r1.2 6 b1.2.2.2
 generalize Qb r1.2 6=r2 at b2 ⊢
 have h1:=b1.1
 have h2:=b1.2.1 (by omega)
 have h3:=b2.1
 have h4:=b2.2.1 (by omega)
 rw [Qi (x:=1+r1.1) (by omega) (by omega),Qi (x:=1+r2.1) (by omega) (by omega)]
 refine ⟨hp,b1.2.2.2,?_⟩
 have key:∀ (k:Nat) (inn c1 c2:Int) (c0:List Int) (m0:QF),Qe (c0,c1,c2)→1≤inn→inn≤3→m0.length+k≤6→1≤m0.length+k→Q4 none m0=true→QaV none m0 inn=true→Qa5 (fun r'=>∃ t,(YA c t)∧r'=ZZ t) inn (k:Int) c0 c1 c2 m0:=by
  intro k
  induction k with
  | zero =>
   intro inn c1 c2 c0 m0 hc k1 k2 k3 k4 k5 k6
   refine Qhu (fun r'=>∃ t,(YA c t)∧r'=ZZ t) _ _ _ _ _ _ ⟨fun h=>by simp at h,fun _=>(Qo ⟨?_,?_,hc⟩)⟩
   ·simp only [List.take_length,Qu,Bool.and_eq_true,QE]
    exact ⟨by omega,k5⟩
   ·simp only [List.take_length];omega
  | succ k ih =>
   intro inn c1 c2 c0 m0 hc k1 k2 k3 k4 k5 k6
   have ho:p_op (c0,c1,c2) inn:=⟨hc,k1,k2⟩
   have b:=Qhf _ _ ho
   refine Qhu (fun r'=>∃ t,(YA c t)∧r'=ZZ t) _ _ _ _ _ _ ⟨fun _=>⟨ho,⟨.inl rfl,by rw [ZJ];omega⟩,?_⟩,fun h=>by simp at h <;> omega⟩
   rw [YU,Qi (x:=((k+1:Nat):Int)-1) (by omega) (by omega),show ((k+1:Nat):Int)-1=k by omega]
   refine ih _ _ _ _ _ b.2.2.2.2.2 b.2.2.1 b.2.2.2.1 (by simp;omega) (by simp;omega) (Qjt _ _ _ k5 ?_ ?_) ?_
   ·simp only [List.drop_zero,List.take_length];exact b.1
   ·rw [show (((e_op (c0,c1,c2) inn).1.1,(e_op (c0,c1,c2) inn).1.2.1,(e_op (c0,c1,c2) inn).1.2.2.1,List.take (e_op (c0,c1,c2) inn).1.2.2.2.length (List.drop 0 (e_op (c0,c1,c2) inn).1.2.2.2)):TOp').2.1=inn from b.2.1]
    exact k6
   ·exact Qfw _ _ _
 have h:=key (1+r2.1).toNat (1+r1.1) r2.2.2.1 r2.2.2.2 r2.2.1 [] b2.2.2.2 (by omega) (by omega) (by simp;omega) (by simp;omega) rfl rfl
 rw [Int.toNat_of_nonneg (by omega)] at h
 exact h
theorem QiJ (c:((List Int) × Int × Int)) (hp:Qe c):YA c (Qr c):=(Classical.epsilon_spec (QeQ c hp)).1
theorem Qon (c:((List Int) × Int × Int)) (hp:Qe c):TCon Try.prog 186 [(.bx [(.c (.sl [(.int .u8)]) c.1),(.c TI c.2.1),(.c TI c.2.2)])] (ZZ (Qr c)):=(Classical.epsilon_spec (QeQ c hp)).2
theorem Qf8:Qq Try.prog Qa2:=Qv fun x h=>Qon x.1 h
def ZC (t:(List TOp') × (((List Int) × Int × Int))):TRes:=⟨(.a [(zcs ctOp t.1)]),[],[[(zcs [(.int .u8)] t.2.1),(zci t.2.2.1),(zci t.2.2.2)]],true,[]⟩
def Qbn (x0:((List Int) × Int × Int)):(List TOp') × (((List Int) × Int × Int)):=Classical.epsilon fun t:(List TOp') × (((List Int) × Int × Int))=>(Js x0 t)∧TCon Try.prog 131 [(.bx [(.c (.sl [(.int .u8)]) x0.1),(.c TI x0.2.1),(.c TI x0.2.2)])] (ZC t)
def Qem:TRow:=Qp 131 [(.b [(.sl [(.int .u8)]),TI,TI])] fun x=>(some (Qe x.1),ZC (Qbn x.1))
def Qc0:List TRow:=[Qa2,Zj,Qdb]
def Qh6:TCode :=
 (zsq [(zsq [(.draw [zfa 31 3 0,zld 32 31 1,zle 33 32,zmv 34 0,zca 35 116 [34,(zki 2)],zbi 36 .add (zki 8) 35,zbi 37 .lss 33 36] [(0,4),(1,4),(2,4)]),(.cond 37 .skip (.exit 1))]),(.block 2 (.draw [zfa 38 3 0,zld 39 38 1,zfa 40 3 0,zld 41 40 1,zfa 42 3 0,zld 43 42 1,zle 44 43,zbi 45 .sub 44 (zki 1),zia 46 41 45 ctOp,zfa 47 46 2,zld 48 47 1,zfa 49 3 0,zld 50 49 1,zfa 51 3 0,zld 52 51 1,zle 53 52,zbi 54 .sub 53 (zki 1),zia 55 50 54 ctOp,zfa 56 55 2,zld 57 56 1,zop 58 (.build (z0s ctOp) [(0,1,(zki 3)),(1,1,48),(2,1,57)]),zop 59 (.bsl 76 ctOp [58]),zop 60 (.app 39 59 76 ctOp),zfa 61 3 0,zst 61 60 1] [(0,21),(1,21)]))])
def Qfx:List (Nat × Md):=[(0,.b [.d,.d,.d]),(2,.b [.d]),(3,.b [.f])]
def Qi1:TCode :=
 (zsq [(.reg [zLd 62 3 1,zst 2 62 1]),.ret])
def Qmp:TCode :=
 (zsq [(.reg [zop 2 (.new 66 [(.n ctOp)])]),(.reg [zmv 5 0,zca 6 186 [5],zop 3 (.new 66 [(.n ctOp)]),zst 3 6 1]),(.reg [zmv 7 0,zfa 8 3 0,zld 9 8 1,zle 10 9,zca 11 116 [7,10],zmv 4 11]),(zsq [(.reg [zmv 12 0,zca 13 116 [12,(zki 16)]]),(.block 0 (zsq [(.reg [zbi 15 .eql 13 (zki 0),zmv 14 15]),(.cond 14 (.draw [zfa 16 3 0,zld 17 16 1,zmv 18 4,zmv 19 0,zca 20 187 [19],zia 21 17 18 ctOp,zst 21 20 4] [(0,4),(1,4)]) (zsq [(.reg [zbi 23 .eql 13 (zki 1),zmv 22 23]),(.cond 22 (.reg [zfa 24 3 0,zld 25 24 1,zmv 26 4,zop 27 (.slc 25 none (some 26) ctOp),zfa 28 3 0,zst 28 27 1]) (zsq [(.reg [zbi 30 .eql 13 (zki 2),zmv 29 30]),(.cond 29 (.block 1 (.loop Qfx Qh6)) .skip)]))]))]))]),Qi1])
def Qjm:List (ARv × Md):=[(.l 2 1 true,.b [.d])]
def Qho:Qg:=TQ 1 0 Qjm K
def Qpi:Qg:=Qseq (tawp Qc0 1 Qi1 (Qho K)) (Qho K)
def QoM:Qg:=Qblk 0 (Qpi K)
def QmK:Qg:=Qblk 1 (QoM K)
def QaM (c0:List Int) (c1:Int) (c2:Int) (m0:List TOp'):Prop:=Loop Qc0 1 Qfx Qh6 (QmK K) ⟨[(0,(.p 0 0 0)),(2,(.p 1 0 0)),(3,(.p 3 0 0))],[(0,(.box [(zcs [(.int .u8)] c0),(zci c1),(zci c2)])),(1,(.box [(zcs ctOp ([]))])),(2,(.sl 76 ctOp true m0)),(3,(.box [(.r ctOp 2 0 m0.length)]))],4⟩
theorem Qgn (c0:List Int) (c1:Int) (c2:Int) (m0:List TOp') (h :
 ((Qx (c0,c1,c2) (2:Int))∧(zif (decide (((m0.length:Nat):Int)<(w64 ((8:Int)+((Qb (c0,c1,c2) (2:Int)).1))))) ((((0:Int)≤w64 (((m0.length:Nat):Int)-(1:Int))∧Int.toNat (w64 (((m0.length:Nat):Int)-(1:Int)))<m0.length)∧(((0+(Int.toNat (w64 (((m0.length:Nat):Int)-(1:Int)))))<m0.length)∧(((0:Int)≤w64 (((m0.length:Nat):Int)-(1:Int))∧Int.toNat (w64 (((m0.length:Nat):Int)-(1:Int)))<m0.length)∧(((0+(Int.toNat (w64 (((m0.length:Nat):Int)-(1:Int)))))<m0.length)∧((m0.length=m0.length∨m0.length+1≤m0.length)∧m0.length+1≤big)))))∧(QaM K (((Qb (c0,c1,c2) (2:Int)).2).1) (((Qb (c0,c1,c2) (2:Int)).2).2.1) (((Qb (c0,c1,c2) (2:Int)).2).2.2) (List.take (m0.length+1) ((List.take m0.length m0)++([((3:Int),(gtd dOp m0 (0+(Int.toNat (w64 (((m0.length:Nat):Int)-(1:Int)))))).2.2.1,(gtd dOp m0 (0+(Int.toNat (w64 (((m0.length:Nat):Int)-(1:Int)))))).2.2.1,[])]))))) (K (ZC ((List.take m0.length (List.drop 0 m0)),((Qb (c0,c1,c2) (2:Int)).2))))))):QaM K c0 c1 c2 m0 :=
 Loop.of (by kernel_rfl) h
theorem QoV (c:((List Int) × Int × Int)) (h :
 let z1:=Qb ((Qr c).2) ((((Qr c).1).length:Nat):Int)
 let z2:=Qb (z1.2) (16:Int)
 ((Qe c)∧((Qx ((Qr c).2) ((((Qr c).1).length:Nat):Int))∧((Qx (z1.2) (16:Int))∧(zif ((z2.1)==(0:Int)) (((Qe (z2.2))∧(((0:Int)≤z1.1∧Int.toNat (z1.1)<((Qr c).1).length)∧((0+(Int.toNat (z1.1)))<((Qr c).1).length)))∧K (ZC ((List.take (((Qr c).1).length) (List.drop 0 (((Qr c).1).set (0+(Int.toNat (z1.1))) ((JF (z2.2)).1)))),((JF (z2.2)).2)))) (zif ((z2.1)==(1:Int)) (((0:Int)≤(0:Int)∧(0:Int)≤z1.1∧z1.1≤((((Qr c).1).length:Nat):Int))∧K (ZC ((List.take (Int.toNat (z1.1)-Int.toNat (0:Int)) (List.drop 0 ((Qr c).1))),(z2.2)))) (zif ((z2.1)==(2:Int)) (QaM K ((z2.2).1) ((z2.2).2.1) ((z2.2).2.2) (List.take (((Qr c).1).length) ((Qr c).1))) (K (ZC ((List.take (((Qr c).1).length) (List.drop 0 ((Qr c).1))),(z2.2))))))))))):Hold (tawp Qc0 (1+0) Qmp (TQ 1 0 Qjm K) (Qm [(.bx [(.c (.sl [(.int .u8)]) c.1),(.c TI c.2.1),(.c TI c.2.2)])])) :=
 Hold.of (by kernel_rfl) h
theorem QnT (c:((List Int) × Int × Int)) (hp:Qe c):∃ t:(List TOp') × (((List Int) × Int × Int)),(Js c t)∧TCon Try.prog 131 [(.bx [(.c (.sl [(.int .u8)]) c.1),(.c TI c.2.1),(.c TI c.2.2)])] (ZC t):=by
 refine Q7 (tcx (n:=63) (sg:=Qem.sg) Qt (TOk.cons Qf8 (TOk.cons Zv (TOk.cons QpY TOk.nil))) (by kernel_rfl) (by kernel_rfl) (QoV (fun r'=>∃ t,(Js c t)∧r'=ZC t) c ?_))
 conv=>zeta
 have b1:=QiJ c hp
 generalize Qr c=r1 at b1 ⊢
 obtain ⟨k1,k2,k3⟩:=b1
 have k4:1≤r1.1.length:=by
  simp only [Qu,Bool.and_eq_true,QE] at k1
  omega
 have b2:=QS r1.2 r1.1.length k3
 generalize Qb r1.2 r1.1.length=r2 at b2 ⊢
 have h1:=b2.1
 have h2:=b2.2.1 (by omega)
 have b3:=(QS r2.2 16 b2.2.2.2).2.2.2
 generalize Qb r2.2 16=r3 at b3 ⊢
 refine ⟨hp,k3,b2.2.2.2,fun _=>⟨⟨b3,⟨h1,by omega⟩,by omega⟩,Qo ⟨?_,(Qp5 _ b3).2⟩⟩,fun _=>⟨fun _=>⟨⟨by omega,by omega,by omega⟩,Qo ⟨?_,b3⟩⟩,fun _=>⟨fun _=>?_,fun _=>(Qo ⟨?_,b3⟩)⟩⟩⟩
 ·simp;omega
 ·simp;omega
 ·rw [List.take_length]
  have key:∀ (k:Nat) (c1 c2:Int) (c0:List Int) (m0:QF),Qe (c0,c1,c2)→1≤m0.length→m0.length+k=9→QaM (fun r'=>∃ t,(Js c t)∧r'=ZC t) c0 c1 c2 m0:=by
   intro k
   induction k with
   | zero =>
    intro c1 c2 c0 m0 hc q1 q2
    have b:=QS (c0,c1,c2) 2 hc
    have q3:=b.1
    have q4:=b.2.1 (by omega)
    refine Qgn (fun r'=>∃ t,(Js c t)∧r'=ZC t) _ _ _ _ ⟨hc,fun h=>?_,fun _=>(Qo ⟨?_,b.2.2.2⟩)⟩
    ·rw [Qi (x:=8+_) (by omega) (by omega)] at h
     simp at h;omega
    ·simp;omega
   | succ k ih =>
    intro c1 c2 c0 m0 hc q1 q2
    have b:=QS (c0,c1,c2) 2 hc
    refine Qgn (fun r'=>∃ t,(Js c t)∧r'=ZC t) _ _ _ _ ⟨hc,fun _=>?_,fun _=>(Qo ⟨?_,b.2.2.2⟩)⟩
    ·rw [Qi (x:=(m0.length:Int)-1) (by omega) (by omega)]
     refine ⟨⟨⟨by omega,by omega⟩,by omega,⟨by omega,by omega⟩,by omega,.inl rfl,by rw [ZJ];omega⟩,?_⟩
     rw [YU]
     exact ih _ _ _ _ b.2.2.2 (by simp) (by simp;omega)
    ·simp;omega
  exact key (9-r1.1.length) _ _ _ _ b3 k4 (by omega)
 ·simp;omega
theorem Qo2 (c:((List Int) × Int × Int)) (hp:Qe c):TCon Try.prog 131 [(.bx [(.c (.sl [(.int .u8)]) c.1),(.c TI c.2.1),(.c TI c.2.2)])] (ZC (Qbn c)):=(Classical.epsilon_spec (QnT c hp)).2
theorem Qm6:Qq Try.prog Qem:=Qv fun x h=>Qo2 x.1 h
end
end Go.Proofs.Ytephkbajoofeoaa.Am

