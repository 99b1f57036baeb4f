/- -/
import Derived.Test.YtjbdljkhbglnhaaGreatZGD1
import Derived.Test.YtjbdljkhbglnhaaGreatZGP4
namespace Go.Proofs.YtjbdljkhbglnhaaGreat.Am
open Go Go.RowKit Go.Proofs.YtjbdljkhbglnhaaGreat
set_option linter.all false
set_option maxHeartbeats 2000000
noncomputable section
variable (K:TRes→Prop)
def Qbl (t:Int × (((List Int) × Int × Int))):TRes:=⟨(zci t.1),[],[[(zcs [(.int .u8)] t.2.1),(zci t.2.2.1),(zci t.2.2.2)]],true,[]⟩
def Qbf (x0:((List Int) × Int × Int)):Int × (((List Int) × Int × Int)):=Classical.epsilon fun t:Int × (((List Int) × Int × Int))=>(Qiu x0 t)∧TCon Tryz.prog 181 [(.bx [(.c (.sl [(.int .u8)]) x0.1),(.c TI x0.2.1),(.c TI x0.2.2)])] (Qbl t)
def QfH:TRow:=Qi 181 [(.b [(.sl [(.int .u8)]),TI,TI])] fun x=>(some (Qz x.1),Qbl (Qbf x.1))
def QzL:List TRow:=[Ju,Qbv]
def QLT:TCode :=
 (zsq [(.reg [zmv 2 (zki 0)]),(zsq [(.reg [zmv 3 0,zca 4 108 [3,(zki 12)]]),(.block 0 (zsq [(.reg [zbi 6 .eql 4 (zki 0),zmv 5 6]),(.cond 5 (zsq [(.reg [zmv 7 0,zop 8 (.bsl 3 [TI] [(zki 2147483647),(zki (-2147483647)),(zki 2147483646),(zki 1),(zki (-1)),(zki 0)]),zca 9 145 [7,8],zmv 2 9]),.ret]) (zsq [(.reg [zbi 11 .eql 4 (zki 1),zmv 10 11]),(.cond 10 (zsq [(.reg [zmv 12 0,zca 13 108 [12,(zki 4000)],zbi 14 .sub 13 (zki 2000),zbi 15 .mul 14 (zki 997),zmv 2 15]),.ret]) (zsq [(.reg [zbi 17 .eql 4 (zki 2),zmv 16 17]),(.cond 16 (zsq [(.reg [zmv 18 0,zca 19 108 [18,(zki 9)],zbi 20 .sub 19 (zki 4),zmv 2 20]),.ret]) .skip)]))]))]))]),(.reg [zmv 21 0,zca 22 108 [21,(zki 17)],zbi 23 .sub 22 (zki 8),zbi 24 .mul 23 (zki 65536),zmv 25 0,zop 26 (.bsl 3 [TI] [(zki 1),(zki 1),(zki 2),(zki 4),(zki 3)]),zca 27 145 [25,26],zbi 28 .quo 24 27,zmv 2 28]),.ret])
def QP2:List (ARv × Md):=[(.t 2,.one .d)]
theorem QHd (c:((List Int) × Int × Int)) (h :
 ((Zh c (12:Int))∧(zif (((Qe c (12:Int)).1)==(0:Int)) ((YZ ((Qe c (12:Int)).2) ([(2147483647:Int),(-2147483647:Int),(2147483646:Int),(1:Int),(-1:Int),(0:Int)]))∧K (Qbl ((Zt ((Qe c (12:Int)).2) ([(2147483647:Int),(-2147483647:Int),(2147483646:Int),(1:Int),(-1:Int),(0:Int)])).1,((Zt ((Qe c (12:Int)).2) ([(2147483647:Int),(-2147483647:Int),(2147483646:Int),(1:Int),(-1:Int),(0:Int)])).2)))) (zif (((Qe c (12:Int)).1)==(1:Int)) ((Zh ((Qe c (12:Int)).2) (4000:Int))∧K (Qbl (w64 ((w64 (((Qe ((Qe c (12:Int)).2) (4000:Int)).1)-(2000:Int)))*(997:Int)),((Qe ((Qe c (12:Int)).2) (4000:Int)).2)))) (zif (((Qe c (12:Int)).1)==(2:Int)) ((Zh ((Qe c (12:Int)).2) (9:Int))∧K (Qbl (w64 (((Qe ((Qe c (12:Int)).2) (9:Int)).1)-(4:Int)),((Qe ((Qe c (12:Int)).2) (9:Int)).2)))) (((Zh ((Qe c (12:Int)).2) (17:Int))∧((YZ ((Qe ((Qe c (12:Int)).2) (17:Int)).2) ([(1:Int),(1:Int),(2:Int),(4:Int),(3:Int)]))∧(¬ ((Zt ((Qe ((Qe c (12:Int)).2) (17:Int)).2) ([(1:Int),(1:Int),(2:Int),(4:Int),(3:Int)])).1:Int)=0)))∧K (Qbl (w64 (Int.tdiv (w64 ((w64 (((Qe ((Qe c (12:Int)).2) (17:Int)).1)-(8:Int)))*(65536:Int))) ((Zt ((Qe ((Qe c (12:Int)).2) (17:Int)).2) ([(1:Int),(1:Int),(2:Int),(4:Int),(3:Int)])).1)),((Zt ((Qe ((Qe c (12:Int)).2) (17:Int)).2) ([(1:Int),(1:Int),(2:Int),(4:Int),(3:Int)])).2))))))))):Hold (tawp QzL (1+0) QLT (TQ 1 0 QP2 K) (Qf [(.bx [(.c (.sl [(.int .u8)]) c.1),(.c TI c.2.1),(.c TI c.2.2)])])) :=
 Hold.of (by kernel_rfl) h
theorem Qo8 (c:((List Int) × Int × Int)) (hp:Qz c):∃ t:Int × (((List Int) × Int × Int)),(Qiu c t)∧TCon Tryz.prog 181 [(.bx [(.c (.sl [(.int .u8)]) c.1),(.c TI c.2.1),(.c TI c.2.2)])] (Qbl t):=by
 refine YS (tcx (n:=29) (sg:=QfH.sg) Qk (TOk.cons J8 (TOk.cons Qdi TOk.nil)) (by kernel_rfl) (by kernel_rfl) (QHd (fun r'=>∃ t,(Qiu c t)∧r'=Qbl t) c ?_))
 have b1:=Z8 c 12 hp
 generalize Qe c 12=r at b1 ⊢
 have hc:Qz r.2:=b1.2.2.2
 refine ⟨hp,fun _=>?_,fun _=>⟨fun _=>?_,fun _=>⟨fun _=>?_,fun _=>?_⟩⟩⟩
 ·have hpp:YZ r.2 [2147483647,-2147483647,2147483646,1,-1,0]:=⟨hc,by simp,by simp⟩
  have b2:=Qdr _ _ hpp
  refine ⟨hpp,Q9 ⟨?_,b2.2⟩⟩
  have b3:=b2.1
  simp only [List.mem_cons,List.not_mem_nil,or_false] at b3
  simp only [Zc,Bool.and_eq_true,decide_eq_true_eq]
  omega
 ·have b2:=Z8 r.2 4000 hc
  refine ⟨hc,Q9 ⟨?_,b2.2.2.2⟩⟩
  have h1:=b2.1
  have h2:=b2.2.1 (by omega)
  rw [Qp (x:=_-2000) (by omega) (by omega),Qp (by omega) (by omega)]
  simp only [Zc,Bool.and_eq_true,decide_eq_true_eq]
  omega
 ·have b2:=Z8 r.2 9 hc
  refine ⟨hc,Q9 ⟨?_,b2.2.2.2⟩⟩
  have h1:=b2.1
  have h2:=b2.2.1 (by omega)
  rw [Qp (by omega) (by omega)]
  simp only [Zc,Bool.and_eq_true,decide_eq_true_eq]
  omega
 ·have b2:=Z8 r.2 17 hc
  have hpp:YZ (Qe r.2 17).2 [1,1,2,4,3]:=⟨b2.2.2.2,by simp,by simp⟩
  have b3:=Qdr _ _ hpp
  have b4:=b3.1
  simp only [List.mem_cons,List.not_mem_nil,or_false] at b4
  have h1:=b2.1
  have h2:=b2.2.1 (by omega)
  refine ⟨⟨hc,hpp,by omega⟩,Q9 ⟨?_,b3.2⟩⟩
  have h3:=QEj (a:=((Qe r.2 17).1-8)*65536) (b:=(Zt (Qe r.2 17).2 [1,1,2,4,3]).1) (B:=1000000) (by omega) (by omega) (by omega)
  rw [Qp (x:=_-8) (by omega) (by omega),Qp (x:=_*65536) (by omega) (by omega),Qp (by omega) (by omega)]
  simp only [Zc,Bool.and_eq_true,decide_eq_true_eq]
  omega
theorem Qs0 (c:((List Int) × Int × Int)) (hp:Qz c):Qiu c (Qbf c):=(Classical.epsilon_spec (Qo8 c hp)).1
theorem QK4 (c:((List Int) × Int × Int)) (hp:Qz c):TCon Tryz.prog 181 [(.bx [(.c (.sl [(.int .u8)]) c.1),(.c TI c.2.1),(.c TI c.2.2)])] (Qbl (Qbf c)):=(Classical.epsilon_spec (Qo8 c hp)).2
theorem QqA:Qj Tryz.prog QfH:=Ql fun x h=>QK4 x.1 h
def Qcq (t:Int × (((List Int) × Int × Int))):TRes:=⟨(zci t.1),[],[[(zcs [(.int .u8)] t.2.1),(zci t.2.2.1),(zci t.2.2.2)]],true,[]⟩
def Qcc (x0:((List Int) × Int × Int)):Int × (((List Int) × Int × Int)):=Classical.epsilon fun t:Int × (((List Int) × Int × Int))=>(Qic x0 t)∧TCon Tryz.prog 182 [(.bx [(.c (.sl [(.int .u8)]) x0.1),(.c TI x0.2.1),(.c TI x0.2.2)])] (Qcq t)
def QfX:TRow:=Qi 182 [(.b [(.sl [(.int .u8)]),TI,TI])] fun x=>(some (Qz x.1),Qcq (Qcc x.1))
def QBm:List TRow:=[Qfe,Qbv,QfH]
def QJC:TCode :=
 (zsq [(.reg [zmv 2 (zki 0)]),(zsq [(.reg [zmv 3 0,zca 4 106 [3,(zki 8)]]),(.cond 4 (zsq [(.reg [zmv 5 0,zop 6 (.bsl 3 [TI] [(zki 2147483648),(zki (-2147483648)),(zki 9223372036854775807),(zki (-9223372036854775807))]),zca 7 145 [5,6],zmv 2 7]),.ret]) .skip)]),(.reg [zmv 8 0,zca 9 181 [8],zmv 2 9]),.ret])
def QCl:List (ARv × Md):=[(.t 2,.one .d)]
theorem QB8 (c:((List Int) × Int × Int)) (h :
 ((Zh c (8:Int))∧(zif ((ZI c (8:Int)).1) ((YZ ((ZI c (8:Int)).2) ([(2147483648:Int),(-2147483648:Int),(9223372036854775807:Int),(-9223372036854775807:Int)]))∧K (Qcq ((Zt ((ZI c (8:Int)).2) ([(2147483648:Int),(-2147483648:Int),(9223372036854775807:Int),(-9223372036854775807:Int)])).1,((Zt ((ZI c (8:Int)).2) ([(2147483648:Int),(-2147483648:Int),(9223372036854775807:Int),(-9223372036854775807:Int)])).2)))) ((Qz ((ZI c (8:Int)).2))∧K (Qcq ((Qbf ((ZI c (8:Int)).2)).1,((Qbf ((ZI c (8:Int)).2)).2))))))):Hold (tawp QBm (1+0) QJC (TQ 1 0 QCl K) (Qf [(.bx [(.c (.sl [(.int .u8)]) c.1),(.c TI c.2.1),(.c TI c.2.2)])])) :=
 Hold.of (by kernel_rfl) h
theorem QpB (c:((List Int) × Int × Int)) (hp:Qz c):∃ t:Int × (((List Int) × Int × Int)),(Qic c t)∧TCon Tryz.prog 182 [(.bx [(.c (.sl [(.int .u8)]) c.1),(.c TI c.2.1),(.c TI c.2.2)])] (Qcq t):=by
 refine YS (tcx (n:=10) (sg:=QfX.sg) Qk (TOk.cons QmX (TOk.cons Qdi (TOk.cons QqA TOk.nil))) (by kernel_rfl) (by kernel_rfl) (QB8 (fun r'=>∃ t,(Qic c t)∧r'=Qcq t) c ?_))
 have b1:=Qmh c 8 hp
 generalize ZI c 8=r at b1 ⊢
 have hpp:YZ r.2 [2147483648,-2147483648,9223372036854775807,-9223372036854775807]:=⟨b1,by simp,by simp⟩
 exact ⟨hp,fun _=>⟨hpp,Q9 ((Qdr _ _ hpp).2)⟩,fun _=>⟨b1,Q9 ((Qs0 _ b1).2)⟩⟩
theorem Qq1 (c:((List Int) × Int × Int)) (hp:Qz c):Qic c (Qcc c):=(Classical.epsilon_spec (QpB c hp)).1
theorem QPZ (c:((List Int) × Int × Int)) (hp:Qz c):TCon Tryz.prog 182 [(.bx [(.c (.sl [(.int .u8)]) c.1),(.c TI c.2.1),(.c TI c.2.2)])] (Qcq (Qcc c)):=(Classical.epsilon_spec (QpB c hp)).2
theorem Qop:Qj Tryz.prog QfX:=Ql fun x h=>QPZ x.1 h
def QaW (t:(List Int) × (((List Int) × Int × Int))):TRes:=⟨(.r [TI] 0 0 ((t.1).length)),[(.sl 3 [TI] true t.1)],[[(zcs [(.int .u8)] t.2.1),(zci t.2.2.1),(zci t.2.2.2)]],true,[]⟩
def Ya (x0:((List Int) × Int × Int)) (x1:Int):(List Int) × (((List Int) × Int × Int)):=Classical.epsilon fun t:(List Int) × (((List Int) × Int × Int))=>(Qcy x0 x1 t)∧TCon Tryz.prog 105 [(.bx [(.c (.sl [(.int .u8)]) x0.1),(.c TI x0.2.1),(.c TI x0.2.2)]),(.c TI x1)] (QaW t)
def QeQ:TRow:=Qi 105 [(.b [(.sl [(.int .u8)]),TI,TI]),(.c TI)] fun x=>(some (Jv x.1 x.2.1),QaW (Ya x.1 x.2.1))
def QjG:List TRow:=[QfH]
def Quj:TCode :=
 (zsq [(zsq [(.reg [zmv 8 6,zmv 9 1,zbi 10 .lss 8 9]),(.cond 10 .skip (.exit 0))]),(.block 1 (.reg [zmv 13 5,zmv 14 0,zca 15 181 [14],zop 16 (.bsl 3 [TI] [15]),zop 17 (.app 13 16 3 [TI]),zmv 5 17])),(.reg [zmv 11 6,zbi 12 .add 11 (zki 1),zmv 6 12])])
def Qwc:List (Nat × Md):=[(0,.b [.d,.d,.d]),(1,.one .d),(5,.one .f),(6,.one .d)]
def QrC:TCode :=
 (zsq [(.reg [zmv 18 5,zmv 4 18]),.ret])
def QMS:TCode :=
 (zsq [(.reg [zmv 4 (.k (.n [TI]))]),(.reg [zop 7 (.bsl 3 [TI] []),zmv 5 7]),(zsq [(.reg [zmv 6 (zki 0)]),(.block 0 (.loop Qwc Quj))]),QrC])
def Qtp:List (ARv × Md):=[(.t 4,.one (.o 3))]
def Qxp:Qb:=TQ 1 0 Qtp K
def QK5:Qb:=Qseq (tawp QjG 1 QrC (Qxp K)) (Qxp K)
def QGy:Qb:=Qblk 0 (QK5 K)
def Qiv (n:Int) (i:Int) (c0:List Int) (c1:Int) (c2:Int) (out:List Int):Prop:=Loop QjG 1 Qwc Quj (QGy K) ⟨[(0,(.p 0 0 0)),(1,(zci n)),(5,(.r [TI] 1 0 out.length)),(6,(zci i))],[(0,(.box [(zcs [(.int .u8)] c0),(zci c1),(zci c2)])),(1,(.sl 3 [TI] true out))],2⟩
theorem Qxt (n:Int) (i:Int) (c0:List Int) (c1:Int) (c2:Int) (out:List Int) (h :
 (zif (decide (i<n)) (((Qz (c0,c1,c2))∧((out.length=out.length∨out.length+1≤out.length)∧out.length+1≤big))∧(Qiv K n (w64 (i+(1:Int))) (((Qbf (c0,c1,c2)).2).1) (((Qbf (c0,c1,c2)).2).2.1) (((Qbf (c0,c1,c2)).2).2.2) (List.take (out.length+1) ((List.take out.length out)++([(Qbf (c0,c1,c2)).1]))))) (K (QaW ((List.take out.length out),(c0,c1,c2)))))):Qiv K n i c0 c1 c2 out :=
 Loop.of (by kernel_rfl) h
theorem QO9 (c:((List Int) × Int × Int)) (n:Int) (h :
 (Qiv K n 0 c.1 c.2.1 c.2.2 ([]:List Int))):Hold (tawp QjG (1+0) QMS (TQ 1 0 Qtp K) (Qf [(.bx [(.c (.sl [(.int .u8)]) c.1),(.c TI c.2.1),(.c TI c.2.2)]),(.c TI n)])) :=
 Hold.of (by kernel_rfl) h
theorem QyE (c:((List Int) × Int × Int)) (n:Int) (hp:Jv c n):∃ t:(List Int) × (((List Int) × Int × Int)),(Qcy c n t)∧TCon Tryz.prog 105 [(.bx [(.c (.sl [(.int .u8)]) c.1),(.c TI c.2.1),(.c TI c.2.2)]),(.c TI n)] (QaW t):=by
 refine YS (tcx (n:=19) (sg:=QeQ.sg) Qk (TOk.cons QqA TOk.nil) (by kernel_rfl) (by kernel_rfl) (QO9 (fun r'=>∃ t,(Qcy c n t)∧r'=QaW t) c n ?_))
 obtain ⟨h1,h2⟩:=hp
 refine QaQ n.toNat (fun k=>∀ (c0:List Int) (c1 c2:Int) (out:List Int),out.length=k→Zs out=true→Qz (c0,c1,c2)→Qiv (fun r'=>∃ t,(Qcy c n t)∧r'=QaW t) n (k:Int) c0 c1 c2 out) ?_ ?_ c.1 c.2.1 c.2.2 [] rfl rfl h1
 ·intro c0 c1 c2 out hl hf hc
  refine Qxt (fun r'=>∃ t,(Qcy c n t)∧r'=QaW t) n _ _ _ _ _ ⟨fun h=>by simp at h;omega,fun _=>(Q9 ⟨?_,?_,hc⟩)⟩
  ·simp;omega
  ·simp only [List.take_length];exact hf
 ·intro k hk ih c0 c1 c2 out hl hf hc
  have b:=Qs0 (c0,c1,c2) hc
  refine Qxt (fun r'=>∃ t,(Qcy c n t)∧r'=QaW t) n _ _ _ _ _ ⟨fun _=>⟨⟨hc,.inl rfl,by rw [Zw];omega⟩,?_⟩,fun h=>by simp at h;omega⟩
  rw [sc1 (by omega),Zx]
  exact ih _ _ _ _ (by simp;omega) (QGJ hf b.1) b.2
theorem Qd2 (c:((List Int) × Int × Int)) (n:Int) (hp:Jv c n):Qcy c n (Ya c n):=(Classical.epsilon_spec (QyE c n hp)).1
theorem QPm (c:((List Int) × Int × Int)) (n:Int) (hp:Jv c n):TCon Tryz.prog 105 [(.bx [(.c (.sl [(.int .u8)]) c.1),(.c TI c.2.1),(.c TI c.2.2)]),(.c TI n)] (QaW (Ya c n)):=(Classical.epsilon_spec (QyE c n hp)).2
theorem Qnk:Qj Tryz.prog QeQ:=Ql fun x h=>QPm x.1 x.2.1 h
def Qb4 (t:(List Int) × (((List Int) × Int × Int))):TRes:=⟨(zcs [TI] t.1),[],[[(zcs [(.int .u8)] t.2.1),(zci t.2.2.1),(zci t.2.2.2)]],true,[]⟩
def QeL (x0:((List Int) × Int × Int)):(List Int) × (((List Int) × Int × Int)):=Classical.epsilon fun t:(List Int) × (((List Int) × Int × Int))=>(QiK x0 t)∧TCon Tryz.prog 107 [(.bx [(.c (.sl [(.int .u8)]) x0.1),(.c TI x0.2.1),(.c TI x0.2.2)])] (Qb4 t)
def Qm3:TRow:=Qi 107 [(.b [(.sl [(.int .u8)]),TI,TI])] fun x=>(some (Qz x.1),Qb4 (QeL x.1))
def QOn:List TRow:=[Ju,QeQ,QfX,Qbv]
def QJN:TCode :=
 (zsq [(.reg [zmv 2 (.k (.n [TI]))]),(.reg [zmv 4 0,zmv 5 0,zca 6 108 [5,(zki 4)],zbi 7 .add (zki 1) 6,zca 8 105 [4,7],zmv 3 8]),(zsq [(.reg [zmv 9 0,zca 10 108 [9,(zki 16)]]),(.block 0 (zsq [(.reg [zbi 12 .eql 10 (zki 0),zmv 11 12]),(.cond 11 (.reg [zmv 13 3,zmv 14 0,zca 15 182 [14],zia 16 13 (zki 0) [TI],zst 16 15 1]) (zsq [(.reg [zbi 18 .eql 10 (zki 1),zmv 17 18]),(.cond 17 (zsq [(.reg [zmv 19 0,zmv 20 0,zop 21 (.bsl 3 [TI] [(zki 0),(zki 6),(zki 7)]),zca 22 145 [20,21],zca 23 105 [19,22],zmv 2 23]),.ret]) .skip)]))]))]),(.reg [zmv 24 3,zmv 2 24]),.ret])
def QHk:List (ARv × Md):=[(.t 2,.one .d)]
theorem QE5 (c:((List Int) × Int × Int)) (h :
 let z3:=Qe c (4:Int)
 let z1:=Ya (z3.2) (w64 ((1:Int)+(z3.1)))
 let z2:=Qe (z1.2) (16:Int)
 (((Zh c (4:Int))∧(Jv (z3.2) (w64 ((1:Int)+(z3.1)))))∧((Zh (z1.2) (16:Int))∧(zif ((z2.1)==(0:Int)) (((Qz (z2.2))∧(((0:Int)≤(0:Int)∧Int.toNat (0:Int)<(z1.1).length)∧((0+(Int.toNat (0:Int)))<(z1.1).length)))∧K (Qb4 ((List.take ((z1.1).length) (List.drop 0 ((z1.1).set (0+(Int.toNat (0:Int))) ((Qcc (z2.2)).1)))),((Qcc (z2.2)).2)))) (zif ((z2.1)==(1:Int)) (((YZ (z2.2) ([(0:Int),(6:Int),(7:Int)]))∧(Jv ((Zt (z2.2) ([(0:Int),(6:Int),(7:Int)])).2) ((Zt (z2.2) ([(0:Int),(6:Int),(7:Int)])).1)))∧K (Qb4 ((List.take (((Ya ((Zt (z2.2) ([(0:Int),(6:Int),(7:Int)])).2) ((Zt (z2.2) ([(0:Int),(6:Int),(7:Int)])).1)).1).length) (List.drop 0 ((Ya ((Zt (z2.2) ([(0:Int),(6:Int),(7:Int)])).2) ((Zt (z2.2) ([(0:Int),(6:Int),(7:Int)])).1)).1))),((Ya ((Zt (z2.2) ([(0:Int),(6:Int),(7:Int)])).2) ((Zt (z2.2) ([(0:Int),(6:Int),(7:Int)])).1)).2)))) (K (Qb4 ((List.take ((z1.1).length) (List.drop 0 (z1.1))),(z2.2))))))))):Hold (tawp QOn (1+0) QJN (TQ 1 0 QHk K) (Qf [(.bx [(.c (.sl [(.int .u8)]) c.1),(.c TI c.2.1),(.c TI c.2.2)])])) :=
 Hold.of (by kernel_rfl) h
theorem Qoq (c:((List Int) × Int × Int)) (hp:Qz c):∃ t:(List Int) × (((List Int) × Int × Int)),(QiK c t)∧TCon Tryz.prog 107 [(.bx [(.c (.sl [(.int .u8)]) c.1),(.c TI c.2.1),(.c TI c.2.2)])] (Qb4 t):=by
 refine YS (tcx (n:=25) (sg:=Qm3.sg) Qk (TOk.cons J8 (TOk.cons Qnk (TOk.cons Qop (TOk.cons Qdi TOk.nil)))) (by kernel_rfl) (by kernel_rfl) (QE5 (fun r'=>∃ t,(QiK c t)∧r'=Qb4 t) c ?_))
 conv=>zeta
 have b1:=Z8 c 4 hp
 generalize Qe c 4=r1 at b1 ⊢
 have h1:=b1.1
 have h2:=b1.2.1 (by omega)
 rw [Qp (x:=1+r1.1) (by omega) (by omega)]
 have hv:Jv r1.2 (1+r1.1):=⟨b1.2.2.2,by omega⟩
 have b2:=Qd2 _ _ hv
 generalize Ya r1.2 (1+r1.1)=r2 at b2 ⊢
 have b3:=Z8 r2.2 16 b2.2.2
 generalize Qe r2.2 16=r3 at b3 ⊢
 have hc:=b3.2.2.2
 have hl:=b2.1
 have hpk:YZ r3.2 [0,6,7]:=⟨hc,by simp,by simp⟩
 have b4:=Qdr _ _ hpk
 have b5:=b4.1
 simp only [List.mem_cons,List.not_mem_nil,or_false] at b5
 have hv2:Jv (Zt r3.2 [0,6,7]).2 (Zt r3.2 [0,6,7]).1:=⟨b4.2,by omega⟩
 have b6:=Qd2 _ _ hv2
 have hl2:=b6.1
 refine ⟨⟨hp,hv⟩,b2.2.2,fun _=>⟨⟨hc,⟨by omega,?_⟩,?_⟩,Q9 ⟨?_,Qq1 _ hc⟩⟩,fun _=>⟨fun _=>⟨⟨hpk,hv2⟩,Q9 ⟨?_,b6.2.2⟩⟩,fun _=>(Q9 ⟨?_,hc⟩)⟩⟩ <;> (simp;omega)
theorem QAq (c:((List Int) × Int × Int)) (hp:Qz c):QiK c (QeL c):=(Classical.epsilon_spec (Qoq c hp)).1
theorem QMi (c:((List Int) × Int × Int)) (hp:Qz c):TCon Tryz.prog 107 [(.bx [(.c (.sl [(.int .u8)]) c.1),(.c TI c.2.1),(.c TI c.2.2)])] (Qb4 (QeL c)):=(Classical.epsilon_spec (Qoq c hp)).2
theorem QAK:Qj Tryz.prog Qm3:=Ql fun x h=>QMi x.1 h
def QbD (t:TOp' × (((List Int) × Int × Int))):TRes:=⟨(.a [(zci t.1.1),(zci t.1.2.1),(zci t.1.2.2.1),(.r [TI] 0 0 ((t.1.2.2.2).length))]),[(.sl 3 [TI] true t.1.2.2.2)],[[(zcs [(.int .u8)] t.2.1),(zci t.2.2.1),(zci t.2.2.2)]],true,[]⟩
def e_op (x0:((List Int) × Int × Int)) (x1:Int):TOp' × (((List Int) × Int × Int)):=Classical.epsilon fun t:TOp' × (((List Int) × Int × Int))=>(q_op x0 x1 t)∧TCon Tryz.prog 223 [(.bx [(.c (.sl [(.int .u8)]) x0.1),(.c TI x0.2.1),(.c TI x0.2.2)]),(.c TI x1)] (QbD t)
def QfV:TRow:=Qi 223 [(.b [(.sl [(.int .u8)]),TI,TI]),(.c TI)] fun x=>(some (p_op x.1 x.2.1),QbD (e_op x.1 x.2.1))
def Qvb:List TRow:=[Ju,QfN,QeQ]
def QqE:TCode :=
 (zsq [(.reg [zmv 19 0,zLd 20 5 4,zca 21 202 [20],zca 22 105 [19,21],zfa 23 5 3,zst 23 22 1]),(.reg [zLd 24 5 4,zst 4 24 4]),.ret])
def QBZ:List (Nat × Md):=[(0,.b [.d,.d,.d]),(4,.b (zds 4)),(5,.b (zds 4))]
def QNZ:TCode:=.wk QBZ QqE
def QI9:TCode :=
 (zsq [(.reg [zop 4 (.new 69 (z0s ctOp))]),(.reg [zmv 6 0,zca 7 108 [6,(zki 5)],zbi 8 .add (zki 1) 7,zmv 9 1,zmv 10 1,zop 11 (.build (z0s ctOp) [(0,1,8),(1,1,9),(2,1,10)]),zop 5 (.new 69 (z0s ctOp)),zst 5 11 4]),(zsq [(.reg [zfa 12 5 0,zld 13 12 1,zbi 14 .eql 13 (zki 1)]),(.cond 14 (.reg [zmv 15 0,zca 16 108 [15,(zki 3)],zbi 17 .add (zki 1) 16,zfa 18 5 2,zst 18 17 1]) .skip)]),QNZ])
def Qo3:List (ARv × Md):=[(.l 4 4 true,.b [.d,.d,.d,.o 3])]
def QBN:Qb:=TQ 1 0 Qo3 K
@[irreducible] def QhW (c:((List Int) × Int × Int)) (inn:Int) (c0:List Int) (c1:Int) (c2:Int) (o2:Int):Prop:=tawp Qvb 1 QqE (QBN K) ⟨[(0,(.p 0 0 0)),(4,(.p 1 0 0)),(5,(.p 2 0 0))],[(0,(.box [(zcs [(.int .u8)] c0),(zci c1),(zci c2)])),(1,(.box (Tup.cells ctOp ((0:Int),(0:Int),(0:Int),[])))),(2,(.box (Tup.cells ctOp (w64 ((1:Int)+((Qe c (5:Int)).1)),inn,o2,[]))))],3⟩
theorem QzD (c:((List Int) × Int × Int)) (inn:Int) (c0:List Int) (c1:Int) (c2:Int) (o2:Int) (h :
 ((Jv (c0,c1,c2) (Z3 (w64 ((1:Int)+((Qe c (5:Int)).1)),inn,o2,[])))∧K (QbD ((w64 ((1:Int)+((Qe c (5:Int)).1)),inn,o2,(List.take (((Ya (c0,c1,c2) (Z3 (w64 ((1:Int)+((Qe c (5:Int)).1)),inn,o2,[]))).1).length) ((Ya (c0,c1,c2) (Z3 (w64 ((1:Int)+((Qe c (5:Int)).1)),inn,o2,[]))).1))),((Ya (c0,c1,c2) (Z3 (w64 ((1:Int)+((Qe c (5:Int)).1)),inn,o2,[]))).2))))):Hold (QhW K c inn c0 c1 c2 o2) :=
 Hold.of (by kernel_rfl) h
theorem QG5 (c:((List Int) × Int × Int)) (inn:Int) (h :
 ((Zh c (5:Int))∧(zif ((w64 ((1:Int)+((Qe c (5:Int)).1)))==(1:Int)) ((Zh ((Qe c (5:Int)).2) (3:Int))∧(QhW K c inn (((Qe ((Qe c (5:Int)).2) (3:Int)).2).1) (((Qe ((Qe c (5:Int)).2) (3:Int)).2).2.1) (((Qe ((Qe c (5:Int)).2) (3:Int)).2).2.2) (w64 ((1:Int)+((Qe ((Qe c (5:Int)).2) (3:Int)).1))))) (QhW K c inn (((Qe c (5:Int)).2).1) (((Qe c (5:Int)).2).2.1) (((Qe c (5:Int)).2).2.2) inn)))):Hold (tawp Qvb (1+0) QI9 (TQ 1 0 Qo3 K) (Qf [(.bx [(.c (.sl [(.int .u8)]) c.1),(.c TI c.2.1),(.c TI c.2.2)]),(.c TI inn)])) :=
 Hold.of (by kernel_rfl) h
theorem QsU (c:((List Int) × Int × Int)) (inn:Int) (hp:p_op c inn):∃ t:TOp' × (((List Int) × Int × Int)),(q_op c inn t)∧TCon Tryz.prog 223 [(.bx [(.c (.sl [(.int .u8)]) c.1),(.c TI c.2.1),(.c TI c.2.2)]),(.c TI inn)] (QbD t):=by
 refine YS (tcx (n:=25) (sg:=QfV.sg) Qk (TOk.cons J8 (TOk.cons Qtr (TOk.cons Qnk TOk.nil))) (by kernel_rfl) (by kernel_rfl) (QG5 (fun r'=>∃ t,(q_op c inn t)∧r'=QbD t) c inn ?_))
 have b1:=Z8 c 5 hp.1
 have h1:=b1.1
 have h2:=b1.2.1 (by omega)
 obtain ⟨_,h3,h4⟩:=hp
 have hw:w64 (1+(Qe c 5).1)=1+(Qe c 5).1:=Qp (by omega) (by omega)
 have key:∀ c0 c1 c2 o2,Qz (c0,c1,c2)→1≤o2→o2≤3→(1+(Qe c 5).1=1∨inn=o2)→QhW (fun r'=>∃ t,(q_op c inn t)∧r'=QbD t) c inn c0 c1 c2 o2:=by
  intro c0 c1 c2 o2 hc k1 k2 k3
  refine (QzD (fun r'=>∃ t,(q_op c inn t)∧r'=QbD t) c inn c0 c1 c2 o2 ?_).h
  rw [hw]
  have h5:1≤1+(Qe c 5).1:=by omega
  have h6:1+(Qe c 5).1≤5:=by omega
  generalize 1+(Qe c 5).1=o1 at h5 h6 k3 ⊢
  have hs:=Qo1 o1 [] h3 h4 k1 k2
  have hv:Jv (c0,c1,c2) (Z3 (o1,inn,o2,[])):=⟨hc,by omega⟩
  have b:=Qd2 _ _ hv
  have hl:=b.1
  refine ⟨hv,Q9 ⟨?_,rfl,k1,k2,?_,b.2.2⟩⟩
  ·simp only [List.take_length]
   exact QIe h5 h6 h3 h4 k1 k2 k3 hl b.2.1
  ·simp;omega
 have b2:=Z8 (Qe c 5).2 3 b1.2.2.2
 have h7:=b2.1
 have h8:=b2.2.1 (by omega)
 rw [hw] at *
 refine ⟨‹Qz c›,fun h=>⟨b1.2.2.2,?_⟩,fun _=>key _ _ _ _ b1.2.2.2 h3 h4 (.inr rfl)⟩
 rw [Qp (x:=1+(Qe (Qe c 5).2 3).1) (by omega) (by omega)]
 exact key _ _ _ _ b2.2.2.2 (by omega) (by omega) (.inl (by simpa using h))
theorem Qwj (c:((List Int) × Int × Int)) (inn:Int) (hp:p_op c inn):q_op c inn (e_op c inn):=(Classical.epsilon_spec (QsU c inn hp)).1
theorem QFJ (c:((List Int) × Int × Int)) (inn:Int) (hp:p_op c inn):TCon Tryz.prog 223 [(.bx [(.c (.sl [(.int .u8)]) c.1),(.c TI c.2.1),(.c TI c.2.2)]),(.c TI inn)] (QbD (e_op c inn)):=(Classical.epsilon_spec (QsU c inn hp)).2
theorem QpO:Qj Tryz.prog QfV:=Ql fun x h=>QFJ x.1 x.2.1 h
def Qal (t:TOp' × (((List Int) × Int × Int))):TRes:=⟨(.a (Tup.cells ctOp t.1)),[],[[(zcs [(.int .u8)] t.2.1),(zci t.2.2.1),(zci t.2.2.2)]],true,[]⟩
def QeA (x0:((List Int) × Int × Int)):TOp' × (((List Int) × Int × Int)):=Classical.epsilon fun t:TOp' × (((List Int) × Int × Int))=>(Qhz x0 t)∧TCon Tryz.prog 201 [(.bx [(.c (.sl [(.int .u8)]) x0.1),(.c TI x0.2.1),(.c TI x0.2.2)])] (Qal t)
def QlV:TRow:=Qi 201 [(.b [(.sl [(.int .u8)]),TI,TI])] fun x=>(some (Qz x.1),Qal (QeA x.1))
def QP1:List TRow:=[Ju,QfV,Qbv,QfX]
def QEY:TCode :=
 (zsq [(.reg [zop 2 (.new 69 (z0s ctOp))]),(.reg [zmv 4 0,zmv 5 0,zca 6 108 [5,(zki 3)],zbi 7 .add (zki 1) 6,zca 8 223 [4,7],zop 3 (.new 69 (z0s ctOp)),zst 3 8 4]),(zsq [(.reg [zmv 9 0,zca 10 108 [9,(zki 14)]]),(.block 0 (zsq [(.reg [zbi 12 .eql 10 (zki 0),zmv 11 12]),(.cond 11 (.reg [zmv 13 0,zca 14 108 [13,(zki 8)],zbi 15 .sub 14 (zki 1),zfa 16 3 0,zst 16 15 1]) (zsq [(.reg [zbi 18 .eql 10 (zki 1),zmv 17 18]),(.cond 17 (.reg [zmv 19 0,zfa 20 3 1,zld 21 20 1,zbi 22 .add 21 (zki 1),zop 23 (.bsl 3 [TI] [(zki 0),(zki 7),22]),zca 24 145 [19,23],zfa 25 3 1,zst 25 24 1]) (zsq [(.reg [zbi 27 .eql 10 (zki 2),zmv 26 27]),(.cond 26 (.reg [zfa 28 3 3,zld 29 28 1,zop 30 (.bsl 3 [TI] [(zki 0)]),zop 31 (.app 29 30 3 [TI]),zfa 32 3 3,zst 32 31 1]) (zsq [(.reg [zbi 34 .eql 10 (zki 3),zmv 33 34]),(.cond 33 (zsq [(.reg [zfa 35 3 3,zld 36 35 1,zle 37 36,zbi 38 .gtr 37 (zki 0)]),(.cond 38 (.draw [zfa 39 3 3,zld 40 39 1,zmv 41 0,zca 42 182 [41],zia 43 40 (zki 0) [TI],zst 43 42 1] [(0,3),(1,3)]) .skip)]) .skip)]))]))]))]))]),(.reg [zLd 44 3 4,zst 2 44 4]),.ret])
def QLi:List (ARv × Md):=[(.l 2 4 true,.b (zds 4))]
theorem QMa (c:((List Int) × Int × Int)) (h :
 let z4:=Qe c (3:Int)
 let z1:=e_op (z4.2) (w64 ((1:Int)+(z4.1)))
 let z2:=Qe (z1.2) (14:Int)
 let z3:=List.take (((z1.1).2.2.2).length) (List.drop 0 ((z1.1).2.2.2))
 (((Zh c (3:Int))∧(p_op (z4.2) (w64 ((1:Int)+(z4.1)))))∧((Zh (z1.2) (14:Int))∧(zif ((z2.1)==(0:Int)) ((Zh (z2.2) (8:Int))∧K (Qal ((w64 (((Qe (z2.2) (8:Int)).1)-(1:Int)),(z1.1).2.1,(z1.1).2.2.1,z3),((Qe (z2.2) (8:Int)).2)))) (zif ((z2.1)==(1:Int)) ((YZ (z2.2) ([(0:Int),(7:Int),w64 (((z1.1).2.1)+(1:Int))]))∧K (Qal (((z1.1).1,(Zt (z2.2) ([(0:Int),(7:Int),w64 (((z1.1).2.1)+(1:Int))])).1,(z1.1).2.2.1,z3),((Zt (z2.2) ([(0:Int),(7:Int),w64 (((z1.1).2.1)+(1:Int))])).2)))) (zif ((z2.1)==(2:Int)) (((((z1.1).2.2.2).length=((z1.1).2.2.2).length∨((z1.1).2.2.2).length+1≤((z1.1).2.2.2).length)∧((z1.1).2.2.2).length+1≤big)∧K (Qal (((z1.1).1,(z1.1).2.1,(z1.1).2.2.1,(List.take (((z1.1).2.2.2).length+1) (List.drop 0 ((List.take (((z1.1).2.2.2).length) ((z1.1).2.2.2))++([(0:Int)]))))),(z2.2)))) (zif ((z2.1)==(3:Int)) (zif (decide (((((z1.1).2.2.2).length:Nat):Int)>(0:Int))) (((Qz (z2.2))∧(((0:Int)≤(0:Int)∧Int.toNat (0:Int)<((z1.1).2.2.2).length)∧((0+(Int.toNat (0:Int)))<((z1.1).2.2.2).length)))∧K (Qal (((z1.1).1,(z1.1).2.1,(z1.1).2.2.1,(List.take (((z1.1).2.2.2).length) (List.drop 0 (((z1.1).2.2.2).set (0+(Int.toNat (0:Int))) ((Qcc (z2.2)).1))))),((Qcc (z2.2)).2)))) (K (Qal (((z1.1).1,(z1.1).2.1,(z1.1).2.2.1,z3),(z2.2))))) (K (Qal (((z1.1).1,(z1.1).2.1,(z1.1).2.2.1,z3),(z2.2))))))))))):Hold (tawp QP1 (1+0) QEY (TQ 1 0 QLi K) (Qf [(.bx [(.c (.sl [(.int .u8)]) c.1),(.c TI c.2.1),(.c TI c.2.2)])])) :=
 Hold.of (by kernel_rfl) h
theorem QrT (c:((List Int) × Int × Int)) (hp:Qz c):∃ t:TOp' × (((List Int) × Int × Int)),(Qhz c t)∧TCon Tryz.prog 201 [(.bx [(.c (.sl [(.int .u8)]) c.1),(.c TI c.2.1),(.c TI c.2.2)])] (Qal t):=by
 refine YS (tcx (n:=45) (sg:=QlV.sg) Qk (TOk.cons J8 (TOk.cons QpO (TOk.cons Qdi (TOk.cons Qop TOk.nil)))) (by kernel_rfl) (by kernel_rfl) (QMa (fun r'=>∃ t,(Qhz c t)∧r'=Qal t) c ?_))
 conv=>zeta
 have b1:=Z8 c 3 hp
 generalize Qe c 3=r1 at b1 ⊢
 have h1:=b1.1
 have h2:=b1.2.1 (by omega)
 rw [Qp (x:=1+r1.1) (by omega) (by omega)]
 have ho:p_op r1.2 (1+r1.1):=⟨b1.2.2.2,by omega,by omega⟩
 have b2:=Qwj _ _ ho
 generalize e_op r1.2 (1+r1.1)=r2 at b2 ⊢
 have hl:=b2.2.2.2.2.1
 have hc2:=b2.2.2.2.2.2
 have b3:=(Z8 r2.2 14 hc2).2.2.2
 generalize Qe r2.2 14=r3 at b3 ⊢
 refine ⟨⟨hp,ho⟩,hc2,fun _=>⟨b3,Q9 ⟨?_,(Z8 _ _ b3).2.2.2⟩⟩,fun _=>⟨fun _=>⟨⟨b3,by simp,by simp⟩,Q9 ⟨?_,(Qdr _ _ ⟨b3,by simp,by simp⟩).2⟩⟩,fun _=>⟨fun _=>⟨⟨.inl rfl,by rw [Zw];omega⟩,Q9 ⟨?_,b3⟩⟩,fun _=>⟨fun _=>⟨fun hh=>⟨⟨b3,⟨by omega,by simpa using hh⟩,by simpa using hh⟩,Q9 ⟨?_,Qq1 _ b3⟩⟩,fun _=>(Q9 ⟨?_,b3⟩)⟩,fun _=>(Q9 ⟨?_,b3⟩)⟩⟩⟩⟩
 all_goals first
  | (simp;omega)
  | omega
  | skip
theorem QMI (c:((List Int) × Int × Int)) (hp:Qz c):Qhz c (QeA c):=(Classical.epsilon_spec (QrT c hp)).1
theorem QMl (c:((List Int) × Int × Int)) (hp:Qz c):TCon Tryz.prog 201 [(.bx [(.c (.sl [(.int .u8)]) c.1),(.c TI c.2.1),(.c TI c.2.2)])] (Qal (QeA c)):=(Classical.epsilon_spec (QrT c hp)).2
theorem QG1:Qj Tryz.prog QlV:=Ql fun x h=>QMl x.1 h
def Qbm (t:(List TOp') × (((List Int) × Int × Int))):TRes:=⟨(.a [(.r ctOp 0 0 ((t.1).length))]),[(.sl 69 ctOp true t.1)],[[(zcs [(.int .u8)] t.2.1),(zci t.2.2.1),(zci t.2.2.2)]],true,[]⟩
def Zb (x0:((List Int) × Int × Int)):(List TOp') × (((List Int) × Int × Int)):=Classical.epsilon fun t:(List TOp') × (((List Int) × Int × Int))=>(Qcg x0 t)∧TCon Tryz.prog 198 [(.bx [(.c (.sl [(.int .u8)]) x0.1),(.c TI x0.2.1),(.c TI x0.2.2)])] (Qbm t)
def Qgi:TRow:=Qi 198 [(.b [(.sl [(.int .u8)]),TI,TI])] fun x=>(some (Qz x.1),Qbm (Zb x.1))
def QlE:List TRow:=[Ju,QfV]
def Qr2:TCode :=
 (zsq [(zsq [(.reg [zmv 14 5,zbi 15 .gtr 14 (zki 0)]),(.cond 15 .skip (.exit 0))]),(.block 1 (zsq [(.reg [zmv 18 0,zmv 19 4,zca 20 223 [18,19],zop 6 (.new 69 (z0s ctOp)),zst 6 20 4]),(.reg [zfa 21 3 0,zld 22 21 1,zLd 23 6 4,zop 24 (.bsl 69 ctOp [23]),zop 25 (.app 22 24 69 ctOp),zfa 26 3 0,zst 26 25 1]),(.reg [zfa 27 6 2,zld 28 27 1,zmv 4 28])])),(.reg [zmv 16 5,zbi 17 .sub 16 (zki 1),zmv 5 17])])
def Qv2:List (Nat × Md):=[(0,.b [.d,.d,.d]),(2,.b [.d]),(3,.b [.o 69]),(4,.one .d),(5,.one .d)]
def QrQ:TCode :=
 (zsq [(.reg [zLd 29 3 1,zst 2 29 1]),.ret])
def QzE:TCode :=
 (zsq [(.reg [zop 2 (.new 26 [(.n ctOp)])]),(.reg [zop 7 (.build [(.n ctOp)] []),zop 3 (.new 26 [(.n ctOp)]),zst 3 7 1]),(.reg [zmv 8 0,zca 9 108 [8,(zki 3)],zbi 10 .add (zki 1) 9,zmv 4 10]),(zsq [(.reg [zmv 11 0,zca 12 108 [11,(zki 6)],zbi 13 .add (zki 1) 12,zmv 5 13]),(.block 0 (.loop Qv2 Qr2))]),QrQ])
def QsY:List (ARv × Md):=[(.l 2 1 true,.b [.o 69])]
def QwO:Qb:=TQ 1 0 QsY K
def QKG:Qb:=Qseq (tawp QlE 1 QrQ (QwO K)) (QwO K)
def QKr:Qb:=Qblk 0 (QKG K)
def Qge (inn:Int) (n:Int) (c0:List Int) (c1:Int) (c2:Int) (m0:List TOp'):Prop:=Loop QlE 1 Qv2 Qr2 (QKr K) ⟨[(0,(.p 0 0 0)),(2,(.p 1 0 0)),(3,(.p 3 0 0)),(4,(zci inn)),(5,(zci n))],[(0,(.box [(zcs [(.int .u8)] c0),(zci c1),(zci c2)])),(1,(.box [(zcs ctOp ([]))])),(2,(.sl 69 ctOp true m0)),(3,(.box [(.r ctOp 2 0 m0.length)]))],4⟩
theorem QoT (inn:Int) (n:Int) (c0:List Int) (c1:Int) (c2:Int) (m0:List TOp') (h :
 (zif (decide (n>(0:Int))) ((p_op (c0,c1,c2) inn)∧(((m0.length=m0.length∨m0.length+1≤m0.length)∧m0.length+1≤big)∧(Qge K (((e_op (c0,c1,c2) inn).1).2.2.1) (w64 (n-(1:Int))) (((e_op (c0,c1,c2) inn).2).1) (((e_op (c0,c1,c2) inn).2).2.1) (((e_op (c0,c1,c2) inn).2).2.2) (List.take (m0.length+1) ((List.take m0.length m0)++([(((e_op (c0,c1,c2) inn).1).1,((e_op (c0,c1,c2) inn).1).2.1,((e_op (c0,c1,c2) inn).1).2.2.1,(List.take ((((e_op (c0,c1,c2) inn).1).2.2.2).length) (List.drop 0 (((e_op (c0,c1,c2) inn).1).2.2.2))))])))))) (K (Qbm ((List.take m0.length m0),(c0,c1,c2)))))):Qge K inn n c0 c1 c2 m0 :=
 Loop.of (by kernel_rfl) h
theorem QIc (c:((List Int) × Int × Int)) (h :
 ((Zh c (3:Int))∧((Zh ((Qe c (3:Int)).2) (6:Int))∧(Qge K (w64 ((1:Int)+((Qe c (3:Int)).1))) (w64 ((1:Int)+((Qe ((Qe c (3:Int)).2) (6:Int)).1))) (((Qe ((Qe c (3:Int)).2) (6:Int)).2).1) (((Qe ((Qe c (3:Int)).2) (6:Int)).2).2.1) (((Qe ((Qe c (3:Int)).2) (6:Int)).2).2.2) ([]:List TOp'))))):Hold (tawp QlE (1+0) QzE (TQ 1 0 QsY K) (Qf [(.bx [(.c (.sl [(.int .u8)]) c.1),(.c TI c.2.1),(.c TI c.2.2)])])) :=
 Hold.of (by kernel_rfl) h
theorem Qtz (c:((List Int) × Int × Int)) (hp:Qz c):∃ t:(List TOp') × (((List Int) × Int × Int)),(Qcg c t)∧TCon Tryz.prog 198 [(.bx [(.c (.sl [(.int .u8)]) c.1),(.c TI c.2.1),(.c TI c.2.2)])] (Qbm t):=by
 refine YS (tcx (n:=30) (sg:=Qgi.sg) Qk (TOk.cons J8 (TOk.cons QpO TOk.nil)) (by kernel_rfl) (by kernel_rfl) (QIc (fun r'=>∃ t,(Qcg c t)∧r'=Qbm t) c ?_))
 have b1:=Z8 c 3 hp
 generalize Qe c 3=r1 at b1 ⊢
 have b2:=Z8 r1.2 6 b1.2.2.2
 generalize Qe r1.2 6=r2 at b2 ⊢
 have h1:=b1.1
 have h2:=b1.2.1 (by omega)
 have h3:=b2.1
 have h4:=b2.2.1 (by omega)
 rw [Qp (x:=1+r1.1) (by omega) (by omega),Qp (x:=1+r2.1) (by omega) (by omega)]
 refine ⟨hp,b1.2.2.2,?_⟩
 have key:∀ (k:Nat) (inn c1 c2:Int) (c0:List Int) (m0:Q3),Qz (c0,c1,c2)→1≤inn→inn≤3→m0.length+k≤6→1≤m0.length+k→Ym none m0=true→QiC none m0 inn=true→Qge (fun r'=>∃ t,(Qcg c t)∧r'=Qbm t) inn (k:Int) c0 c1 c2 m0:=by
  intro k
  induction k with
  | zero =>
   intro inn c1 c2 c0 m0 hc k1 k2 k3 k4 k5 k6
   refine QoT (fun r'=>∃ t,(Qcg c t)∧r'=Qbm t) _ _ _ _ _ _ ⟨fun h=>by simp at h,fun _=>(Q9 ⟨?_,?_,hc⟩)⟩
   ·simp only [List.take_length,QE,Bool.and_eq_true,QL]
    exact ⟨by omega,k5⟩
   ·simp only [List.take_length];omega
  | succ k ih =>
   intro inn c1 c2 c0 m0 hc k1 k2 k3 k4 k5 k6
   have ho:p_op (c0,c1,c2) inn:=⟨hc,k1,k2⟩
   have b:=Qwj _ _ ho
   refine QoT (fun r'=>∃ t,(Qcg c t)∧r'=Qbm t) _ _ _ _ _ _ ⟨fun _=>⟨ho,⟨.inl rfl,by rw [Zw];omega⟩,?_⟩,fun h=>by simp at h <;> omega⟩
   rw [Zx,Qp (x:=((k+1:Nat):Int)-1) (by omega) (by omega),show ((k+1:Nat):Int)-1=k by omega]
   refine ih _ _ _ _ _ b.2.2.2.2.2 b.2.2.1 b.2.2.2.1 (by simp;omega) (by simp;omega) (Qn5 _ _ _ k5 ?_ ?_) ?_
   ·simp only [List.drop_zero,List.take_length];exact b.1
   ·rw [show (((e_op (c0,c1,c2) inn).1.1,(e_op (c0,c1,c2) inn).1.2.1,(e_op (c0,c1,c2) inn).1.2.2.1,List.take (e_op (c0,c1,c2) inn).1.2.2.2.length (List.drop 0 (e_op (c0,c1,c2) inn).1.2.2.2)):TOp').2.1=inn from b.2.1]
    exact k6
   ·exact QxB _ _ _
 have h:=key (1+r2.1).toNat (1+r1.1) r2.2.2.1 r2.2.2.2 r2.2.1 [] b2.2.2.2 (by omega) (by omega) (by simp;omega) (by simp;omega) rfl rfl
 rw [Int.toNat_of_nonneg (by omega)] at h
 exact h
theorem QvZ (c:((List Int) × Int × Int)) (hp:Qz c):Qcg c (Zb c):=(Classical.epsilon_spec (Qtz c hp)).1
theorem QMA (c:((List Int) × Int × Int)) (hp:Qz c):TCon Tryz.prog 198 [(.bx [(.c (.sl [(.int .u8)]) c.1),(.c TI c.2.1),(.c TI c.2.2)])] (Qbm (Zb c)):=(Classical.epsilon_spec (Qtz c hp)).2
theorem Qqs:Qj Tryz.prog Qgi:=Ql fun x h=>QMA x.1 h
def J0 (t:(List TOp') × (((List Int) × Int × Int))):TRes:=⟨(.a [(zcs ctOp t.1)]),[],[[(zcs [(.int .u8)] t.2.1),(zci t.2.2.1),(zci t.2.2.2)]],true,[]⟩
def QgG (x0:((List Int) × Int × Int)):(List TOp') × (((List Int) × Int × Int)):=Classical.epsilon fun t:(List TOp') × (((List Int) × Int × Int))=>(QdJ x0 t)∧TCon Tryz.prog 144 [(.bx [(.c (.sl [(.int .u8)]) x0.1),(.c TI x0.2.1),(.c TI x0.2.2)])] (J0 t)
def QnL:TRow:=Qi 144 [(.b [(.sl [(.int .u8)]),TI,TI])] fun x=>(some (Qz x.1),J0 (QgG x.1))
def Qm8:List TRow:=[Qgi,Ju,QlV]
def Qy1:TCode :=
 (zsq [(zsq [(.draw [zfa 31 3 0,zld 32 31 1,zle 33 32,zmv 34 0,zca 35 108 [34,(zki 2)],zbi 36 .add (zki 8) 35,zbi 37 .lss 33 36] [(0,4),(1,4),(2,4)]),(.cond 37 .skip (.exit 1))]),(.block 2 (.draw [zfa 38 3 0,zld 39 38 1,zfa 40 3 0,zld 41 40 1,zfa 42 3 0,zld 43 42 1,zle 44 43,zbi 45 .sub 44 (zki 1),zia 46 41 45 ctOp,zfa 47 46 2,zld 48 47 1,zfa 49 3 0,zld 50 49 1,zfa 51 3 0,zld 52 51 1,zle 53 52,zbi 54 .sub 53 (zki 1),zia 55 50 54 ctOp,zfa 56 55 2,zld 57 56 1,zop 58 (.build (z0s ctOp) [(0,1,(zki 3)),(1,1,48),(2,1,57)]),zop 59 (.bsl 69 ctOp [58]),zop 60 (.app 39 59 69 ctOp),zfa 61 3 0,zst 61 60 1] [(0,21),(1,21)]))])
def Qp4:List (Nat × Md):=[(0,.b [.d,.d,.d]),(2,.b [.d]),(3,.b [.f])]
def Qoh:TCode :=
 (zsq [(.reg [zLd 62 3 1,zst 2 62 1]),.ret])
def QPp:TCode :=
 (zsq [(.reg [zop 2 (.new 26 [(.n ctOp)])]),(.reg [zmv 5 0,zca 6 198 [5],zop 3 (.new 26 [(.n ctOp)]),zst 3 6 1]),(.reg [zmv 7 0,zfa 8 3 0,zld 9 8 1,zle 10 9,zca 11 108 [7,10],zmv 4 11]),(zsq [(.reg [zmv 12 0,zca 13 108 [12,(zki 16)]]),(.block 0 (zsq [(.reg [zbi 15 .eql 13 (zki 0),zmv 14 15]),(.cond 14 (.draw [zfa 16 3 0,zld 17 16 1,zmv 18 4,zmv 19 0,zca 20 201 [19],zia 21 17 18 ctOp,zst 21 20 4] [(0,4),(1,4)]) (zsq [(.reg [zbi 23 .eql 13 (zki 1),zmv 22 23]),(.cond 22 (.reg [zfa 24 3 0,zld 25 24 1,zmv 26 4,zop 27 (.slc 25 none (some 26) ctOp),zfa 28 3 0,zst 28 27 1]) (zsq [(.reg [zbi 30 .eql 13 (zki 2),zmv 29 30]),(.cond 29 (.block 1 (.loop Qp4 Qy1)) .skip)]))]))]))]),Qoh])
def QsF:List (ARv × Md):=[(.l 2 1 true,.b [.d])]
def Quy:Qb:=TQ 1 0 QsF K
def QzY:Qb:=Qseq (tawp Qm8 1 Qoh (Quy K)) (Quy K)
def QDI:Qb:=Qblk 0 (QzY K)
def QFy:Qb:=Qblk 1 (QDI K)
def Qf1 (c0:List Int) (c1:Int) (c2:Int) (m0:List TOp'):Prop:=Loop Qm8 1 Qp4 Qy1 (QFy K) ⟨[(0,(.p 0 0 0)),(2,(.p 1 0 0)),(3,(.p 3 0 0))],[(0,(.box [(zcs [(.int .u8)] c0),(zci c1),(zci c2)])),(1,(.box [(zcs ctOp ([]))])),(2,(.sl 69 ctOp true m0)),(3,(.box [(.r ctOp 2 0 m0.length)]))],4⟩
theorem QtN (c0:List Int) (c1:Int) (c2:Int) (m0:List TOp') (h :
 ((Zh (c0,c1,c2) (2:Int))∧(zif (decide (((m0.length:Nat):Int)<(w64 ((8:Int)+((Qe (c0,c1,c2) (2:Int)).1))))) ((((0:Int)≤w64 (((m0.length:Nat):Int)-(1:Int))∧Int.toNat (w64 (((m0.length:Nat):Int)-(1:Int)))<m0.length)∧(((0+(Int.toNat (w64 (((m0.length:Nat):Int)-(1:Int)))))<m0.length)∧(((0:Int)≤w64 (((m0.length:Nat):Int)-(1:Int))∧Int.toNat (w64 (((m0.length:Nat):Int)-(1:Int)))<m0.length)∧(((0+(Int.toNat (w64 (((m0.length:Nat):Int)-(1:Int)))))<m0.length)∧((m0.length=m0.length∨m0.length+1≤m0.length)∧m0.length+1≤big)))))∧(Qf1 K (((Qe (c0,c1,c2) (2:Int)).2).1) (((Qe (c0,c1,c2) (2:Int)).2).2.1) (((Qe (c0,c1,c2) (2:Int)).2).2.2) (List.take (m0.length+1) ((List.take m0.length m0)++([((3:Int),(gtd dOp m0 (0+(Int.toNat (w64 (((m0.length:Nat):Int)-(1:Int)))))).2.2.1,(gtd dOp m0 (0+(Int.toNat (w64 (((m0.length:Nat):Int)-(1:Int)))))).2.2.1,[])]))))) (K (J0 ((List.take m0.length (List.drop 0 m0)),((Qe (c0,c1,c2) (2:Int)).2))))))):Qf1 K c0 c1 c2 m0 :=
 Loop.of (by kernel_rfl) h
theorem QFr (c:((List Int) × Int × Int)) (h :
 let z1:=Qe ((Zb c).2) ((((Zb c).1).length:Nat):Int)
 let z2:=Qe (z1.2) (16:Int)
 ((Qz c)∧((Zh ((Zb c).2) ((((Zb c).1).length:Nat):Int))∧((Zh (z1.2) (16:Int))∧(zif ((z2.1)==(0:Int)) (((Qz (z2.2))∧(((0:Int)≤z1.1∧Int.toNat (z1.1)<((Zb c).1).length)∧((0+(Int.toNat (z1.1)))<((Zb c).1).length)))∧K (J0 ((List.take (((Zb c).1).length) (List.drop 0 (((Zb c).1).set (0+(Int.toNat (z1.1))) ((QeA (z2.2)).1)))),((QeA (z2.2)).2)))) (zif ((z2.1)==(1:Int)) (((0:Int)≤(0:Int)∧(0:Int)≤z1.1∧z1.1≤((((Zb c).1).length:Nat):Int))∧K (J0 ((List.take (Int.toNat (z1.1)-Int.toNat (0:Int)) (List.drop 0 ((Zb c).1))),(z2.2)))) (zif ((z2.1)==(2:Int)) (Qf1 K ((z2.2).1) ((z2.2).2.1) ((z2.2).2.2) (List.take (((Zb c).1).length) ((Zb c).1))) (K (J0 ((List.take (((Zb c).1).length) (List.drop 0 ((Zb c).1))),(z2.2))))))))))):Hold (tawp Qm8 (1+0) QPp (TQ 1 0 QsF K) (Qf [(.bx [(.c (.sl [(.int .u8)]) c.1),(.c TI c.2.1),(.c TI c.2.2)])])) :=
 Hold.of (by kernel_rfl) h
theorem QE2 (c:((List Int) × Int × Int)) (hp:Qz c):∃ t:(List TOp') × (((List Int) × Int × Int)),(QdJ c t)∧TCon Tryz.prog 144 [(.bx [(.c (.sl [(.int .u8)]) c.1),(.c TI c.2.1),(.c TI c.2.2)])] (J0 t):=by
 refine YS (tcx (n:=63) (sg:=QnL.sg) Qk (TOk.cons Qqs (TOk.cons J8 (TOk.cons QG1 TOk.nil))) (by kernel_rfl) (by kernel_rfl) (QFr (fun r'=>∃ t,(QdJ c t)∧r'=J0 t) c ?_))
 conv=>zeta
 have b1:=QvZ c hp
 generalize Zb c=r1 at b1 ⊢
 obtain ⟨k1,k2,k3⟩:=b1
 have k4:1≤r1.1.length:=by
  simp only [QE,Bool.and_eq_true,QL] at k1
  omega
 have b2:=Z8 r1.2 r1.1.length k3
 generalize Qe r1.2 r1.1.length=r2 at b2 ⊢
 have h1:=b2.1
 have h2:=b2.2.1 (by omega)
 have b3:=(Z8 r2.2 16 b2.2.2.2).2.2.2
 generalize Qe r2.2 16=r3 at b3 ⊢
 refine ⟨hp,k3,b2.2.2.2,fun _=>⟨⟨b3,⟨h1,by omega⟩,by omega⟩,Q9 ⟨?_,(QMI _ b3).2⟩⟩,fun _=>⟨fun _=>⟨⟨by omega,by omega,by omega⟩,Q9 ⟨?_,b3⟩⟩,fun _=>⟨fun _=>?_,fun _=>(Q9 ⟨?_,b3⟩)⟩⟩⟩
 ·simp;omega
 ·simp;omega
 ·rw [List.take_length]
  have key:∀ (k:Nat) (c1 c2:Int) (c0:List Int) (m0:Q3),Qz (c0,c1,c2)→1≤m0.length→m0.length+k=9→Qf1 (fun r'=>∃ t,(QdJ c t)∧r'=J0 t) c0 c1 c2 m0:=by
   intro k
   induction k with
   | zero =>
    intro c1 c2 c0 m0 hc q1 q2
    have b:=Z8 (c0,c1,c2) 2 hc
    have q3:=b.1
    have q4:=b.2.1 (by omega)
    refine QtN (fun r'=>∃ t,(QdJ c t)∧r'=J0 t) _ _ _ _ ⟨hc,fun h=>?_,fun _=>(Q9 ⟨?_,b.2.2.2⟩)⟩
    ·rw [Qp (x:=8+_) (by omega) (by omega)] at h
     simp at h;omega
    ·simp;omega
   | succ k ih =>
    intro c1 c2 c0 m0 hc q1 q2
    have b:=Z8 (c0,c1,c2) 2 hc
    refine QtN (fun r'=>∃ t,(QdJ c t)∧r'=J0 t) _ _ _ _ ⟨hc,fun _=>?_,fun _=>(Q9 ⟨?_,b.2.2.2⟩)⟩
    ·rw [Qp (x:=(m0.length:Int)-1) (by omega) (by omega)]
     refine ⟨⟨⟨by omega,by omega⟩,by omega,⟨by omega,by omega⟩,by omega,.inl rfl,by rw [Zw];omega⟩,?_⟩
     rw [Zx]
     exact ih _ _ _ _ b.2.2.2 (by simp) (by simp;omega)
    ·simp;omega
  exact key (9-r1.1.length) _ _ _ _ b3 k4 (by omega)
 ·simp;omega
theorem QKS (c:((List Int) × Int × Int)) (hp:Qz c):TCon Tryz.prog 144 [(.bx [(.c (.sl [(.int .u8)]) c.1),(.c TI c.2.1),(.c TI c.2.2)])] (J0 (QgG c)):=(Classical.epsilon_spec (QE2 c hp)).2
theorem QOw:Qj Tryz.prog QnL:=Ql fun x h=>QKS x.1 h
end
end Go.Proofs.YtjbdljkhbglnhaaGreat.Am

