/- -/
import Derived.Test.YtephkbajoofeoaaYBD1
import Derived.Test.YtephkbajoofeoaaYBP1
namespace Go.Proofs.Ytephkbajoofeoaa.Am
open Go Go.RowKit Go.Proofs.Ytephkbajoofeoaa
set_option linter.all false
set_option maxHeartbeats 2000000
noncomputable section
variable (K:TRes→Prop)
def ZI (t:Int × (((List Int) × Int × Int))):TRes:=⟨(zci t.1),[],[[(zcs [(.int .u8)] t.2.1),(zci t.2.2.1),(zci t.2.2.2)]],true,[]⟩
def ZN (x0:((List Int) × Int × Int)):Int × (((List Int) × Int × Int)):=Classical.epsilon fun t:Int × (((List Int) × Int × Int))=>(Jv x0 t)∧TCon Try.prog 204 [(.bx [(.c (.sl [(.int .u8)]) x0.1),(.c TI x0.2.1),(.c TI x0.2.2)])] (ZI t)
def Qaf:TRow:=Qr 204 [(.b [(.sl [(.int .u8)]),TI,TI])] fun x=>(some (Qj x.1),ZI (ZN x.1))
def QhH:List TRow:=[ZV,YC]
def Qht:TCode :=
 (zsq [(.reg [zmv 2 (zki 0)]),(zsq [(.reg [zmv 3 0,zca 4 116 [3,(zki 12)]]),(.block 0 (zsq [(.reg [zbi 6 .eql 4 (zki 0),zmv 5 6]),(.cond 5 (zsq [(.reg [zmv 7 0,zop 8 (.bsl 3 [TI] [(zki 2147483647),(zki (-2147483647)),(zki 2147483646),(zki 1),(zki (-1)),(zki 0)]),zca 9 182 [7,8],zmv 2 9]),.ret]) (zsq [(.reg [zbi 11 .eql 4 (zki 1),zmv 10 11]),(.cond 10 (zsq [(.reg [zmv 12 0,zca 13 116 [12,(zki 4000)],zbi 14 .sub 13 (zki 2000),zbi 15 .mul 14 (zki 997),zmv 2 15]),.ret]) (zsq [(.reg [zbi 17 .eql 4 (zki 2),zmv 16 17]),(.cond 16 (zsq [(.reg [zmv 18 0,zca 19 116 [18,(zki 9)],zbi 20 .sub 19 (zki 4),zmv 2 20]),.ret]) .skip)]))]))]))]),(.reg [zmv 21 0,zca 22 116 [21,(zki 17)],zbi 23 .sub 22 (zki 8),zbi 24 .mul 23 (zki 65536),zmv 25 0,zop 26 (.bsl 3 [TI] [(zki 1),(zki 1),(zki 2),(zki 4),(zki 3)]),zca 27 182 [25,26],zbi 28 .quo 24 27,zmv 2 28]),.ret])
def QjV:List (ARv × Md):=[(.t 2,.one .d)]
theorem QgB (c:((List Int) × Int × Int)) (h :
 ((QF c (12:Int))∧(zif (((Qe c (12:Int)).1)==(0:Int)) ((QY ((Qe c (12:Int)).2) ([(2147483647:Int),(-2147483647:Int),(2147483646:Int),(1:Int),(-1:Int),(0:Int)]))∧K (ZI ((QG ((Qe c (12:Int)).2) ([(2147483647:Int),(-2147483647:Int),(2147483646:Int),(1:Int),(-1:Int),(0:Int)])).1,((QG ((Qe c (12:Int)).2) ([(2147483647:Int),(-2147483647:Int),(2147483646:Int),(1:Int),(-1:Int),(0:Int)])).2)))) (zif (((Qe c (12:Int)).1)==(1:Int)) ((QF ((Qe c (12:Int)).2) (4000:Int))∧K (ZI (w64 ((w64 (((Qe ((Qe c (12:Int)).2) (4000:Int)).1)-(2000:Int)))*(997:Int)),((Qe ((Qe c (12:Int)).2) (4000:Int)).2)))) (zif (((Qe c (12:Int)).1)==(2:Int)) ((QF ((Qe c (12:Int)).2) (9:Int))∧K (ZI (w64 (((Qe ((Qe c (12:Int)).2) (9:Int)).1)-(4:Int)),((Qe ((Qe c (12:Int)).2) (9:Int)).2)))) (((QF ((Qe c (12:Int)).2) (17:Int))∧((QY ((Qe ((Qe c (12:Int)).2) (17:Int)).2) ([(1:Int),(1:Int),(2:Int),(4:Int),(3:Int)]))∧(¬ ((QG ((Qe ((Qe c (12:Int)).2) (17:Int)).2) ([(1:Int),(1:Int),(2:Int),(4:Int),(3:Int)])).1:Int)=0)))∧K (ZI (w64 (Int.tdiv (w64 ((w64 (((Qe ((Qe c (12:Int)).2) (17:Int)).1)-(8:Int)))*(65536:Int))) ((QG ((Qe ((Qe c (12:Int)).2) (17:Int)).2) ([(1:Int),(1:Int),(2:Int),(4:Int),(3:Int)])).1)),((QG ((Qe ((Qe c (12:Int)).2) (17:Int)).2) ([(1:Int),(1:Int),(2:Int),(4:Int),(3:Int)])).2))))))))):Hold (tawp QhH (1+0) Qht (TQ 1 0 QjV K) (Ql [(.bx [(.c (.sl [(.int .u8)]) c.1),(.c TI c.2.1),(.c TI c.2.2)])])) :=
 Hold.of (by kernel_rfl) h
theorem Qda (c:((List Int) × Int × Int)) (hp:Qj c):∃ t:Int × (((List Int) × Int × Int)),(Jv c t)∧TCon Try.prog 204 [(.bx [(.c (.sl [(.int .u8)]) c.1),(.c TI c.2.1),(.c TI c.2.2)])] (ZI t):=by
 refine Zj (tcx (n:=29) (sg:=Qaf.sg) Qv (TOk.cons YM (TOk.cons Qad TOk.nil)) (by kernel_rfl) (by kernel_rfl) (QgB (fun r'=>∃ t,(Jv c t)∧r'=ZI t) c ?_))
 have b1:=QW c 12 hp
 generalize Qe c 12=r at b1 ⊢
 have hc:Qj r.2:=b1.2.2.2
 refine ⟨hp,fun _=>?_,fun _=>⟨fun _=>?_,fun _=>⟨fun _=>?_,fun _=>?_⟩⟩⟩
 ·have hpp:QY r.2 [2147483647,-2147483647,2147483646,1,-1,0]:=⟨hc,by simp,by simp⟩
  have b2:=YY _ _ hpp
  refine ⟨hpp,QK ⟨?_,b2.2⟩⟩
  have b3:=b2.1
  simp only [List.mem_cons,List.not_mem_nil,or_false] at b3
  simp only [QR,Bool.and_eq_true,decide_eq_true_eq]
  omega
 ·have b2:=QW r.2 4000 hc
  refine ⟨hc,QK ⟨?_,b2.2.2.2⟩⟩
  have h1:=b2.1
  have h2:=b2.2.1 (by omega)
  rw [QE (x:=_-2000) (by omega) (by omega),QE (by omega) (by omega)]
  simp only [QR,Bool.and_eq_true,decide_eq_true_eq]
  omega
 ·have b2:=QW r.2 9 hc
  refine ⟨hc,QK ⟨?_,b2.2.2.2⟩⟩
  have h1:=b2.1
  have h2:=b2.2.1 (by omega)
  rw [QE (by omega) (by omega)]
  simp only [QR,Bool.and_eq_true,decide_eq_true_eq]
  omega
 ·have b2:=QW r.2 17 hc
  have hpp:QY (Qe r.2 17).2 [1,1,2,4,3]:=⟨b2.2.2.2,by simp,by simp⟩
  have b3:=YY _ _ hpp
  have b4:=b3.1
  simp only [List.mem_cons,List.not_mem_nil,or_false] at b4
  have h1:=b2.1
  have h2:=b2.2.1 (by omega)
  refine ⟨⟨hc,hpp,by omega⟩,QK ⟨?_,b3.2⟩⟩
  have h3:=Qj7 (a:=((Qe r.2 17).1-8)*65536) (b:=(QG (Qe r.2 17).2 [1,1,2,4,3]).1) (B:=1000000) (by omega) (by omega) (by omega)
  rw [QE (x:=_-8) (by omega) (by omega),QE (x:=_*65536) (by omega) (by omega),QE (by omega) (by omega)]
  simp only [QR,Bool.and_eq_true,decide_eq_true_eq]
  omega
theorem QdA (c:((List Int) × Int × Int)) (hp:Qj c):Jv c (ZN c):=(Classical.epsilon_spec (Qda c hp)).1
theorem Qkj (c:((List Int) × Int × Int)) (hp:Qj c):TCon Try.prog 204 [(.bx [(.c (.sl [(.int .u8)]) c.1),(.c TI c.2.1),(.c TI c.2.2)])] (ZI (ZN c)):=(Classical.epsilon_spec (Qda c hp)).2
theorem Qea:Qq Try.prog Qaf:=Qy fun x h=>Qkj x.1 h
def Yn (t:Int × (((List Int) × Int × Int))):TRes:=⟨(zci t.1),[],[[(zcs [(.int .u8)] t.2.1),(zci t.2.2.1),(zci t.2.2.2)]],true,[]⟩
def Jk (x0:((List Int) × Int × Int)):Int × (((List Int) × Int × Int)):=Classical.epsilon fun t:Int × (((List Int) × Int × Int))=>(JR x0 t)∧TCon Try.prog 184 [(.bx [(.c (.sl [(.int .u8)]) x0.1),(.c TI x0.2.1),(.c TI x0.2.2)])] (Yn t)
def Qbx:TRow:=Qr 184 [(.b [(.sl [(.int .u8)]),TI,TI])] fun x=>(some (Qj x.1),Yn (Jk x.1))
def Qgo:List TRow:=[Qbn,YC,Qaf]
def QfU:TCode :=
 (zsq [(.reg [zmv 2 (zki 0)]),(zsq [(.reg [zmv 3 0,zca 4 136 [3,(zki 8)]]),(.cond 4 (zsq [(.reg [zmv 5 0,zop 6 (.bsl 3 [TI] [(zki 2147483648),(zki (-2147483648)),(zki 9223372036854775807),(zki (-9223372036854775807))]),zca 7 182 [5,6],zmv 2 7]),.ret]) .skip)]),(.reg [zmv 8 0,zca 9 204 [8],zmv 2 9]),.ret])
def QkG:List (ARv × Md):=[(.t 2,.one .d)]
theorem Qh9 (c:((List Int) × Int × Int)) (h :
 ((QF c (8:Int))∧(zif ((Zn c (8:Int)).1) ((QY ((Zn c (8:Int)).2) ([(2147483648:Int),(-2147483648:Int),(9223372036854775807:Int),(-9223372036854775807:Int)]))∧K (Yn ((QG ((Zn c (8:Int)).2) ([(2147483648:Int),(-2147483648:Int),(9223372036854775807:Int),(-9223372036854775807:Int)])).1,((QG ((Zn c (8:Int)).2) ([(2147483648:Int),(-2147483648:Int),(9223372036854775807:Int),(-9223372036854775807:Int)])).2)))) ((Qj ((Zn c (8:Int)).2))∧K (Yn ((ZN ((Zn c (8:Int)).2)).1,((ZN ((Zn c (8:Int)).2)).2))))))):Hold (tawp Qgo (1+0) QfU (TQ 1 0 QkG K) (Ql [(.bx [(.c (.sl [(.int .u8)]) c.1),(.c TI c.2.1),(.c TI c.2.2)])])) :=
 Hold.of (by kernel_rfl) h
theorem Qde (c:((List Int) × Int × Int)) (hp:Qj c):∃ t:Int × (((List Int) × Int × Int)),(JR c t)∧TCon Try.prog 184 [(.bx [(.c (.sl [(.int .u8)]) c.1),(.c TI c.2.1),(.c TI c.2.2)])] (Yn t):=by
 refine Zj (tcx (n:=10) (sg:=Qbx.sg) Qv (TOk.cons Qi1 (TOk.cons Qad (TOk.cons Qea TOk.nil))) (by kernel_rfl) (by kernel_rfl) (Qh9 (fun r'=>∃ t,(JR c t)∧r'=Yn t) c ?_))
 have b1:=QkQ c 8 hp
 generalize Zn c 8=r at b1 ⊢
 have hpp:QY r.2 [2147483648,-2147483648,9223372036854775807,-9223372036854775807]:=⟨b1,by simp,by simp⟩
 exact ⟨hp,fun _=>⟨hpp,QK ((YY _ _ hpp).2)⟩,fun _=>⟨b1,QK ((QdA _ b1).2)⟩⟩
theorem Qg7 (c:((List Int) × Int × Int)) (hp:Qj c):JR c (Jk c):=(Classical.epsilon_spec (Qde c hp)).1
theorem Qjw (c:((List Int) × Int × Int)) (hp:Qj c):TCon Try.prog 184 [(.bx [(.c (.sl [(.int .u8)]) c.1),(.c TI c.2.1),(.c TI c.2.2)])] (Yn (Jk c)):=(Classical.epsilon_spec (Qde c hp)).2
theorem QgS:Qq Try.prog Qbx:=Qy fun x h=>Qjw x.1 h
def ZB (t:(List Int) × (((List Int) × Int × Int))):TRes:=⟨(.r [TI] 0 0 ((t.1).length)),[(.sl 3 [TI] true t.1)],[[(zcs [(.int .u8)] t.2.1),(zci t.2.2.1),(zci t.2.2.2)]],true,[]⟩
def Zk (x0:((List Int) × Int × Int)) (x1:Int):(List Int) × (((List Int) × Int × Int)):=Classical.epsilon fun t:(List Int) × (((List Int) × Int × Int))=>(Yh x0 x1 t)∧TCon Try.prog 181 [(.bx [(.c (.sl [(.int .u8)]) x0.1),(.c TI x0.2.1),(.c TI x0.2.2)]),(.c TI x1)] (ZB t)
def Jz:TRow:=Qr 181 [(.b [(.sl [(.int .u8)]),TI,TI]),(.c TI)] fun x=>(some (Zv x.1 x.2.1),ZB (Zk x.1 x.2.1))
def Qbb:List TRow:=[Qaf]
def QeI:TCode :=
 (zsq [(zsq [(.reg [zmv 8 6,zmv 9 1,zbi 10 .lss 8 9]),(.cond 10 .skip (.exit 0))]),(.block 1 (.reg [zmv 13 5,zmv 14 0,zca 15 204 [14],zop 16 (.bsl 3 [TI] [15]),zop 17 (.app 13 16 3 [TI]),zmv 5 17])),(.reg [zmv 11 6,zbi 12 .add 11 (zki 1),zmv 6 12])])
def Qd4:List (Nat × Md):=[(0,.b [.d,.d,.d]),(1,.one .d),(5,.one .f),(6,.one .d)]
def QcN:TCode :=
 (zsq [(.reg [zmv 18 5,zmv 4 18]),.ret])
def Qj3:TCode :=
 (zsq [(.reg [zmv 4 (.k (.n [TI]))]),(.reg [zop 7 (.bsl 3 [TI] []),zmv 5 7]),(zsq [(.reg [zmv 6 (zki 0)]),(.block 0 (.loop Qd4 QeI))]),QcN])
def QcK:List (ARv × Md):=[(.t 4,.one (.o 3))]
def QcI:Qi:=TQ 1 0 QcK K
def QgE:Qi:=Qseq (tawp Qbb 1 QcN (QcI K)) (QcI K)
def QkE:Qi:=Qblk 0 (QgE K)
def Qak (n:Int) (i:Int) (c0:List Int) (c1:Int) (c2:Int) (out:List Int):Prop:=Loop Qbb 1 Qd4 QeI (QkE K) ⟨[(0,(.p 0 0 0)),(1,(zci n)),(5,(.r [TI] 1 0 out.length)),(6,(zci i))],[(0,(.box [(zcs [(.int .u8)] c0),(zci c1),(zci c2)])),(1,(.sl 3 [TI] true out))],2⟩
theorem QdF (n:Int) (i:Int) (c0:List Int) (c1:Int) (c2:Int) (out:List Int) (h :
 (zif (decide (i<n)) (((Qj (c0,c1,c2))∧((out.length=out.length∨out.length+1≤out.length)∧out.length+1≤big))∧(Qak K n (w64 (i+(1:Int))) (((ZN (c0,c1,c2)).2).1) (((ZN (c0,c1,c2)).2).2.1) (((ZN (c0,c1,c2)).2).2.2) (List.take (out.length+1) ((List.take out.length out)++([(ZN (c0,c1,c2)).1]))))) (K (ZB ((List.take out.length out),(c0,c1,c2)))))):Qak K n i c0 c1 c2 out :=
 Loop.of (by kernel_rfl) h
theorem QjC (c:((List Int) × Int × Int)) (n:Int) (h :
 (Qak K n 0 c.1 c.2.1 c.2.2 ([]:List Int))):Hold (tawp Qbb (1+0) Qj3 (TQ 1 0 QcK K) (Ql [(.bx [(.c (.sl [(.int .u8)]) c.1),(.c TI c.2.1),(.c TI c.2.2)]),(.c TI n)])) :=
 Hold.of (by kernel_rfl) h
theorem Qdg (c:((List Int) × Int × Int)) (n:Int) (hp:Zv c n):∃ t:(List Int) × (((List Int) × Int × Int)),(Yh c n t)∧TCon Try.prog 181 [(.bx [(.c (.sl [(.int .u8)]) c.1),(.c TI c.2.1),(.c TI c.2.2)]),(.c TI n)] (ZB t):=by
 refine Zj (tcx (n:=19) (sg:=Jz.sg) Qv (TOk.cons Qea TOk.nil) (by kernel_rfl) (by kernel_rfl) (QjC (fun r'=>∃ t,(Yh c n t)∧r'=ZB t) c n ?_))
 obtain ⟨h1,h2⟩:=hp
 refine Qb7 n.toNat (fun k=>∀ (c0:List Int) (c1 c2:Int) (out:List Int),out.length=k→Q3 out=true→Qj (c0,c1,c2)→Qak (fun r'=>∃ t,(Yh c n t)∧r'=ZB t) n (k:Int) c0 c1 c2 out) ?_ ?_ c.1 c.2.1 c.2.2 [] rfl rfl h1
 ·intro c0 c1 c2 out hl hf hc
  refine QdF (fun r'=>∃ t,(Yh c n t)∧r'=ZB t) n _ _ _ _ _ ⟨fun h=>by simp at h;omega,fun _=>(QK ⟨?_,?_,hc⟩)⟩
  ·simp;omega
  ·simp only [List.take_length];exact hf
 ·intro k hk ih c0 c1 c2 out hl hf hc
  have b:=QdA (c0,c1,c2) hc
  refine QdF (fun r'=>∃ t,(Yh c n t)∧r'=ZB t) n _ _ _ _ _ ⟨fun _=>⟨⟨hc,.inl rfl,by rw [ZY];omega⟩,?_⟩,fun h=>by simp at h;omega⟩
  rw [sc1 (by omega),Qaq]
  exact ih _ _ _ _ (by simp;omega) (QgQ hf b.1) b.2
theorem Qb5 (c:((List Int) × Int × Int)) (n:Int) (hp:Zv c n):Yh c n (Zk c n):=(Classical.epsilon_spec (Qdg c n hp)).1
theorem QfY (c:((List Int) × Int × Int)) (n:Int) (hp:Zv c n):TCon Try.prog 181 [(.bx [(.c (.sl [(.int .u8)]) c.1),(.c TI c.2.1),(.c TI c.2.2)]),(.c TI n)] (ZB (Zk c n)):=(Classical.epsilon_spec (Qdg c n hp)).2
theorem Qdy:Qq Try.prog Jz:=Qy fun x h=>QfY x.1 x.2.1 h
def ZS (t:(List Int) × (((List Int) × Int × Int))):TRes:=⟨(zcs [TI] t.1),[],[[(zcs [(.int .u8)] t.2.1),(zci t.2.2.1),(zci t.2.2.2)]],true,[]⟩
def YH (x0:((List Int) × Int × Int)):(List Int) × (((List Int) × Int × Int)):=Classical.epsilon fun t:(List Int) × (((List Int) × Int × Int))=>(Qai x0 t)∧TCon Try.prog 117 [(.bx [(.c (.sl [(.int .u8)]) x0.1),(.c TI x0.2.1),(.c TI x0.2.2)])] (ZS t)
def JO:TRow:=Qr 117 [(.b [(.sl [(.int .u8)]),TI,TI])] fun x=>(some (Qj x.1),ZS (YH x.1))
def Qg9:List TRow:=[ZV,Jz,Qbx,YC]
def Qkt:TCode :=
 (zsq [(.reg [zmv 2 (.k (.n [TI]))]),(.reg [zmv 4 0,zmv 5 0,zca 6 116 [5,(zki 4)],zbi 7 .add (zki 1) 6,zca 8 181 [4,7],zmv 3 8]),(zsq [(.reg [zmv 9 0,zca 10 116 [9,(zki 16)]]),(.block 0 (zsq [(.reg [zbi 12 .eql 10 (zki 0),zmv 11 12]),(.cond 11 (.reg [zmv 13 3,zmv 14 0,zca 15 184 [14],zia 16 13 (zki 0) [TI],zst 16 15 1]) (zsq [(.reg [zbi 18 .eql 10 (zki 1),zmv 17 18]),(.cond 17 (zsq [(.reg [zmv 19 0,zmv 20 0,zop 21 (.bsl 3 [TI] [(zki 0),(zki 6),(zki 7)]),zca 22 182 [20,21],zca 23 181 [19,22],zmv 2 23]),.ret]) .skip)]))]))]),(.reg [zmv 24 3,zmv 2 24]),.ret])
def QhG:List (ARv × Md):=[(.t 2,.one .d)]
theorem QhS (c:((List Int) × Int × Int)) (h :
 let z3:=Qe c (4:Int)
 let z1:=Zk (z3.2) (w64 ((1:Int)+(z3.1)))
 let z2:=Qe (z1.2) (16:Int)
 (((QF c (4:Int))∧(Zv (z3.2) (w64 ((1:Int)+(z3.1)))))∧((QF (z1.2) (16:Int))∧(zif ((z2.1)==(0:Int)) (((Qj (z2.2))∧(((0:Int)≤(0:Int)∧Int.toNat (0:Int)<(z1.1).length)∧((0+(Int.toNat (0:Int)))<(z1.1).length)))∧K (ZS ((List.take ((z1.1).length) (List.drop 0 ((z1.1).set (0+(Int.toNat (0:Int))) ((Jk (z2.2)).1)))),((Jk (z2.2)).2)))) (zif ((z2.1)==(1:Int)) (((QY (z2.2) ([(0:Int),(6:Int),(7:Int)]))∧(Zv ((QG (z2.2) ([(0:Int),(6:Int),(7:Int)])).2) ((QG (z2.2) ([(0:Int),(6:Int),(7:Int)])).1)))∧K (ZS ((List.take (((Zk ((QG (z2.2) ([(0:Int),(6:Int),(7:Int)])).2) ((QG (z2.2) ([(0:Int),(6:Int),(7:Int)])).1)).1).length) (List.drop 0 ((Zk ((QG (z2.2) ([(0:Int),(6:Int),(7:Int)])).2) ((QG (z2.2) ([(0:Int),(6:Int),(7:Int)])).1)).1))),((Zk ((QG (z2.2) ([(0:Int),(6:Int),(7:Int)])).2) ((QG (z2.2) ([(0:Int),(6:Int),(7:Int)])).1)).2)))) (K (ZS ((List.take ((z1.1).length) (List.drop 0 (z1.1))),(z2.2))))))))):Hold (tawp Qg9 (1+0) Qkt (TQ 1 0 QhG K) (Ql [(.bx [(.c (.sl [(.int .u8)]) c.1),(.c TI c.2.1),(.c TI c.2.2)])])) :=
 Hold.of (by kernel_rfl) h
theorem QeD (c:((List Int) × Int × Int)) (hp:Qj c):∃ t:(List Int) × (((List Int) × Int × Int)),(Qai c t)∧TCon Try.prog 117 [(.bx [(.c (.sl [(.int .u8)]) c.1),(.c TI c.2.1),(.c TI c.2.2)])] (ZS t):=by
 refine Zj (tcx (n:=25) (sg:=JO.sg) Qv (TOk.cons YM (TOk.cons Qdy (TOk.cons QgS (TOk.cons Qad TOk.nil)))) (by kernel_rfl) (by kernel_rfl) (QhS (fun r'=>∃ t,(Qai c t)∧r'=ZS t) c ?_))
 conv=>zeta
 have b1:=QW c 4 hp
 generalize Qe c 4=r1 at b1 ⊢
 have h1:=b1.1
 have h2:=b1.2.1 (by omega)
 rw [QE (x:=1+r1.1) (by omega) (by omega)]
 have hv:Zv r1.2 (1+r1.1):=⟨b1.2.2.2,by omega⟩
 have b2:=Qb5 _ _ hv
 generalize Zk r1.2 (1+r1.1)=r2 at b2 ⊢
 have b3:=QW r2.2 16 b2.2.2
 generalize Qe r2.2 16=r3 at b3 ⊢
 have hc:=b3.2.2.2
 have hl:=b2.1
 have hpk:QY r3.2 [0,6,7]:=⟨hc,by simp,by simp⟩
 have b4:=YY _ _ hpk
 have b5:=b4.1
 simp only [List.mem_cons,List.not_mem_nil,or_false] at b5
 have hv2:Zv (QG r3.2 [0,6,7]).2 (QG r3.2 [0,6,7]).1:=⟨b4.2,by omega⟩
 have b6:=Qb5 _ _ hv2
 have hl2:=b6.1
 refine ⟨⟨hp,hv⟩,b2.2.2,fun _=>⟨⟨hc,⟨by omega,?_⟩,?_⟩,QK ⟨?_,Qg7 _ hc⟩⟩,fun _=>⟨fun _=>⟨⟨hpk,hv2⟩,QK ⟨?_,b6.2.2⟩⟩,fun _=>(QK ⟨?_,hc⟩)⟩⟩ <;> (simp;omega)
theorem QeG (c:((List Int) × Int × Int)) (hp:Qj c):Qai c (YH c):=(Classical.epsilon_spec (QeD c hp)).1
theorem QjU (c:((List Int) × Int × Int)) (hp:Qj c):TCon Try.prog 117 [(.bx [(.c (.sl [(.int .u8)]) c.1),(.c TI c.2.1),(.c TI c.2.2)])] (ZS (YH c)):=(Classical.epsilon_spec (QeD c hp)).2
theorem Qcn:Qq Try.prog JO:=Qy fun x h=>QjU x.1 h
end
end Go.Proofs.Ytephkbajoofeoaa.Am

