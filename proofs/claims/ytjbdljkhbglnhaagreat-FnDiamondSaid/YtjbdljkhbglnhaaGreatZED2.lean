/- -/
import Derived.Test.YtjbdljkhbglnhaaGreatZED1
import Derived.Test.YtjbdljkhbglnhaaGreatZEP4
namespace Go.Proofs.YtjbdljkhbglnhaaGreat.Am
open Go Go.RowKit Go.Proofs.YtjbdljkhbglnhaaGreat
set_option linter.all false
set_option maxHeartbeats 2000000
noncomputable section
variable (K:TRes→Prop)
def Qbg (t:Int × (((List Int) × Int × Int))):TRes:=⟨(zci t.1),[],[[(zcs [(.int .u8)] t.2.1),(zci t.2.2.1),(zci t.2.2.2)]],true,[]⟩
def Qa1 (x0:((List Int) × Int × Int)):Int × (((List Int) × Int × Int)):=Classical.epsilon fun t:Int × (((List Int) × Int × Int))=>(QiX x0 t)∧TCon Tryz.prog 181 [(.bx [(.c (.sl [(.int .u8)]) x0.1),(.c TI x0.2.1),(.c TI x0.2.2)])] (Qbg t)
def Qie:TRow:=Qk 181 [(.b [(.sl [(.int .u8)]),TI,TI])] fun x=>(some (QM x.1),Qbg (Qa1 x.1))
def QSU:List TRow:=[JK,Qcg]
def QFJ:TCode :=
 (zsq [(.reg [zmv 2 (zki 0)]),(zsq [(.reg [zmv 3 0,zca 4 108 [3,(zki 12)]]),(.block 0 (zsq [(.reg [zbi 6 .eql 4 (zki 0),zmv 5 6]),(.cond 5 (zsq [(.reg [zmv 7 0,zop 8 (.bsl 3 [TI] [(zki 2147483647),(zki (-2147483647)),(zki 2147483646),(zki 1),(zki (-1)),(zki 0)]),zca 9 145 [7,8],zmv 2 9]),.ret]) (zsq [(.reg [zbi 11 .eql 4 (zki 1),zmv 10 11]),(.cond 10 (zsq [(.reg [zmv 12 0,zca 13 108 [12,(zki 4000)],zbi 14 .sub 13 (zki 2000),zbi 15 .mul 14 (zki 997),zmv 2 15]),.ret]) (zsq [(.reg [zbi 17 .eql 4 (zki 2),zmv 16 17]),(.cond 16 (zsq [(.reg [zmv 18 0,zca 19 108 [18,(zki 9)],zbi 20 .sub 19 (zki 4),zmv 2 20]),.ret]) .skip)]))]))]))]),(.reg [zmv 21 0,zca 22 108 [21,(zki 17)],zbi 23 .sub 22 (zki 8),zbi 24 .mul 23 (zki 65536),zmv 25 0,zop 26 (.bsl 3 [TI] [(zki 1),(zki 1),(zki 2),(zki 4),(zki 3)]),zca 27 145 [25,26],zbi 28 .quo 24 27,zmv 2 28]),.ret])
def QXN:List (ARv × Md):=[(.t 2,.one .d)]
theorem QIN (c:((List Int) × Int × Int)) (h :
 ((Zq c (12:Int))∧(zif (((Qp c (12:Int)).1)==(0:Int)) ((Ja ((Qp c (12:Int)).2) ([(2147483647:Int),(-2147483647:Int),(2147483646:Int),(1:Int),(-1:Int),(0:Int)]))∧K (Qbg ((ZN ((Qp c (12:Int)).2) ([(2147483647:Int),(-2147483647:Int),(2147483646:Int),(1:Int),(-1:Int),(0:Int)])).1,((ZN ((Qp c (12:Int)).2) ([(2147483647:Int),(-2147483647:Int),(2147483646:Int),(1:Int),(-1:Int),(0:Int)])).2)))) (zif (((Qp c (12:Int)).1)==(1:Int)) ((Zq ((Qp c (12:Int)).2) (4000:Int))∧K (Qbg (w64 ((w64 (((Qp ((Qp c (12:Int)).2) (4000:Int)).1)-(2000:Int)))*(997:Int)),((Qp ((Qp c (12:Int)).2) (4000:Int)).2)))) (zif (((Qp c (12:Int)).1)==(2:Int)) ((Zq ((Qp c (12:Int)).2) (9:Int))∧K (Qbg (w64 (((Qp ((Qp c (12:Int)).2) (9:Int)).1)-(4:Int)),((Qp ((Qp c (12:Int)).2) (9:Int)).2)))) (((Zq ((Qp c (12:Int)).2) (17:Int))∧((Ja ((Qp ((Qp c (12:Int)).2) (17:Int)).2) ([(1:Int),(1:Int),(2:Int),(4:Int),(3:Int)]))∧(¬ ((ZN ((Qp ((Qp c (12:Int)).2) (17:Int)).2) ([(1:Int),(1:Int),(2:Int),(4:Int),(3:Int)])).1:Int)=0)))∧K (Qbg (w64 (Int.tdiv (w64 ((w64 (((Qp ((Qp c (12:Int)).2) (17:Int)).1)-(8:Int)))*(65536:Int))) ((ZN ((Qp ((Qp c (12:Int)).2) (17:Int)).2) ([(1:Int),(1:Int),(2:Int),(4:Int),(3:Int)])).1)),((ZN ((Qp ((Qp c (12:Int)).2) (17:Int)).2) ([(1:Int),(1:Int),(2:Int),(4:Int),(3:Int)])).2))))))))):Hold (tawp QSU (1+0) QFJ (TQ 1 0 QXN K) (Qg [(.bx [(.c (.sl [(.int .u8)]) c.1),(.c TI c.2.1),(.c TI c.2.2)])])) :=
 Hold.of (by kernel_rfl) h
theorem Qyv (c:((List Int) × Int × Int)) (hp:QM c):∃ t:Int × (((List Int) × Int × Int)),(QiX c t)∧TCon Tryz.prog 181 [(.bx [(.c (.sl [(.int .u8)]) c.1),(.c TI c.2.1),(.c TI c.2.2)])] (Qbg t):=by
 refine YT (tcx (n:=29) (sg:=Qie.sg) Qm (TOk.cons Qak (TOk.cons QeG TOk.nil)) (by kernel_rfl) (by kernel_rfl) (QIN (fun r'=>∃ t,(QiX c t)∧r'=Qbg t) c ?_))
 have b1:=Yq c 12 hp
 generalize Qp c 12=r at b1 ⊢
 have hc:QM r.2:=b1.2.2.2
 refine ⟨hp,fun _=>?_,fun _=>⟨fun _=>?_,fun _=>⟨fun _=>?_,fun _=>?_⟩⟩⟩
 ·have hpp:Ja r.2 [2147483647,-2147483647,2147483646,1,-1,0]:=⟨hc,by simp,by simp⟩
  have b2:=Qei _ _ hpp
  refine ⟨hpp,Zg ⟨?_,b2.2⟩⟩
  have b3:=b2.1
  simp only [List.mem_cons,List.not_mem_nil,or_false] at b3
  simp only [Zc,Bool.and_eq_true,decide_eq_true_eq]
  omega
 ·have b2:=Yq r.2 4000 hc
  refine ⟨hc,Zg ⟨?_,b2.2.2.2⟩⟩
  have h1:=b2.1
  have h2:=b2.2.1 (by omega)
  rw [Qr (x:=_-2000) (by omega) (by omega),Qr (by omega) (by omega)]
  simp only [Zc,Bool.and_eq_true,decide_eq_true_eq]
  omega
 ·have b2:=Yq r.2 9 hc
  refine ⟨hc,Zg ⟨?_,b2.2.2.2⟩⟩
  have h1:=b2.1
  have h2:=b2.2.1 (by omega)
  rw [Qr (by omega) (by omega)]
  simp only [Zc,Bool.and_eq_true,decide_eq_true_eq]
  omega
 ·have b2:=Yq r.2 17 hc
  have hpp:Ja (Qp r.2 17).2 [1,1,2,4,3]:=⟨b2.2.2.2,by simp,by simp⟩
  have b3:=Qei _ _ hpp
  have b4:=b3.1
  simp only [List.mem_cons,List.not_mem_nil,or_false] at b4
  have h1:=b2.1
  have h2:=b2.2.1 (by omega)
  refine ⟨⟨hc,hpp,by omega⟩,Zg ⟨?_,b3.2⟩⟩
  have h3:=QQF (a:=((Qp r.2 17).1-8)*65536) (b:=(ZN (Qp r.2 17).2 [1,1,2,4,3]).1) (B:=1000000) (by omega) (by omega) (by omega)
  rw [Qr (x:=_-8) (by omega) (by omega),Qr (x:=_*65536) (by omega) (by omega),Qr (by omega) (by omega)]
  simp only [Zc,Bool.and_eq_true,decide_eq_true_eq]
  omega
theorem Qs9 (c:((List Int) × Int × Int)) (hp:QM c):QiX c (Qa1 c):=(Classical.epsilon_spec (Qyv c hp)).1
theorem QTQ (c:((List Int) × Int × Int)) (hp:QM c):TCon Tryz.prog 181 [(.bx [(.c (.sl [(.int .u8)]) c.1),(.c TI c.2.1),(.c TI c.2.2)])] (Qbg (Qa1 c)):=(Classical.epsilon_spec (Qyv c hp)).2
theorem Qtx:Qj Tryz.prog Qie:=Qn fun x h=>QTQ x.1 h
def Qdn (t:Int × (((List Int) × Int × Int))):TRes:=⟨(zci t.1),[],[[(zcs [(.int .u8)] t.2.1),(zci t.2.2.1),(zci t.2.2.2)]],true,[]⟩
def QcG (x0:((List Int) × Int × Int)):Int × (((List Int) × Int × Int)):=Classical.epsilon fun t:Int × (((List Int) × Int × Int))=>(QiV x0 t)∧TCon Tryz.prog 182 [(.bx [(.c (.sl [(.int .u8)]) x0.1),(.c TI x0.2.1),(.c TI x0.2.2)])] (Qdn t)
def QjP:TRow:=Qk 182 [(.b [(.sl [(.int .u8)]),TI,TI])] fun x=>(some (QM x.1),Qdn (QcG x.1))
def QOb:List TRow:=[QfG,Qcg,Qie]
def QMt:TCode :=
 (zsq [(.reg [zmv 2 (zki 0)]),(zsq [(.reg [zmv 3 0,zca 4 106 [3,(zki 8)]]),(.cond 4 (zsq [(.reg [zmv 5 0,zop 6 (.bsl 3 [TI] [(zki 2147483648),(zki (-2147483648)),(zki 9223372036854775807),(zki (-9223372036854775807))]),zca 7 145 [5,6],zmv 2 7]),.ret]) .skip)]),(.reg [zmv 8 0,zca 9 181 [8],zmv 2 9]),.ret])
def QWy:List (ARv × Md):=[(.t 2,.one .d)]
theorem QQJ (c:((List Int) × Int × Int)) (h :
 ((Zq c (8:Int))∧(zif ((ZW c (8:Int)).1) ((Ja ((ZW c (8:Int)).2) ([(2147483648:Int),(-2147483648:Int),(9223372036854775807:Int),(-9223372036854775807:Int)]))∧K (Qdn ((ZN ((ZW c (8:Int)).2) ([(2147483648:Int),(-2147483648:Int),(9223372036854775807:Int),(-9223372036854775807:Int)])).1,((ZN ((ZW c (8:Int)).2) ([(2147483648:Int),(-2147483648:Int),(9223372036854775807:Int),(-9223372036854775807:Int)])).2)))) ((QM ((ZW c (8:Int)).2))∧K (Qdn ((Qa1 ((ZW c (8:Int)).2)).1,((Qa1 ((ZW c (8:Int)).2)).2))))))):Hold (tawp QOb (1+0) QMt (TQ 1 0 QWy K) (Qg [(.bx [(.c (.sl [(.int .u8)]) c.1),(.c TI c.2.1),(.c TI c.2.2)])])) :=
 Hold.of (by kernel_rfl) h
theorem QsL (c:((List Int) × Int × Int)) (hp:QM c):∃ t:Int × (((List Int) × Int × Int)),(QiV c t)∧TCon Tryz.prog 182 [(.bx [(.c (.sl [(.int .u8)]) c.1),(.c TI c.2.1),(.c TI c.2.2)])] (Qdn t):=by
 refine YT (tcx (n:=10) (sg:=QjP.sg) Qm (TOk.cons QlJ (TOk.cons QeG (TOk.cons Qtx TOk.nil))) (by kernel_rfl) (by kernel_rfl) (QQJ (fun r'=>∃ t,(QiV c t)∧r'=Qdn t) c ?_))
 have b1:=Qqi c 8 hp
 generalize ZW c 8=r at b1 ⊢
 have hpp:Ja r.2 [2147483648,-2147483648,9223372036854775807,-9223372036854775807]:=⟨b1,by simp,by simp⟩
 exact ⟨hp,fun _=>⟨hpp,Zg ((Qei _ _ hpp).2)⟩,fun _=>⟨b1,Zg ((Qs9 _ b1).2)⟩⟩
theorem QCn (c:((List Int) × Int × Int)) (hp:QM c):QiV c (QcG c):=(Classical.epsilon_spec (QsL c hp)).1
theorem QQs (c:((List Int) × Int × Int)) (hp:QM c):TCon Tryz.prog 182 [(.bx [(.c (.sl [(.int .u8)]) c.1),(.c TI c.2.1),(.c TI c.2.2)])] (Qdn (QcG c)):=(Classical.epsilon_spec (QsL c hp)).2
theorem Qru:Qj Tryz.prog QjP:=Qn fun x h=>QQs x.1 h
def Qbj (t:(List Int) × (((List Int) × Int × Int))):TRes:=⟨(.r [TI] 0 0 ((t.1).length)),[(.sl 3 [TI] true t.1)],[[(zcs [(.int .u8)] t.2.1),(zci t.2.2.1),(zci t.2.2.2)]],true,[]⟩
def Yt (x0:((List Int) × Int × Int)) (x1:Int):(List Int) × (((List Int) × Int × Int)):=Classical.epsilon fun t:(List Int) × (((List Int) × Int × Int))=>(QcW x0 x1 t)∧TCon Tryz.prog 105 [(.bx [(.c (.sl [(.int .u8)]) x0.1),(.c TI x0.2.1),(.c TI x0.2.2)]),(.c TI x1)] (Qbj t)
def Qfs:TRow:=Qk 105 [(.b [(.sl [(.int .u8)]),TI,TI]),(.c TI)] fun x=>(some (JF x.1 x.2.1),Qbj (Yt x.1 x.2.1))
def QpV:List TRow:=[Qie]
def QtW:TCode :=
 (zsq [(zsq [(.reg [zmv 8 6,zmv 9 1,zbi 10 .lss 8 9]),(.cond 10 .skip (.exit 0))]),(.block 1 (.reg [zmv 13 5,zmv 14 0,zca 15 181 [14],zop 16 (.bsl 3 [TI] [15]),zop 17 (.app 13 16 3 [TI]),zmv 5 17])),(.reg [zmv 11 6,zbi 12 .add 11 (zki 1),zmv 6 12])])
def QDL:List (Nat × Md):=[(0,.b [.d,.d,.d]),(1,.one .d),(5,.one .f),(6,.one .d)]
def QCq:TCode :=
 (zsq [(.reg [zmv 18 5,zmv 4 18]),.ret])
def QV2:TCode :=
 (zsq [(.reg [zmv 4 (.k (.n [TI]))]),(.reg [zop 7 (.bsl 3 [TI] []),zmv 5 7]),(zsq [(.reg [zmv 6 (zki 0)]),(.block 0 (.loop QDL QtW))]),QCq])
def Qwa:List (ARv × Md):=[(.t 4,.one (.o 3))]
def QuS:Qb:=TQ 1 0 Qwa K
def QGD:Qb:=Qseq (tawp QpV 1 QCq (QuS K)) (QuS K)
def QYi:Qb:=Qblk 0 (QGD K)
def Qjg (n:Int) (i:Int) (c0:List Int) (c1:Int) (c2:Int) (out:List Int):Prop:=Loop QpV 1 QDL QtW (QYi K) ⟨[(0,(.p 0 0 0)),(1,(zci n)),(5,(.r [TI] 1 0 out.length)),(6,(zci i))],[(0,(.box [(zcs [(.int .u8)] c0),(zci c1),(zci c2)])),(1,(.sl 3 [TI] true out))],2⟩
theorem QsU (n:Int) (i:Int) (c0:List Int) (c1:Int) (c2:Int) (out:List Int) (h :
 (zif (decide (i<n)) (((QM (c0,c1,c2))∧((out.length=out.length∨out.length+1≤out.length)∧out.length+1≤big))∧(Qjg K n (w64 (i+(1:Int))) (((Qa1 (c0,c1,c2)).2).1) (((Qa1 (c0,c1,c2)).2).2.1) (((Qa1 (c0,c1,c2)).2).2.2) (List.take (out.length+1) ((List.take out.length out)++([(Qa1 (c0,c1,c2)).1]))))) (K (Qbj ((List.take out.length out),(c0,c1,c2)))))):Qjg K n i c0 c1 c2 out :=
 Loop.of (by kernel_rfl) h
theorem QVL (c:((List Int) × Int × Int)) (n:Int) (h :
 (Qjg K n 0 c.1 c.2.1 c.2.2 ([]:List Int))):Hold (tawp QpV (1+0) QV2 (TQ 1 0 Qwa K) (Qg [(.bx [(.c (.sl [(.int .u8)]) c.1),(.c TI c.2.1),(.c TI c.2.2)]),(.c TI n)])) :=
 Hold.of (by kernel_rfl) h
theorem Qy8 (c:((List Int) × Int × Int)) (n:Int) (hp:JF c n):∃ t:(List Int) × (((List Int) × Int × Int)),(QcW c n t)∧TCon Tryz.prog 105 [(.bx [(.c (.sl [(.int .u8)]) c.1),(.c TI c.2.1),(.c TI c.2.2)]),(.c TI n)] (Qbj t):=by
 refine YT (tcx (n:=19) (sg:=Qfs.sg) Qm (TOk.cons Qtx TOk.nil) (by kernel_rfl) (by kernel_rfl) (QVL (fun r'=>∃ t,(QcW c n t)∧r'=Qbj t) c n ?_))
 obtain ⟨h1,h2⟩:=hp
 refine Y4 n.toNat (fun k=>∀ (c0:List Int) (c1 c2:Int) (out:List Int),out.length=k→ZB out=true→QM (c0,c1,c2)→Qjg (fun r'=>∃ t,(QcW c n t)∧r'=Qbj t) n (k:Int) c0 c1 c2 out) ?_ ?_ c.1 c.2.1 c.2.2 [] rfl rfl h1
 ·intro c0 c1 c2 out hl hf hc
  refine QsU (fun r'=>∃ t,(QcW c n t)∧r'=Qbj t) n _ _ _ _ _ ⟨fun h=>by simp at h;omega,fun _=>(Zg ⟨?_,?_,hc⟩)⟩
  ·simp;omega
  ·simp only [List.take_length];exact hf
 ·intro k hk ih c0 c1 c2 out hl hf hc
  have b:=Qs9 (c0,c1,c2) hc
  refine QsU (fun r'=>∃ t,(QcW c n t)∧r'=Qbj t) n _ _ _ _ _ ⟨fun _=>⟨⟨hc,.inl rfl,by rw [Q9];omega⟩,?_⟩,fun h=>by simp at h;omega⟩
  rw [sc1 (by omega),Q8]
  exact ih _ _ _ _ (by simp;omega) (QPa hf b.1) b.2
theorem QeM (c:((List Int) × Int × Int)) (n:Int) (hp:JF c n):QcW c n (Yt c n):=(Classical.epsilon_spec (Qy8 c n hp)).1
theorem QI3 (c:((List Int) × Int × Int)) (n:Int) (hp:JF c n):TCon Tryz.prog 105 [(.bx [(.c (.sl [(.int .u8)]) c.1),(.c TI c.2.1),(.c TI c.2.2)]),(.c TI n)] (Qbj (Yt c n)):=(Classical.epsilon_spec (Qy8 c n hp)).2
theorem QkI:Qj Tryz.prog Qfs:=Qn fun x h=>QI3 x.1 x.2.1 h
def Qch (t:(List Int) × (((List Int) × Int × Int))):TRes:=⟨(zcs [TI] t.1),[],[[(zcs [(.int .u8)] t.2.1),(zci t.2.2.1),(zci t.2.2.2)]],true,[]⟩
def Qgg (x0:((List Int) × Int × Int)):(List Int) × (((List Int) × Int × Int)):=Classical.epsilon fun t:(List Int) × (((List Int) × Int × Int))=>(Qif x0 t)∧TCon Tryz.prog 107 [(.bx [(.c (.sl [(.int .u8)]) x0.1),(.c TI x0.2.1),(.c TI x0.2.2)])] (Qch t)
def QoF:TRow:=Qk 107 [(.b [(.sl [(.int .u8)]),TI,TI])] fun x=>(some (QM x.1),Qch (Qgg x.1))
def QH5:List TRow:=[JK,Qfs,QjP,Qcg]
def QXk:TCode :=
 (zsq [(.reg [zmv 2 (.k (.n [TI]))]),(.reg [zmv 4 0,zmv 5 0,zca 6 108 [5,(zki 4)],zbi 7 .add (zki 1) 6,zca 8 105 [4,7],zmv 3 8]),(zsq [(.reg [zmv 9 0,zca 10 108 [9,(zki 16)]]),(.block 0 (zsq [(.reg [zbi 12 .eql 10 (zki 0),zmv 11 12]),(.cond 11 (.reg [zmv 13 3,zmv 14 0,zca 15 182 [14],zia 16 13 (zki 0) [TI],zst 16 15 1]) (zsq [(.reg [zbi 18 .eql 10 (zki 1),zmv 17 18]),(.cond 17 (zsq [(.reg [zmv 19 0,zmv 20 0,zop 21 (.bsl 3 [TI] [(zki 0),(zki 6),(zki 7)]),zca 22 145 [20,21],zca 23 105 [19,22],zmv 2 23]),.ret]) .skip)]))]))]),(.reg [zmv 24 3,zmv 2 24]),.ret])
def QOA:List (ARv × Md):=[(.t 2,.one .d)]
theorem QIT (c:((List Int) × Int × Int)) (h :
 let z3:=Qp c (4:Int)
 let z1:=Yt (z3.2) (w64 ((1:Int)+(z3.1)))
 let z2:=Qp (z1.2) (16:Int)
 (((Zq c (4:Int))∧(JF (z3.2) (w64 ((1:Int)+(z3.1)))))∧((Zq (z1.2) (16:Int))∧(zif ((z2.1)==(0:Int)) (((QM (z2.2))∧(((0:Int)≤(0:Int)∧Int.toNat (0:Int)<(z1.1).length)∧((0+(Int.toNat (0:Int)))<(z1.1).length)))∧K (Qch ((List.take ((z1.1).length) (List.drop 0 ((z1.1).set (0+(Int.toNat (0:Int))) ((QcG (z2.2)).1)))),((QcG (z2.2)).2)))) (zif ((z2.1)==(1:Int)) (((Ja (z2.2) ([(0:Int),(6:Int),(7:Int)]))∧(JF ((ZN (z2.2) ([(0:Int),(6:Int),(7:Int)])).2) ((ZN (z2.2) ([(0:Int),(6:Int),(7:Int)])).1)))∧K (Qch ((List.take (((Yt ((ZN (z2.2) ([(0:Int),(6:Int),(7:Int)])).2) ((ZN (z2.2) ([(0:Int),(6:Int),(7:Int)])).1)).1).length) (List.drop 0 ((Yt ((ZN (z2.2) ([(0:Int),(6:Int),(7:Int)])).2) ((ZN (z2.2) ([(0:Int),(6:Int),(7:Int)])).1)).1))),((Yt ((ZN (z2.2) ([(0:Int),(6:Int),(7:Int)])).2) ((ZN (z2.2) ([(0:Int),(6:Int),(7:Int)])).1)).2)))) (K (Qch ((List.take ((z1.1).length) (List.drop 0 (z1.1))),(z2.2))))))))):Hold (tawp QH5 (1+0) QXk (TQ 1 0 QOA K) (Qg [(.bx [(.c (.sl [(.int .u8)]) c.1),(.c TI c.2.1),(.c TI c.2.2)])])) :=
 Hold.of (by kernel_rfl) h
theorem Qw5 (c:((List Int) × Int × Int)) (hp:QM c):∃ t:(List Int) × (((List Int) × Int × Int)),(Qif c t)∧TCon Tryz.prog 107 [(.bx [(.c (.sl [(.int .u8)]) c.1),(.c TI c.2.1),(.c TI c.2.2)])] (Qch t):=by
 refine YT (tcx (n:=25) (sg:=QoF.sg) Qm (TOk.cons Qak (TOk.cons QkI (TOk.cons Qru (TOk.cons QeG TOk.nil)))) (by kernel_rfl) (by kernel_rfl) (QIT (fun r'=>∃ t,(Qif c t)∧r'=Qch t) c ?_))
 conv=>zeta
 have b1:=Yq c 4 hp
 generalize Qp c 4=r1 at b1 ⊢
 have h1:=b1.1
 have h2:=b1.2.1 (by omega)
 rw [Qr (x:=1+r1.1) (by omega) (by omega)]
 have hv:JF r1.2 (1+r1.1):=⟨b1.2.2.2,by omega⟩
 have b2:=QeM _ _ hv
 generalize Yt r1.2 (1+r1.1)=r2 at b2 ⊢
 have b3:=Yq r2.2 16 b2.2.2
 generalize Qp r2.2 16=r3 at b3 ⊢
 have hc:=b3.2.2.2
 have hl:=b2.1
 have hpk:Ja r3.2 [0,6,7]:=⟨hc,by simp,by simp⟩
 have b4:=Qei _ _ hpk
 have b5:=b4.1
 simp only [List.mem_cons,List.not_mem_nil,or_false] at b5
 have hv2:JF (ZN r3.2 [0,6,7]).2 (ZN r3.2 [0,6,7]).1:=⟨b4.2,by omega⟩
 have b6:=QeM _ _ hv2
 have hl2:=b6.1
 refine ⟨⟨hp,hv⟩,b2.2.2,fun _=>⟨⟨hc,⟨by omega,?_⟩,?_⟩,Zg ⟨?_,QCn _ hc⟩⟩,fun _=>⟨fun _=>⟨⟨hpk,hv2⟩,Zg ⟨?_,b6.2.2⟩⟩,fun _=>(Zg ⟨?_,hc⟩)⟩⟩ <;> (simp;omega)
theorem QJX (c:((List Int) × Int × Int)) (hp:QM c):Qif c (Qgg c):=(Classical.epsilon_spec (Qw5 c hp)).1
theorem QM8 (c:((List Int) × Int × Int)) (hp:QM c):TCon Tryz.prog 107 [(.bx [(.c (.sl [(.int .u8)]) c.1),(.c TI c.2.1),(.c TI c.2.2)])] (Qch (Qgg c)):=(Classical.epsilon_spec (Qw5 c hp)).2
theorem QPE:Qj Tryz.prog QoF:=Qn fun x h=>QM8 x.1 h
def QbT (t:TOp' × (((List Int) × Int × Int))):TRes:=⟨(.a [(zci t.1.1),(zci t.1.2.1),(zci t.1.2.2.1),(.r [TI] 0 0 ((t.1.2.2.2).length))]),[(.sl 3 [TI] true t.1.2.2.2)],[[(zcs [(.int .u8)] t.2.1),(zci t.2.2.1),(zci t.2.2.2)]],true,[]⟩
def e_op (x0:((List Int) × Int × Int)) (x1:Int):TOp' × (((List Int) × Int × Int)):=Classical.epsilon fun t:TOp' × (((List Int) × Int × Int))=>(q_op x0 x1 t)∧TCon Tryz.prog 223 [(.bx [(.c (.sl [(.int .u8)]) x0.1),(.c TI x0.2.1),(.c TI x0.2.2)]),(.c TI x1)] (QbT t)
def Qh3:TRow:=Qk 223 [(.b [(.sl [(.int .u8)]),TI,TI]),(.c TI)] fun x=>(some (p_op x.1 x.2.1),QbT (e_op x.1 x.2.1))
def Qsq:List TRow:=[JK,Qkx,Qfs]
def QBP:TCode :=
 (zsq [(.reg [zmv 19 0,zLd 20 5 4,zca 21 202 [20],zca 22 105 [19,21],zfa 23 5 3,zst 23 22 1]),(.reg [zLd 24 5 4,zst 4 24 4]),.ret])
def QLr:List (Nat × Md):=[(0,.b [.d,.d,.d]),(4,.b (zds 4)),(5,.b (zds 4))]
def QSE:TCode:=.wk QLr QBP
def QQn:TCode :=
 (zsq [(.reg [zop 4 (.new 69 (z0s ctOp))]),(.reg [zmv 6 0,zca 7 108 [6,(zki 5)],zbi 8 .add (zki 1) 7,zmv 9 1,zmv 10 1,zop 11 (.build (z0s ctOp) [(0,1,8),(1,1,9),(2,1,10)]),zop 5 (.new 69 (z0s ctOp)),zst 5 11 4]),(zsq [(.reg [zfa 12 5 0,zld 13 12 1,zbi 14 .eql 13 (zki 1)]),(.cond 14 (.reg [zmv 15 0,zca 16 108 [15,(zki 3)],zbi 17 .add (zki 1) 16,zfa 18 5 2,zst 18 17 1]) .skip)]),QSE])
def QDh:List (ARv × Md):=[(.l 4 4 true,.b [.d,.d,.d,.o 3])]
def QYu:Qb:=TQ 1 0 QDh K
def QiN (c:((List Int) × Int × Int)) (inn:Int) (c0:List Int) (c1:Int) (c2:Int) (o2:Int):Prop:=tawp Qsq 1 QBP (QYu K) ⟨[(0,(.p 0 0 0)),(4,(.p 1 0 0)),(5,(.p 2 0 0))],[(0,(.box [(zcs [(.int .u8)] c0),(zci c1),(zci c2)])),(1,(.box (Tup.cells ctOp ((0:Int),(0:Int),(0:Int),[])))),(2,(.box (Tup.cells ctOp (w64 ((1:Int)+((Qp c (5:Int)).1)),inn,o2,[]))))],3⟩
theorem QYQ (c:((List Int) × Int × Int)) (inn:Int) (c0:List Int) (c1:Int) (c2:Int) (o2:Int) (h :
 ((JF (c0,c1,c2) (Yg (w64 ((1:Int)+((Qp c (5:Int)).1)),inn,o2,[])))∧K (QbT ((w64 ((1:Int)+((Qp c (5:Int)).1)),inn,o2,(List.take (((Yt (c0,c1,c2) (Yg (w64 ((1:Int)+((Qp c (5:Int)).1)),inn,o2,[]))).1).length) ((Yt (c0,c1,c2) (Yg (w64 ((1:Int)+((Qp c (5:Int)).1)),inn,o2,[]))).1))),((Yt (c0,c1,c2) (Yg (w64 ((1:Int)+((Qp c (5:Int)).1)),inn,o2,[]))).2))))):Hold (QiN K c inn c0 c1 c2 o2) :=
 Hold.of (by kernel_rfl) h
theorem QOf (c:((List Int) × Int × Int)) (inn:Int) (h :
 ((Zq c (5:Int))∧(zif ((w64 ((1:Int)+((Qp c (5:Int)).1)))==(1:Int)) ((Zq ((Qp c (5:Int)).2) (3:Int))∧(QiN K c inn (((Qp ((Qp c (5:Int)).2) (3:Int)).2).1) (((Qp ((Qp c (5:Int)).2) (3:Int)).2).2.1) (((Qp ((Qp c (5:Int)).2) (3:Int)).2).2.2) (w64 ((1:Int)+((Qp ((Qp c (5:Int)).2) (3:Int)).1))))) (QiN K c inn (((Qp c (5:Int)).2).1) (((Qp c (5:Int)).2).2.1) (((Qp c (5:Int)).2).2.2) inn)))):Hold (tawp Qsq (1+0) QQn (TQ 1 0 QDh K) (Qg [(.bx [(.c (.sl [(.int .u8)]) c.1),(.c TI c.2.1),(.c TI c.2.2)]),(.c TI inn)])) :=
 Hold.of (by kernel_rfl) h
theorem Qwf (c:((List Int) × Int × Int)) (inn:Int) (hp:p_op c inn):∃ t:TOp' × (((List Int) × Int × Int)),(q_op c inn t)∧TCon Tryz.prog 223 [(.bx [(.c (.sl [(.int .u8)]) c.1),(.c TI c.2.1),(.c TI c.2.2)]),(.c TI inn)] (QbT t):=by
 refine YT (tcx (n:=25) (sg:=Qh3.sg) Qm (TOk.cons Qak (TOk.cons Qrs (TOk.cons QkI TOk.nil))) (by kernel_rfl) (by kernel_rfl) (QOf (fun r'=>∃ t,(q_op c inn t)∧r'=QbT t) c inn ?_))
 have b1:=Yq c 5 hp.1
 have h1:=b1.1
 have h2:=b1.2.1 (by omega)
 obtain ⟨_,h3,h4⟩:=hp
 have hw:w64 (1+(Qp c 5).1)=1+(Qp c 5).1:=Qr (by omega) (by omega)
 have key:∀ c0 c1 c2 o2,QM (c0,c1,c2)→1≤o2→o2≤3→(1+(Qp c 5).1=1∨inn=o2)→QiN (fun r'=>∃ t,(q_op c inn t)∧r'=QbT t) c inn c0 c1 c2 o2:=by
  intro c0 c1 c2 o2 hc k1 k2 k3
  refine (QYQ (fun r'=>∃ t,(q_op c inn t)∧r'=QbT t) c inn c0 c1 c2 o2 ?_).h
  rw [hw]
  have h5:1≤1+(Qp c 5).1:=by omega
  have h6:1+(Qp c 5).1≤5:=by omega
  generalize 1+(Qp c 5).1=o1 at h5 h6 k3 ⊢
  have hs:=QDm o1 [] h3 h4 k1 k2
  have hv:JF (c0,c1,c2) (Yg (o1,inn,o2,[])):=⟨hc,by omega⟩
  have b:=QeM _ _ hv
  have hl:=b.1
  refine ⟨hv,Zg ⟨?_,rfl,k1,k2,?_,b.2.2⟩⟩
  ·simp only [List.take_length]
   exact QRj h5 h6 h3 h4 k1 k2 k3 hl b.2.1
  ·simp;omega
 have b2:=Yq (Qp c 5).2 3 b1.2.2.2
 have h7:=b2.1
 have h8:=b2.2.1 (by omega)
 rw [hw] at *
 refine ⟨‹QM c›,fun h=>⟨b1.2.2.2,?_⟩,fun _=>key _ _ _ _ b1.2.2.2 h3 h4 (.inr rfl)⟩
 rw [Qr (x:=1+(Qp (Qp c 5).2 3).1) (by omega) (by omega)]
 exact key _ _ _ _ b2.2.2.2 (by omega) (by omega) (.inl (by simpa using h))
theorem Qwg (c:((List Int) × Int × Int)) (inn:Int) (hp:p_op c inn):q_op c inn (e_op c inn):=(Classical.epsilon_spec (Qwf c inn hp)).1
theorem QPU (c:((List Int) × Int × Int)) (inn:Int) (hp:p_op c inn):TCon Tryz.prog 223 [(.bx [(.c (.sl [(.int .u8)]) c.1),(.c TI c.2.1),(.c TI c.2.2)]),(.c TI inn)] (QbT (e_op c inn)):=(Classical.epsilon_spec (Qwf c inn hp)).2
theorem QC3:Qj Tryz.prog Qh3:=Qn fun x h=>QPU x.1 x.2.1 h
def Qax (t:TOp' × (((List Int) × Int × Int))):TRes:=⟨(.a (Tup.cells ctOp t.1)),[],[[(zcs [(.int .u8)] t.2.1),(zci t.2.2.1),(zci t.2.2.2)]],true,[]⟩
def QfQ (x0:((List Int) × Int × Int)):TOp' × (((List Int) × Int × Int)):=Classical.epsilon fun t:TOp' × (((List Int) × Int × Int))=>(QhE x0 t)∧TCon Tryz.prog 201 [(.bx [(.c (.sl [(.int .u8)]) x0.1),(.c TI x0.2.1),(.c TI x0.2.2)])] (Qax t)
def QmU:TRow:=Qk 201 [(.b [(.sl [(.int .u8)]),TI,TI])] fun x=>(some (QM x.1),Qax (QfQ x.1))
def QR5:List TRow:=[JK,Qh3,Qcg,QjP]
def QYw:TCode :=
 (zsq [(.reg [zop 2 (.new 69 (z0s ctOp))]),(.reg [zmv 4 0,zmv 5 0,zca 6 108 [5,(zki 3)],zbi 7 .add (zki 1) 6,zca 8 223 [4,7],zop 3 (.new 69 (z0s ctOp)),zst 3 8 4]),(zsq [(.reg [zmv 9 0,zca 10 108 [9,(zki 14)]]),(.block 0 (zsq [(.reg [zbi 12 .eql 10 (zki 0),zmv 11 12]),(.cond 11 (.reg [zmv 13 0,zca 14 108 [13,(zki 8)],zbi 15 .sub 14 (zki 1),zfa 16 3 0,zst 16 15 1]) (zsq [(.reg [zbi 18 .eql 10 (zki 1),zmv 17 18]),(.cond 17 (.reg [zmv 19 0,zfa 20 3 1,zld 21 20 1,zbi 22 .add 21 (zki 1),zop 23 (.bsl 3 [TI] [(zki 0),(zki 7),22]),zca 24 145 [19,23],zfa 25 3 1,zst 25 24 1]) (zsq [(.reg [zbi 27 .eql 10 (zki 2),zmv 26 27]),(.cond 26 (.reg [zfa 28 3 3,zld 29 28 1,zop 30 (.bsl 3 [TI] [(zki 0)]),zop 31 (.app 29 30 3 [TI]),zfa 32 3 3,zst 32 31 1]) (zsq [(.reg [zbi 34 .eql 10 (zki 3),zmv 33 34]),(.cond 33 (zsq [(.reg [zfa 35 3 3,zld 36 35 1,zle 37 36,zbi 38 .gtr 37 (zki 0)]),(.cond 38 (.draw [zfa 39 3 3,zld 40 39 1,zmv 41 0,zca 42 182 [41],zia 43 40 (zki 0) [TI],zst 43 42 1] [(0,3),(1,3)]) .skip)]) .skip)]))]))]))]))]),(.reg [zLd 44 3 4,zst 2 44 4]),.ret])
def QUy:List (ARv × Md):=[(.l 2 4 true,.b (zds 4))]
theorem QKb (c:((List Int) × Int × Int)) (h :
 let z4:=Qp c (3:Int)
 let z1:=e_op (z4.2) (w64 ((1:Int)+(z4.1)))
 let z2:=Qp (z1.2) (14:Int)
 let z3:=List.take (((z1.1).2.2.2).length) (List.drop 0 ((z1.1).2.2.2))
 (((Zq c (3:Int))∧(p_op (z4.2) (w64 ((1:Int)+(z4.1)))))∧((Zq (z1.2) (14:Int))∧(zif ((z2.1)==(0:Int)) ((Zq (z2.2) (8:Int))∧K (Qax ((w64 (((Qp (z2.2) (8:Int)).1)-(1:Int)),(z1.1).2.1,(z1.1).2.2.1,z3),((Qp (z2.2) (8:Int)).2)))) (zif ((z2.1)==(1:Int)) ((Ja (z2.2) ([(0:Int),(7:Int),w64 (((z1.1).2.1)+(1:Int))]))∧K (Qax (((z1.1).1,(ZN (z2.2) ([(0:Int),(7:Int),w64 (((z1.1).2.1)+(1:Int))])).1,(z1.1).2.2.1,z3),((ZN (z2.2) ([(0:Int),(7:Int),w64 (((z1.1).2.1)+(1:Int))])).2)))) (zif ((z2.1)==(2:Int)) (((((z1.1).2.2.2).length=((z1.1).2.2.2).length∨((z1.1).2.2.2).length+1≤((z1.1).2.2.2).length)∧((z1.1).2.2.2).length+1≤big)∧K (Qax (((z1.1).1,(z1.1).2.1,(z1.1).2.2.1,(List.take (((z1.1).2.2.2).length+1) (List.drop 0 ((List.take (((z1.1).2.2.2).length) ((z1.1).2.2.2))++([(0:Int)]))))),(z2.2)))) (zif ((z2.1)==(3:Int)) (zif (decide (((((z1.1).2.2.2).length:Nat):Int)>(0:Int))) (((QM (z2.2))∧(((0:Int)≤(0:Int)∧Int.toNat (0:Int)<((z1.1).2.2.2).length)∧((0+(Int.toNat (0:Int)))<((z1.1).2.2.2).length)))∧K (Qax (((z1.1).1,(z1.1).2.1,(z1.1).2.2.1,(List.take (((z1.1).2.2.2).length) (List.drop 0 (((z1.1).2.2.2).set (0+(Int.toNat (0:Int))) ((QcG (z2.2)).1))))),((QcG (z2.2)).2)))) (K (Qax (((z1.1).1,(z1.1).2.1,(z1.1).2.2.1,z3),(z2.2))))) (K (Qax (((z1.1).1,(z1.1).2.1,(z1.1).2.2.1,z3),(z2.2))))))))))):Hold (tawp QR5 (1+0) QYw (TQ 1 0 QUy K) (Qg [(.bx [(.c (.sl [(.int .u8)]) c.1),(.c TI c.2.1),(.c TI c.2.2)])])) :=
 Hold.of (by kernel_rfl) h
theorem QzH (c:((List Int) × Int × Int)) (hp:QM c):∃ t:TOp' × (((List Int) × Int × Int)),(QhE c t)∧TCon Tryz.prog 201 [(.bx [(.c (.sl [(.int .u8)]) c.1),(.c TI c.2.1),(.c TI c.2.2)])] (Qax t):=by
 refine YT (tcx (n:=45) (sg:=QmU.sg) Qm (TOk.cons Qak (TOk.cons QC3 (TOk.cons QeG (TOk.cons Qru TOk.nil)))) (by kernel_rfl) (by kernel_rfl) (QKb (fun r'=>∃ t,(QhE c t)∧r'=Qax t) c ?_))
 conv=>zeta
 have b1:=Yq c 3 hp
 generalize Qp c 3=r1 at b1 ⊢
 have h1:=b1.1
 have h2:=b1.2.1 (by omega)
 rw [Qr (x:=1+r1.1) (by omega) (by omega)]
 have ho:p_op r1.2 (1+r1.1):=⟨b1.2.2.2,by omega,by omega⟩
 have b2:=Qwg _ _ ho
 generalize e_op r1.2 (1+r1.1)=r2 at b2 ⊢
 have hl:=b2.2.2.2.2.1
 have hc2:=b2.2.2.2.2.2
 have b3:=(Yq r2.2 14 hc2).2.2.2
 generalize Qp r2.2 14=r3 at b3 ⊢
 refine ⟨⟨hp,ho⟩,hc2,fun _=>⟨b3,Zg ⟨?_,(Yq _ _ b3).2.2.2⟩⟩,fun _=>⟨fun _=>⟨⟨b3,by simp,by simp⟩,Zg ⟨?_,(Qei _ _ ⟨b3,by simp,by simp⟩).2⟩⟩,fun _=>⟨fun _=>⟨⟨.inl rfl,by rw [Q9];omega⟩,Zg ⟨?_,b3⟩⟩,fun _=>⟨fun _=>⟨fun hh=>⟨⟨b3,⟨by omega,by simpa using hh⟩,by simpa using hh⟩,Zg ⟨?_,QCn _ b3⟩⟩,fun _=>(Zg ⟨?_,b3⟩)⟩,fun _=>(Zg ⟨?_,b3⟩)⟩⟩⟩⟩
 all_goals first
  | (simp;omega)
  | omega
  | skip
theorem QYV (c:((List Int) × Int × Int)) (hp:QM c):QhE c (QfQ c):=(Classical.epsilon_spec (QzH c hp)).1
theorem QIi (c:((List Int) × Int × Int)) (hp:QM c):TCon Tryz.prog 201 [(.bx [(.c (.sl [(.int .u8)]) c.1),(.c TI c.2.1),(.c TI c.2.2)])] (Qax (QfQ c)):=(Classical.epsilon_spec (QzH c hp)).2
theorem QUa:Qj Tryz.prog QmU:=Qn fun x h=>QIi x.1 h
def Qbl (t:(List TOp') × (((List Int) × Int × Int))):TRes:=⟨(.a [(.r ctOp 0 0 ((t.1).length))]),[(.sl 69 ctOp true t.1)],[[(zcs [(.int .u8)] t.2.1),(zci t.2.2.1),(zci t.2.2.2)]],true,[]⟩
def ZC (x0:((List Int) × Int × Int)):(List TOp') × (((List Int) × Int × Int)):=Classical.epsilon fun t:(List TOp') × (((List Int) × Int × Int))=>(QcC x0 t)∧TCon Tryz.prog 198 [(.bx [(.c (.sl [(.int .u8)]) x0.1),(.c TI x0.2.1),(.c TI x0.2.2)])] (Qbl t)
def Qgx:TRow:=Qk 198 [(.b [(.sl [(.int .u8)]),TI,TI])] fun x=>(some (QM x.1),Qbl (ZC x.1))
def Qmh:List TRow:=[JK,Qh3]
def QxN:TCode :=
 (zsq [(zsq [(.reg [zmv 14 5,zbi 15 .gtr 14 (zki 0)]),(.cond 15 .skip (.exit 0))]),(.block 1 (zsq [(.reg [zmv 18 0,zmv 19 4,zca 20 223 [18,19],zop 6 (.new 69 (z0s ctOp)),zst 6 20 4]),(.reg [zfa 21 3 0,zld 22 21 1,zLd 23 6 4,zop 24 (.bsl 69 ctOp [23]),zop 25 (.app 22 24 69 ctOp),zfa 26 3 0,zst 26 25 1]),(.reg [zfa 27 6 2,zld 28 27 1,zmv 4 28])])),(.reg [zmv 16 5,zbi 17 .sub 16 (zki 1),zmv 5 17])])
def QyW:List (Nat × Md):=[(0,.b [.d,.d,.d]),(2,.b [.d]),(3,.b [.o 69]),(4,.one .d),(5,.one .d)]
def QyD:TCode :=
 (zsq [(.reg [zLd 29 3 1,zst 2 29 1]),.ret])
def QX0:TCode :=
 (zsq [(.reg [zop 2 (.new 26 [(.n ctOp)])]),(.reg [zop 7 (.build [(.n ctOp)] []),zop 3 (.new 26 [(.n ctOp)]),zst 3 7 1]),(.reg [zmv 8 0,zca 9 108 [8,(zki 3)],zbi 10 .add (zki 1) 9,zmv 4 10]),(zsq [(.reg [zmv 11 0,zca 12 108 [11,(zki 6)],zbi 13 .add (zki 1) 12,zmv 5 13]),(.block 0 (.loop QyW QxN))]),QyD])
def QuC:List (ARv × Md):=[(.l 2 1 true,.b [.o 69])]
def Qvi:Qb:=TQ 1 0 QuC K
def QXM:Qb:=Qseq (tawp Qmh 1 QyD (Qvi K)) (Qvi K)
def QIQ:Qb:=Qblk 0 (QXM K)
def QiQ (inn:Int) (n:Int) (c0:List Int) (c1:Int) (c2:Int) (m0:List TOp'):Prop:=Loop Qmh 1 QyW QxN (QIQ K) ⟨[(0,(.p 0 0 0)),(2,(.p 1 0 0)),(3,(.p 3 0 0)),(4,(zci inn)),(5,(zci n))],[(0,(.box [(zcs [(.int .u8)] c0),(zci c1),(zci c2)])),(1,(.box [(zcs ctOp ([]))])),(2,(.sl 69 ctOp true m0)),(3,(.box [(.r ctOp 2 0 m0.length)]))],4⟩
theorem QqO (inn:Int) (n:Int) (c0:List Int) (c1:Int) (c2:Int) (m0:List TOp') (h :
 (zif (decide (n>(0:Int))) ((p_op (c0,c1,c2) inn)∧(((m0.length=m0.length∨m0.length+1≤m0.length)∧m0.length+1≤big)∧(QiQ K (((e_op (c0,c1,c2) inn).1).2.2.1) (w64 (n-(1:Int))) (((e_op (c0,c1,c2) inn).2).1) (((e_op (c0,c1,c2) inn).2).2.1) (((e_op (c0,c1,c2) inn).2).2.2) (List.take (m0.length+1) ((List.take m0.length m0)++([(((e_op (c0,c1,c2) inn).1).1,((e_op (c0,c1,c2) inn).1).2.1,((e_op (c0,c1,c2) inn).1).2.2.1,(List.take ((((e_op (c0,c1,c2) inn).1).2.2.2).length) (List.drop 0 (((e_op (c0,c1,c2) inn).1).2.2.2))))])))))) (K (Qbl ((List.take m0.length m0),(c0,c1,c2)))))):QiQ K inn n c0 c1 c2 m0 :=
 Loop.of (by kernel_rfl) h
theorem QGY (c:((List Int) × Int × Int)) (h :
 ((Zq c (3:Int))∧((Zq ((Qp c (3:Int)).2) (6:Int))∧(QiQ K (w64 ((1:Int)+((Qp c (3:Int)).1))) (w64 ((1:Int)+((Qp ((Qp c (3:Int)).2) (6:Int)).1))) (((Qp ((Qp c (3:Int)).2) (6:Int)).2).1) (((Qp ((Qp c (3:Int)).2) (6:Int)).2).2.1) (((Qp ((Qp c (3:Int)).2) (6:Int)).2).2.2) ([]:List TOp'))))):Hold (tawp Qmh (1+0) QX0 (TQ 1 0 QuC K) (Qg [(.bx [(.c (.sl [(.int .u8)]) c.1),(.c TI c.2.1),(.c TI c.2.2)])])) :=
 Hold.of (by kernel_rfl) h
theorem Qxi (c:((List Int) × Int × Int)) (hp:QM c):∃ t:(List TOp') × (((List Int) × Int × Int)),(QcC c t)∧TCon Tryz.prog 198 [(.bx [(.c (.sl [(.int .u8)]) c.1),(.c TI c.2.1),(.c TI c.2.2)])] (Qbl t):=by
 refine YT (tcx (n:=30) (sg:=Qgx.sg) Qm (TOk.cons Qak (TOk.cons QC3 TOk.nil)) (by kernel_rfl) (by kernel_rfl) (QGY (fun r'=>∃ t,(QcC c t)∧r'=Qbl t) c ?_))
 have b1:=Yq c 3 hp
 generalize Qp c 3=r1 at b1 ⊢
 have b2:=Yq r1.2 6 b1.2.2.2
 generalize Qp r1.2 6=r2 at b2 ⊢
 have h1:=b1.1
 have h2:=b1.2.1 (by omega)
 have h3:=b2.1
 have h4:=b2.2.1 (by omega)
 rw [Qr (x:=1+r1.1) (by omega) (by omega),Qr (x:=1+r2.1) (by omega) (by omega)]
 refine ⟨hp,b1.2.2.2,?_⟩
 have key:∀ (k:Nat) (inn c1 c2:Int) (c0:List Int) (m0:Zh),QM (c0,c1,c2)→1≤inn→inn≤3→m0.length+k≤6→1≤m0.length+k→YA none m0=true→QgI none m0 inn=true→QiQ (fun r'=>∃ t,(QcC c t)∧r'=Qbl t) inn (k:Int) c0 c1 c2 m0:=by
  intro k
  induction k with
  | zero =>
   intro inn c1 c2 c0 m0 hc k1 k2 k3 k4 k5 k6
   refine QqO (fun r'=>∃ t,(QcC c t)∧r'=Qbl t) _ _ _ _ _ _ ⟨fun h=>by simp at h,fun _=>(Zg ⟨?_,?_,hc⟩)⟩
   ·simp only [List.take_length,QU,Bool.and_eq_true,QT]
    exact ⟨by omega,k5⟩
   ·simp only [List.take_length];omega
  | succ k ih =>
   intro inn c1 c2 c0 m0 hc k1 k2 k3 k4 k5 k6
   have ho:p_op (c0,c1,c2) inn:=⟨hc,k1,k2⟩
   have b:=Qwg _ _ ho
   refine QqO (fun r'=>∃ t,(QcC c t)∧r'=Qbl t) _ _ _ _ _ _ ⟨fun _=>⟨ho,⟨.inl rfl,by rw [Q9];omega⟩,?_⟩,fun h=>by simp at h <;> omega⟩
   rw [Q8,Qr (x:=((k+1:Nat):Int)-1) (by omega) (by omega),show ((k+1:Nat):Int)-1=k by omega]
   refine ih _ _ _ _ _ b.2.2.2.2.2 b.2.2.1 b.2.2.2.1 (by simp;omega) (by simp;omega) (QDH _ _ _ k5 ?_ ?_) ?_
   ·simp only [List.drop_zero,List.take_length];exact b.1
   ·rw [show (((e_op (c0,c1,c2) inn).1.1,(e_op (c0,c1,c2) inn).1.2.1,(e_op (c0,c1,c2) inn).1.2.2.1,List.take (e_op (c0,c1,c2) inn).1.2.2.2.length (List.drop 0 (e_op (c0,c1,c2) inn).1.2.2.2)):TOp').2.1=inn from b.2.1]
    exact k6
   ·exact QzJ _ _ _
 have h:=key (1+r2.1).toNat (1+r1.1) r2.2.2.1 r2.2.2.2 r2.2.1 [] b2.2.2.2 (by omega) (by omega) (by simp;omega) (by simp;omega) rfl rfl
 rw [Int.toNat_of_nonneg (by omega)] at h
 exact h
theorem QC8 (c:((List Int) × Int × Int)) (hp:QM c):QcC c (ZC c):=(Classical.epsilon_spec (Qxi c hp)).1
theorem QPZ (c:((List Int) × Int × Int)) (hp:QM c):TCon Tryz.prog 198 [(.bx [(.c (.sl [(.int .u8)]) c.1),(.c TI c.2.1),(.c TI c.2.2)])] (Qbl (ZC c)):=(Classical.epsilon_spec (Qxi c hp)).2
theorem QwR:Qj Tryz.prog Qgx:=Qn fun x h=>QPZ x.1 h
def J8 (t:(List TOp') × (((List Int) × Int × Int))):TRes:=⟨(.a [(zcs ctOp t.1)]),[],[[(zcs [(.int .u8)] t.2.1),(zci t.2.2.1),(zci t.2.2.2)]],true,[]⟩
def QhI (x0:((List Int) × Int × Int)):(List TOp') × (((List Int) × Int × Int)):=Classical.epsilon fun t:(List TOp') × (((List Int) × Int × Int))=>(QdM x0 t)∧TCon Tryz.prog 144 [(.bx [(.c (.sl [(.int .u8)]) x0.1),(.c TI x0.2.1),(.c TI x0.2.2)])] (J8 t)
def Qqk:TRow:=Qk 144 [(.b [(.sl [(.int .u8)]),TI,TI])] fun x=>(some (QM x.1),J8 (QhI x.1))
def QlQ:List TRow:=[Qgx,JK,QmU]
def QEN:TCode :=
 (zsq [(zsq [(.draw [zfa 31 3 0,zld 32 31 1,zle 33 32,zmv 34 0,zca 35 108 [34,(zki 2)],zbi 36 .add (zki 8) 35,zbi 37 .lss 33 36] [(0,4),(1,4),(2,4)]),(.cond 37 .skip (.exit 1))]),(.block 2 (.draw [zfa 38 3 0,zld 39 38 1,zfa 40 3 0,zld 41 40 1,zfa 42 3 0,zld 43 42 1,zle 44 43,zbi 45 .sub 44 (zki 1),zia 46 41 45 ctOp,zfa 47 46 2,zld 48 47 1,zfa 49 3 0,zld 50 49 1,zfa 51 3 0,zld 52 51 1,zle 53 52,zbi 54 .sub 53 (zki 1),zia 55 50 54 ctOp,zfa 56 55 2,zld 57 56 1,zop 58 (.build (z0s ctOp) [(0,1,(zki 3)),(1,1,48),(2,1,57)]),zop 59 (.bsl 69 ctOp [58]),zop 60 (.app 39 59 69 ctOp),zfa 61 3 0,zst 61 60 1] [(0,21),(1,21)]))])
def QxB:List (Nat × Md):=[(0,.b [.d,.d,.d]),(2,.b [.d]),(3,.b [.f])]
def Qvy:TCode :=
 (zsq [(.reg [zLd 62 3 1,zst 2 62 1]),.ret])
def QVO:TCode :=
 (zsq [(.reg [zop 2 (.new 26 [(.n ctOp)])]),(.reg [zmv 5 0,zca 6 198 [5],zop 3 (.new 26 [(.n ctOp)]),zst 3 6 1]),(.reg [zmv 7 0,zfa 8 3 0,zld 9 8 1,zle 10 9,zca 11 108 [7,10],zmv 4 11]),(zsq [(.reg [zmv 12 0,zca 13 108 [12,(zki 16)]]),(.block 0 (zsq [(.reg [zbi 15 .eql 13 (zki 0),zmv 14 15]),(.cond 14 (.draw [zfa 16 3 0,zld 17 16 1,zmv 18 4,zmv 19 0,zca 20 201 [19],zia 21 17 18 ctOp,zst 21 20 4] [(0,4),(1,4)]) (zsq [(.reg [zbi 23 .eql 13 (zki 1),zmv 22 23]),(.cond 22 (.reg [zfa 24 3 0,zld 25 24 1,zmv 26 4,zop 27 (.slc 25 none (some 26) ctOp),zfa 28 3 0,zst 28 27 1]) (zsq [(.reg [zbi 30 .eql 13 (zki 2),zmv 29 30]),(.cond 29 (.block 1 (.loop QxB QEN)) .skip)]))]))]))]),Qvy])
def QwK:List (ARv × Md):=[(.l 2 1 true,.b [.d])]
def Qx9:Qb:=TQ 1 0 QwK K
def QMB:Qb:=Qseq (tawp QlQ 1 Qvy (Qx9 K)) (Qx9 K)
def QLq:Qb:=Qblk 0 (QMB K)
def QMD:Qb:=Qblk 1 (QLq K)
def QhF (c0:List Int) (c1:Int) (c2:Int) (m0:List TOp'):Prop:=Loop QlQ 1 QxB QEN (QMD K) ⟨[(0,(.p 0 0 0)),(2,(.p 1 0 0)),(3,(.p 3 0 0))],[(0,(.box [(zcs [(.int .u8)] c0),(zci c1),(zci c2)])),(1,(.box [(zcs ctOp ([]))])),(2,(.sl 69 ctOp true m0)),(3,(.box [(.r ctOp 2 0 m0.length)]))],4⟩
theorem QCh (c0:List Int) (c1:Int) (c2:Int) (m0:List TOp') (h :
 ((Zq (c0,c1,c2) (2:Int))∧(zif (decide (((m0.length:Nat):Int)<(w64 ((8:Int)+((Qp (c0,c1,c2) (2:Int)).1))))) ((((0:Int)≤w64 (((m0.length:Nat):Int)-(1:Int))∧Int.toNat (w64 (((m0.length:Nat):Int)-(1:Int)))<m0.length)∧(((0+(Int.toNat (w64 (((m0.length:Nat):Int)-(1:Int)))))<m0.length)∧(((0:Int)≤w64 (((m0.length:Nat):Int)-(1:Int))∧Int.toNat (w64 (((m0.length:Nat):Int)-(1:Int)))<m0.length)∧(((0+(Int.toNat (w64 (((m0.length:Nat):Int)-(1:Int)))))<m0.length)∧((m0.length=m0.length∨m0.length+1≤m0.length)∧m0.length+1≤big)))))∧(QhF K (((Qp (c0,c1,c2) (2:Int)).2).1) (((Qp (c0,c1,c2) (2:Int)).2).2.1) (((Qp (c0,c1,c2) (2:Int)).2).2.2) (List.take (m0.length+1) ((List.take m0.length m0)++([((3:Int),(gtd dOp m0 (0+(Int.toNat (w64 (((m0.length:Nat):Int)-(1:Int)))))).2.2.1,(gtd dOp m0 (0+(Int.toNat (w64 (((m0.length:Nat):Int)-(1:Int)))))).2.2.1,[])]))))) (K (J8 ((List.take m0.length (List.drop 0 m0)),((Qp (c0,c1,c2) (2:Int)).2))))))):QhF K c0 c1 c2 m0 :=
 Loop.of (by kernel_rfl) h
theorem QNa (c:((List Int) × Int × Int)) (h :
 let z1:=Qp ((ZC c).2) ((((ZC c).1).length:Nat):Int)
 let z2:=Qp (z1.2) (16:Int)
 ((QM c)∧((Zq ((ZC c).2) ((((ZC c).1).length:Nat):Int))∧((Zq (z1.2) (16:Int))∧(zif ((z2.1)==(0:Int)) (((QM (z2.2))∧(((0:Int)≤z1.1∧Int.toNat (z1.1)<((ZC c).1).length)∧((0+(Int.toNat (z1.1)))<((ZC c).1).length)))∧K (J8 ((List.take (((ZC c).1).length) (List.drop 0 (((ZC c).1).set (0+(Int.toNat (z1.1))) ((QfQ (z2.2)).1)))),((QfQ (z2.2)).2)))) (zif ((z2.1)==(1:Int)) (((0:Int)≤(0:Int)∧(0:Int)≤z1.1∧z1.1≤((((ZC c).1).length:Nat):Int))∧K (J8 ((List.take (Int.toNat (z1.1)-Int.toNat (0:Int)) (List.drop 0 ((ZC c).1))),(z2.2)))) (zif ((z2.1)==(2:Int)) (QhF K ((z2.2).1) ((z2.2).2.1) ((z2.2).2.2) (List.take (((ZC c).1).length) ((ZC c).1))) (K (J8 ((List.take (((ZC c).1).length) (List.drop 0 ((ZC c).1))),(z2.2))))))))))):Hold (tawp QlQ (1+0) QVO (TQ 1 0 QwK K) (Qg [(.bx [(.c (.sl [(.int .u8)]) c.1),(.c TI c.2.1),(.c TI c.2.2)])])) :=
 Hold.of (by kernel_rfl) h
theorem QVy (c:((List Int) × Int × Int)) (hp:QM c):∃ t:(List TOp') × (((List Int) × Int × Int)),(QdM c t)∧TCon Tryz.prog 144 [(.bx [(.c (.sl [(.int .u8)]) c.1),(.c TI c.2.1),(.c TI c.2.2)])] (J8 t):=by
 refine YT (tcx (n:=63) (sg:=Qqk.sg) Qm (TOk.cons QwR (TOk.cons Qak (TOk.cons QUa TOk.nil))) (by kernel_rfl) (by kernel_rfl) (QNa (fun r'=>∃ t,(QdM c t)∧r'=J8 t) c ?_))
 conv=>zeta
 have b1:=QC8 c hp
 generalize ZC c=r1 at b1 ⊢
 obtain ⟨k1,k2,k3⟩:=b1
 have k4:1≤r1.1.length:=by
  simp only [QU,Bool.and_eq_true,QT] at k1
  omega
 have b2:=Yq r1.2 r1.1.length k3
 generalize Qp r1.2 r1.1.length=r2 at b2 ⊢
 have h1:=b2.1
 have h2:=b2.2.1 (by omega)
 have b3:=(Yq r2.2 16 b2.2.2.2).2.2.2
 generalize Qp r2.2 16=r3 at b3 ⊢
 refine ⟨hp,k3,b2.2.2.2,fun _=>⟨⟨b3,⟨h1,by omega⟩,by omega⟩,Zg ⟨?_,(QYV _ b3).2⟩⟩,fun _=>⟨fun _=>⟨⟨by omega,by omega,by omega⟩,Zg ⟨?_,b3⟩⟩,fun _=>⟨fun _=>?_,fun _=>(Zg ⟨?_,b3⟩)⟩⟩⟩
 ·simp;omega
 ·simp;omega
 ·rw [List.take_length]
  have key:∀ (k:Nat) (c1 c2:Int) (c0:List Int) (m0:Zh),QM (c0,c1,c2)→1≤m0.length→m0.length+k=9→QhF (fun r'=>∃ t,(QdM c t)∧r'=J8 t) c0 c1 c2 m0:=by
   intro k
   induction k with
   | zero =>
    intro c1 c2 c0 m0 hc q1 q2
    have b:=Yq (c0,c1,c2) 2 hc
    have q3:=b.1
    have q4:=b.2.1 (by omega)
    refine QCh (fun r'=>∃ t,(QdM c t)∧r'=J8 t) _ _ _ _ ⟨hc,fun h=>?_,fun _=>(Zg ⟨?_,b.2.2.2⟩)⟩
    ·rw [Qr (x:=8+_) (by omega) (by omega)] at h
     simp at h;omega
    ·simp;omega
   | succ k ih =>
    intro c1 c2 c0 m0 hc q1 q2
    have b:=Yq (c0,c1,c2) 2 hc
    refine QCh (fun r'=>∃ t,(QdM c t)∧r'=J8 t) _ _ _ _ ⟨hc,fun _=>?_,fun _=>(Zg ⟨?_,b.2.2.2⟩)⟩
    ·rw [Qr (x:=(m0.length:Int)-1) (by omega) (by omega)]
     refine ⟨⟨⟨by omega,by omega⟩,by omega,⟨by omega,by omega⟩,by omega,.inl rfl,by rw [Q9];omega⟩,?_⟩
     rw [Q8]
     exact ih _ _ _ _ b.2.2.2 (by simp) (by simp;omega)
    ·simp;omega
  exact key (9-r1.1.length) _ _ _ _ b3 k4 (by omega)
 ·simp;omega
theorem QQM (c:((List Int) × Int × Int)) (hp:QM c):TCon Tryz.prog 144 [(.bx [(.c (.sl [(.int .u8)]) c.1),(.c TI c.2.1),(.c TI c.2.2)])] (J8 (QhI c)):=(Classical.epsilon_spec (QVy c hp)).2
theorem QTM:Qj Tryz.prog Qqk:=Qn fun x h=>QQM x.1 h
end
end Go.Proofs.YtjbdljkhbglnhaaGreat.Am

