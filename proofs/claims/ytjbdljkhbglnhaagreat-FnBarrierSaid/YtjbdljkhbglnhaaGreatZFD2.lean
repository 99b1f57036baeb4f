/- -/
import Derived.Test.YtjbdljkhbglnhaaGreatZFD1
import Derived.Test.YtjbdljkhbglnhaaGreatZFP4
namespace Go.Proofs.YtjbdljkhbglnhaaGreat.Am
open Go Go.RowKit Go.Proofs.YtjbdljkhbglnhaaGreat
set_option linter.all false
set_option maxHeartbeats 2000000
noncomputable section
variable (K:TRes→Prop)
def Qbf (t:Int × (((List Int) × Int × Int))):TRes:=⟨(zci t.1),[],[[(zcs [(.int .u8)] t.2.1),(zci t.2.2.1),(zci t.2.2.2)]],true,[]⟩
def QbB (x0:((List Int) × Int × Int)):Int × (((List Int) × Int × Int)):=Classical.epsilon fun t:Int × (((List Int) × Int × Int))=>(QiJ x0 t)∧TCon Tryz.prog 181 [(.bx [(.c (.sl [(.int .u8)]) x0.1),(.c TI x0.2.1),(.c TI x0.2.2)])] (Qbf t)
def Qlm:TRow:=Qh 181 [(.b [(.sl [(.int .u8)]),TI,TI])] fun x=>(some (QP x.1),Qbf (QbB x.1))
def QH0:List TRow:=[JT,Qcm]
def QMf:TCode :=
 (zsq [(.reg [zmv 2 (zki 0)]),(zsq [(.reg [zmv 3 0,zca 4 108 [3,(zki 12)]]),(.block 0 (zsq [(.reg [zbi 6 .eql 4 (zki 0),zmv 5 6]),(.cond 5 (zsq [(.reg [zmv 7 0,zop 8 (.bsl 3 [TI] [(zki 2147483647),(zki (-2147483647)),(zki 2147483646),(zki 1),(zki (-1)),(zki 0)]),zca 9 145 [7,8],zmv 2 9]),.ret]) (zsq [(.reg [zbi 11 .eql 4 (zki 1),zmv 10 11]),(.cond 10 (zsq [(.reg [zmv 12 0,zca 13 108 [12,(zki 4000)],zbi 14 .sub 13 (zki 2000),zbi 15 .mul 14 (zki 997),zmv 2 15]),.ret]) (zsq [(.reg [zbi 17 .eql 4 (zki 2),zmv 16 17]),(.cond 16 (zsq [(.reg [zmv 18 0,zca 19 108 [18,(zki 9)],zbi 20 .sub 19 (zki 4),zmv 2 20]),.ret]) .skip)]))]))]))]),(.reg [zmv 21 0,zca 22 108 [21,(zki 17)],zbi 23 .sub 22 (zki 8),zbi 24 .mul 23 (zki 65536),zmv 25 0,zop 26 (.bsl 3 [TI] [(zki 1),(zki 1),(zki 2),(zki 4),(zki 3)]),zca 27 145 [25,26],zbi 28 .quo 24 27,zmv 2 28]),.ret])
def Q1y:List (ARv × Md):=[(.t 2,.one .d)]
theorem QWn (c:((List Int) × Int × Int)) (h :
 ((Zr c (12:Int))∧(zif (((Qs c (12:Int)).1)==(0:Int)) ((Jg ((Qs c (12:Int)).2) ([(2147483647:Int),(-2147483647:Int),(2147483646:Int),(1:Int),(-1:Int),(0:Int)]))∧K (Qbf ((ZR ((Qs c (12:Int)).2) ([(2147483647:Int),(-2147483647:Int),(2147483646:Int),(1:Int),(-1:Int),(0:Int)])).1,((ZR ((Qs c (12:Int)).2) ([(2147483647:Int),(-2147483647:Int),(2147483646:Int),(1:Int),(-1:Int),(0:Int)])).2)))) (zif (((Qs c (12:Int)).1)==(1:Int)) ((Zr ((Qs c (12:Int)).2) (4000:Int))∧K (Qbf (w64 ((w64 (((Qs ((Qs c (12:Int)).2) (4000:Int)).1)-(2000:Int)))*(997:Int)),((Qs ((Qs c (12:Int)).2) (4000:Int)).2)))) (zif (((Qs c (12:Int)).1)==(2:Int)) ((Zr ((Qs c (12:Int)).2) (9:Int))∧K (Qbf (w64 (((Qs ((Qs c (12:Int)).2) (9:Int)).1)-(4:Int)),((Qs ((Qs c (12:Int)).2) (9:Int)).2)))) (((Zr ((Qs c (12:Int)).2) (17:Int))∧((Jg ((Qs ((Qs c (12:Int)).2) (17:Int)).2) ([(1:Int),(1:Int),(2:Int),(4:Int),(3:Int)]))∧(¬ ((ZR ((Qs ((Qs c (12:Int)).2) (17:Int)).2) ([(1:Int),(1:Int),(2:Int),(4:Int),(3:Int)])).1:Int)=0)))∧K (Qbf (w64 (Int.tdiv (w64 ((w64 (((Qs ((Qs c (12:Int)).2) (17:Int)).1)-(8:Int)))*(65536:Int))) ((ZR ((Qs ((Qs c (12:Int)).2) (17:Int)).2) ([(1:Int),(1:Int),(2:Int),(4:Int),(3:Int)])).1)),((ZR ((Qs ((Qs c (12:Int)).2) (17:Int)).2) ([(1:Int),(1:Int),(2:Int),(4:Int),(3:Int)])).2))))))))):Hold (tawp QH0 (1+0) QMf (TQ 1 0 Q1y K) (Qf [(.bx [(.c (.sl [(.int .u8)]) c.1),(.c TI c.2.1),(.c TI c.2.2)])])) :=
 Hold.of (by kernel_rfl) h
theorem Qvl (c:((List Int) × Int × Int)) (hp:QP c):∃ t:Int × (((List Int) × Int × Int)),(QiJ c t)∧TCon Tryz.prog 181 [(.bx [(.c (.sl [(.int .u8)]) c.1),(.c TI c.2.1),(.c TI c.2.2)])] (Qbf t):=by
 refine Y2 (tcx (n:=29) (sg:=Qlm.sg) Qj (TOk.cons Qax (TOk.cons Qew TOk.nil)) (by kernel_rfl) (by kernel_rfl) (QWn (fun r'=>∃ t,(QiJ c t)∧r'=Qbf t) c ?_))
 have b1:=Yq c 12 hp
 generalize Qs c 12=r at b1 ⊢
 have hc:QP r.2:=b1.2.2.2
 refine ⟨hp,fun _=>?_,fun _=>⟨fun _=>?_,fun _=>⟨fun _=>?_,fun _=>?_⟩⟩⟩
 ·have hpp:Jg r.2 [2147483647,-2147483647,2147483646,1,-1,0]:=⟨hc,by simp,by simp⟩
  have b2:=Qe1 _ _ hpp
  refine ⟨hpp,Zg ⟨?_,b2.2⟩⟩
  have b3:=b2.1
  simp only [List.mem_cons,List.not_mem_nil,or_false] at b3
  simp only [Zc,Bool.and_eq_true,decide_eq_true_eq]
  omega
 ·have b2:=Yq r.2 4000 hc
  refine ⟨hc,Zg ⟨?_,b2.2.2.2⟩⟩
  have h1:=b2.1
  have h2:=b2.2.1 (by omega)
  rw [Qq (x:=_-2000) (by omega) (by omega),Qq (by omega) (by omega)]
  simp only [Zc,Bool.and_eq_true,decide_eq_true_eq]
  omega
 ·have b2:=Yq r.2 9 hc
  refine ⟨hc,Zg ⟨?_,b2.2.2.2⟩⟩
  have h1:=b2.1
  have h2:=b2.2.1 (by omega)
  rw [Qq (by omega) (by omega)]
  simp only [Zc,Bool.and_eq_true,decide_eq_true_eq]
  omega
 ·have b2:=Yq r.2 17 hc
  have hpp:Jg (Qs r.2 17).2 [1,1,2,4,3]:=⟨b2.2.2.2,by simp,by simp⟩
  have b3:=Qe1 _ _ hpp
  have b4:=b3.1
  simp only [List.mem_cons,List.not_mem_nil,or_false] at b4
  have h1:=b2.1
  have h2:=b2.2.1 (by omega)
  refine ⟨⟨hc,hpp,by omega⟩,Zg ⟨?_,b3.2⟩⟩
  have h3:=QQF (a:=((Qs r.2 17).1-8)*65536) (b:=(ZR (Qs r.2 17).2 [1,1,2,4,3]).1) (B:=1000000) (by omega) (by omega) (by omega)
  rw [Qq (x:=_-8) (by omega) (by omega),Qq (x:=_*65536) (by omega) (by omega),Qq (by omega) (by omega)]
  simp only [Zc,Bool.and_eq_true,decide_eq_true_eq]
  omega
theorem QtL (c:((List Int) × Int × Int)) (hp:QP c):QiJ c (QbB c):=(Classical.epsilon_spec (Qvl c hp)).1
theorem QHG (c:((List Int) × Int × Int)) (hp:QP c):TCon Tryz.prog 181 [(.bx [(.c (.sl [(.int .u8)]) c.1),(.c TI c.2.1),(.c TI c.2.2)])] (Qbf (QbB c)):=(Classical.epsilon_spec (Qvl c hp)).2
theorem Que:Qg Tryz.prog Qlm:=Qk fun x h=>QHG x.1 h
def QdN (t:Int × (((List Int) × Int × Int))):TRes:=⟨(zci t.1),[],[[(zcs [(.int .u8)] t.2.1),(zci t.2.2.1),(zci t.2.2.2)]],true,[]⟩
def QdR (x0:((List Int) × Int × Int)):Int × (((List Int) × Int × Int)):=Classical.epsilon fun t:Int × (((List Int) × Int × Int))=>(Qhv x0 t)∧TCon Tryz.prog 182 [(.bx [(.c (.sl [(.int .u8)]) x0.1),(.c TI x0.2.1),(.c TI x0.2.2)])] (QdN t)
def Qg8:TRow:=Qh 182 [(.b [(.sl [(.int .u8)]),TI,TI])] fun x=>(some (QP x.1),QdN (QdR x.1))
def Q23:List TRow:=[Qgx,Qcm,Qlm]
def QI0:TCode :=
 (zsq [(.reg [zmv 2 (zki 0)]),(zsq [(.reg [zmv 3 0,zca 4 106 [3,(zki 8)]]),(.cond 4 (zsq [(.reg [zmv 5 0,zop 6 (.bsl 3 [TI] [(zki 2147483648),(zki (-2147483648)),(zki 9223372036854775807),(zki (-9223372036854775807))]),zca 7 145 [5,6],zmv 2 7]),.ret]) .skip)]),(.reg [zmv 8 0,zca 9 181 [8],zmv 2 9]),.ret])
def Q1z:List (ARv × Md):=[(.t 2,.one .d)]
theorem QX2 (c:((List Int) × Int × Int)) (h :
 ((Zr c (8:Int))∧(zif ((Z0 c (8:Int)).1) ((Jg ((Z0 c (8:Int)).2) ([(2147483648:Int),(-2147483648:Int),(9223372036854775807:Int),(-9223372036854775807:Int)]))∧K (QdN ((ZR ((Z0 c (8:Int)).2) ([(2147483648:Int),(-2147483648:Int),(9223372036854775807:Int),(-9223372036854775807:Int)])).1,((ZR ((Z0 c (8:Int)).2) ([(2147483648:Int),(-2147483648:Int),(9223372036854775807:Int),(-9223372036854775807:Int)])).2)))) ((QP ((Z0 c (8:Int)).2))∧K (QdN ((QbB ((Z0 c (8:Int)).2)).1,((QbB ((Z0 c (8:Int)).2)).2))))))):Hold (tawp Q23 (1+0) QI0 (TQ 1 0 Q1z K) (Qf [(.bx [(.c (.sl [(.int .u8)]) c.1),(.c TI c.2.1),(.c TI c.2.2)])])) :=
 Hold.of (by kernel_rfl) h
theorem QCV (c:((List Int) × Int × Int)) (hp:QP c):∃ t:Int × (((List Int) × Int × Int)),(Qhv c t)∧TCon Tryz.prog 182 [(.bx [(.c (.sl [(.int .u8)]) c.1),(.c TI c.2.1),(.c TI c.2.2)])] (QdN t):=by
 refine Y2 (tcx (n:=10) (sg:=Qg8.sg) Qj (TOk.cons QrP (TOk.cons Qew (TOk.cons Que TOk.nil))) (by kernel_rfl) (by kernel_rfl) (QX2 (fun r'=>∃ t,(Qhv c t)∧r'=QdN t) c ?_))
 have b1:=QlZ c 8 hp
 generalize Z0 c 8=r at b1 ⊢
 have hpp:Jg r.2 [2147483648,-2147483648,9223372036854775807,-9223372036854775807]:=⟨b1,by simp,by simp⟩
 exact ⟨hp,fun _=>⟨hpp,Zg ((Qe1 _ _ hpp).2)⟩,fun _=>⟨b1,Zg ((QtL _ b1).2)⟩⟩
theorem Qte (c:((List Int) × Int × Int)) (hp:QP c):Qhv c (QdR c):=(Classical.epsilon_spec (QCV c hp)).1
theorem QU5 (c:((List Int) × Int × Int)) (hp:QP c):TCon Tryz.prog 182 [(.bx [(.c (.sl [(.int .u8)]) c.1),(.c TI c.2.1),(.c TI c.2.2)])] (QdN (QdR c)):=(Classical.epsilon_spec (QCV c hp)).2
theorem QAM:Qg Tryz.prog Qg8:=Qk fun x h=>QU5 x.1 h
def Qbj (t:(List Int) × (((List Int) × Int × Int))):TRes:=⟨(.r [TI] 0 0 ((t.1).length)),[(.sl 3 [TI] true t.1)],[[(zcs [(.int .u8)] t.2.1),(zci t.2.2.1),(zci t.2.2.2)]],true,[]⟩
def YB (x0:((List Int) × Int × Int)) (x1:Int):(List Int) × (((List Int) × Int × Int)):=Classical.epsilon fun t:(List Int) × (((List Int) × Int × Int))=>(QcJ x0 x1 t)∧TCon Tryz.prog 105 [(.bx [(.c (.sl [(.int .u8)]) x0.1),(.c TI x0.2.1),(.c TI x0.2.2)]),(.c TI x1)] (Qbj t)
def QfE:TRow:=Qh 105 [(.b [(.sl [(.int .u8)]),TI,TI]),(.c TI)] fun x=>(some (JL x.1 x.2.1),Qbj (YB x.1 x.2.1))
def QqO:List TRow:=[Qlm]
def QCr:TCode :=
 (zsq [(zsq [(.reg [zmv 8 6,zmv 9 1,zbi 10 .lss 8 9]),(.cond 10 .skip (.exit 0))]),(.block 1 (.reg [zmv 13 5,zmv 14 0,zca 15 181 [14],zop 16 (.bsl 3 [TI] [15]),zop 17 (.app 13 16 3 [TI]),zmv 5 17])),(.reg [zmv 11 6,zbi 12 .add 11 (zki 1),zmv 6 12])])
def Qzg:List (Nat × Md):=[(0,.b [.d,.d,.d]),(1,.one .d),(5,.one .f),(6,.one .d)]
def QAr:TCode :=
 (zsq [(.reg [zmv 18 5,zmv 4 18]),.ret])
def QSv:TCode :=
 (zsq [(.reg [zmv 4 (.k (.n [TI]))]),(.reg [zop 7 (.bsl 3 [TI] []),zmv 5 7]),(zsq [(.reg [zmv 6 (zki 0)]),(.block 0 (.loop Qzg QCr))]),QAr])
def QvD:List (ARv × Md):=[(.t 4,.one (.o 3))]
def QBM:Qb:=TQ 1 0 QvD K
def QM1:Qb:=Qseq (tawp QqO 1 QAr (QBM K)) (QBM K)
def Q2E:Qb:=Qblk 0 (QM1 K)
def Qk7 (n:Int) (i:Int) (c0:List Int) (c1:Int) (c2:Int) (out:List Int):Prop:=Loop QqO 1 Qzg QCr (Q2E K) ⟨[(0,(.p 0 0 0)),(1,(zci n)),(5,(.r [TI] 1 0 out.length)),(6,(zci i))],[(0,(.box [(zcs [(.int .u8)] c0),(zci c1),(zci c2)])),(1,(.sl 3 [TI] true out))],2⟩
theorem QE7 (n:Int) (i:Int) (c0:List Int) (c1:Int) (c2:Int) (out:List Int) (h :
 (zif (decide (i<n)) (((QP (c0,c1,c2))∧((out.length=out.length∨out.length+1≤out.length)∧out.length+1≤big))∧(Qk7 K n (w64 (i+(1:Int))) (((QbB (c0,c1,c2)).2).1) (((QbB (c0,c1,c2)).2).2.1) (((QbB (c0,c1,c2)).2).2.2) (List.take (out.length+1) ((List.take out.length out)++([(QbB (c0,c1,c2)).1]))))) (K (Qbj ((List.take out.length out),(c0,c1,c2)))))):Qk7 K n i c0 c1 c2 out :=
 Loop.of (by kernel_rfl) h
theorem QVb (c:((List Int) × Int × Int)) (n:Int) (h :
 (Qk7 K n 0 c.1 c.2.1 c.2.2 ([]:List Int))):Hold (tawp QqO (1+0) QSv (TQ 1 0 QvD K) (Qf [(.bx [(.c (.sl [(.int .u8)]) c.1),(.c TI c.2.1),(.c TI c.2.2)]),(.c TI n)])) :=
 Hold.of (by kernel_rfl) h
theorem QDy (c:((List Int) × Int × Int)) (n:Int) (hp:JL c n):∃ t:(List Int) × (((List Int) × Int × Int)),(QcJ c n t)∧TCon Tryz.prog 105 [(.bx [(.c (.sl [(.int .u8)]) c.1),(.c TI c.2.1),(.c TI c.2.2)]),(.c TI n)] (Qbj t):=by
 refine Y2 (tcx (n:=19) (sg:=QfE.sg) Qj (TOk.cons Que TOk.nil) (by kernel_rfl) (by kernel_rfl) (QVb (fun r'=>∃ t,(QcJ c n t)∧r'=Qbj t) c n ?_))
 obtain ⟨h1,h2⟩:=hp
 refine Y7 n.toNat (fun k=>∀ (c0:List Int) (c1 c2:Int) (out:List Int),out.length=k→ZE out=true→QP (c0,c1,c2)→Qk7 (fun r'=>∃ t,(QcJ c n t)∧r'=Qbj t) n (k:Int) c0 c1 c2 out) ?_ ?_ c.1 c.2.1 c.2.2 [] rfl rfl h1
 ·intro c0 c1 c2 out hl hf hc
  refine QE7 (fun r'=>∃ t,(QcJ c n t)∧r'=Qbj t) n _ _ _ _ _ ⟨fun h=>by simp at h;omega,fun _=>(Zg ⟨?_,?_,hc⟩)⟩
  ·simp;omega
  ·simp only [List.take_length];exact hf
 ·intro k hk ih c0 c1 c2 out hl hf hc
  have b:=QtL (c0,c1,c2) hc
  refine QE7 (fun r'=>∃ t,(QcJ c n t)∧r'=Qbj t) n _ _ _ _ _ ⟨fun _=>⟨⟨hc,.inl rfl,by rw [Q1];omega⟩,?_⟩,fun h=>by simp at h;omega⟩
  rw [sc1 (by omega),Q7]
  exact ih _ _ _ _ (by simp;omega) (QQx hf b.1) b.2
theorem QfT (c:((List Int) × Int × Int)) (n:Int) (hp:JL c n):QcJ c n (YB c n):=(Classical.epsilon_spec (QDy c n hp)).1
theorem QUI (c:((List Int) × Int × Int)) (n:Int) (hp:JL c n):TCon Tryz.prog 105 [(.bx [(.c (.sl [(.int .u8)]) c.1),(.c TI c.2.1),(.c TI c.2.2)]),(.c TI n)] (Qbj (YB c n)):=(Classical.epsilon_spec (QDy c n hp)).2
theorem Qn0:Qg Tryz.prog QfE:=Qk fun x h=>QUI x.1 x.2.1 h
def Qb3 (t:(List Int) × (((List Int) × Int × Int))):TRes:=⟨(zcs [TI] t.1),[],[[(zcs [(.int .u8)] t.2.1),(zci t.2.2.1),(zci t.2.2.2)]],true,[]⟩
def Qf0 (x0:((List Int) × Int × Int)):(List Int) × (((List Int) × Int × Int)):=Classical.epsilon fun t:(List Int) × (((List Int) × Int × Int))=>(Qj1 x0 t)∧TCon Tryz.prog 107 [(.bx [(.c (.sl [(.int .u8)]) x0.1),(.c TI x0.2.1),(.c TI x0.2.2)])] (Qb3 t)
def Qnc:TRow:=Qh 107 [(.b [(.sl [(.int .u8)]),TI,TI])] fun x=>(some (QP x.1),Qb3 (Qf0 x.1))
def QZw:List TRow:=[JT,QfE,Qg8,Qcm]
def Q0C:TCode :=
 (zsq [(.reg [zmv 2 (.k (.n [TI]))]),(.reg [zmv 4 0,zmv 5 0,zca 6 108 [5,(zki 4)],zbi 7 .add (zki 1) 6,zca 8 105 [4,7],zmv 3 8]),(zsq [(.reg [zmv 9 0,zca 10 108 [9,(zki 16)]]),(.block 0 (zsq [(.reg [zbi 12 .eql 10 (zki 0),zmv 11 12]),(.cond 11 (.reg [zmv 13 3,zmv 14 0,zca 15 182 [14],zia 16 13 (zki 0) [TI],zst 16 15 1]) (zsq [(.reg [zbi 18 .eql 10 (zki 1),zmv 17 18]),(.cond 17 (zsq [(.reg [zmv 19 0,zmv 20 0,zop 21 (.bsl 3 [TI] [(zki 0),(zki 6),(zki 7)]),zca 22 145 [20,21],zca 23 105 [19,22],zmv 2 23]),.ret]) .skip)]))]))]),(.reg [zmv 24 3,zmv 2 24]),.ret])
def QPi:List (ARv × Md):=[(.t 2,.one .d)]
theorem QO3 (c:((List Int) × Int × Int)) (h :
 let z3:=Qs c (4:Int)
 let z1:=YB (z3.2) (w64 ((1:Int)+(z3.1)))
 let z2:=Qs (z1.2) (16:Int)
 (((Zr c (4:Int))∧(JL (z3.2) (w64 ((1:Int)+(z3.1)))))∧((Zr (z1.2) (16:Int))∧(zif ((z2.1)==(0:Int)) (((QP (z2.2))∧(((0:Int)≤(0:Int)∧Int.toNat (0:Int)<(z1.1).length)∧((0+(Int.toNat (0:Int)))<(z1.1).length)))∧K (Qb3 ((List.take ((z1.1).length) (List.drop 0 ((z1.1).set (0+(Int.toNat (0:Int))) ((QdR (z2.2)).1)))),((QdR (z2.2)).2)))) (zif ((z2.1)==(1:Int)) (((Jg (z2.2) ([(0:Int),(6:Int),(7:Int)]))∧(JL ((ZR (z2.2) ([(0:Int),(6:Int),(7:Int)])).2) ((ZR (z2.2) ([(0:Int),(6:Int),(7:Int)])).1)))∧K (Qb3 ((List.take (((YB ((ZR (z2.2) ([(0:Int),(6:Int),(7:Int)])).2) ((ZR (z2.2) ([(0:Int),(6:Int),(7:Int)])).1)).1).length) (List.drop 0 ((YB ((ZR (z2.2) ([(0:Int),(6:Int),(7:Int)])).2) ((ZR (z2.2) ([(0:Int),(6:Int),(7:Int)])).1)).1))),((YB ((ZR (z2.2) ([(0:Int),(6:Int),(7:Int)])).2) ((ZR (z2.2) ([(0:Int),(6:Int),(7:Int)])).1)).2)))) (K (Qb3 ((List.take ((z1.1).length) (List.drop 0 (z1.1))),(z2.2))))))))):Hold (tawp QZw (1+0) Q0C (TQ 1 0 QPi K) (Qf [(.bx [(.c (.sl [(.int .u8)]) c.1),(.c TI c.2.1),(.c TI c.2.2)])])) :=
 Hold.of (by kernel_rfl) h
theorem QvA (c:((List Int) × Int × Int)) (hp:QP c):∃ t:(List Int) × (((List Int) × Int × Int)),(Qj1 c t)∧TCon Tryz.prog 107 [(.bx [(.c (.sl [(.int .u8)]) c.1),(.c TI c.2.1),(.c TI c.2.2)])] (Qb3 t):=by
 refine Y2 (tcx (n:=25) (sg:=Qnc.sg) Qj (TOk.cons Qax (TOk.cons Qn0 (TOk.cons QAM (TOk.cons Qew TOk.nil)))) (by kernel_rfl) (by kernel_rfl) (QO3 (fun r'=>∃ t,(Qj1 c t)∧r'=Qb3 t) c ?_))
 conv=>zeta
 have b1:=Yq c 4 hp
 generalize Qs c 4=r1 at b1 ⊢
 have h1:=b1.1
 have h2:=b1.2.1 (by omega)
 rw [Qq (x:=1+r1.1) (by omega) (by omega)]
 have hv:JL r1.2 (1+r1.1):=⟨b1.2.2.2,by omega⟩
 have b2:=QfT _ _ hv
 generalize YB r1.2 (1+r1.1)=r2 at b2 ⊢
 have b3:=Yq r2.2 16 b2.2.2
 generalize Qs r2.2 16=r3 at b3 ⊢
 have hc:=b3.2.2.2
 have hl:=b2.1
 have hpk:Jg r3.2 [0,6,7]:=⟨hc,by simp,by simp⟩
 have b4:=Qe1 _ _ hpk
 have b5:=b4.1
 simp only [List.mem_cons,List.not_mem_nil,or_false] at b5
 have hv2:JL (ZR r3.2 [0,6,7]).2 (ZR r3.2 [0,6,7]).1:=⟨b4.2,by omega⟩
 have b6:=QfT _ _ hv2
 have hl2:=b6.1
 refine ⟨⟨hp,hv⟩,b2.2.2,fun _=>⟨⟨hc,⟨by omega,?_⟩,?_⟩,Zg ⟨?_,Qte _ hc⟩⟩,fun _=>⟨fun _=>⟨⟨hpk,hv2⟩,Zg ⟨?_,b6.2.2⟩⟩,fun _=>(Zg ⟨?_,hc⟩)⟩⟩ <;> (simp;omega)
theorem QKU (c:((List Int) × Int × Int)) (hp:QP c):Qj1 c (Qf0 c):=(Classical.epsilon_spec (QvA c hp)).1
theorem QYF (c:((List Int) × Int × Int)) (hp:QP c):TCon Tryz.prog 107 [(.bx [(.c (.sl [(.int .u8)]) c.1),(.c TI c.2.1),(.c TI c.2.2)])] (Qb3 (Qf0 c)):=(Classical.epsilon_spec (QvA c hp)).2
theorem QY5:Qg Tryz.prog Qnc:=Qk fun x h=>QYF x.1 h
def Qcv (t:TOp' × (((List Int) × Int × Int))):TRes:=⟨(.a [(zci t.1.1),(zci t.1.2.1),(zci t.1.2.2.1),(.r [TI] 0 0 ((t.1.2.2.2).length))]),[(.sl 3 [TI] true t.1.2.2.2)],[[(zcs [(.int .u8)] t.2.1),(zci t.2.2.1),(zci t.2.2.2)]],true,[]⟩
def e_op (x0:((List Int) × Int × Int)) (x1:Int):TOp' × (((List Int) × Int × Int)):=Classical.epsilon fun t:TOp' × (((List Int) × Int × Int))=>(q_op x0 x1 t)∧TCon Tryz.prog 223 [(.bx [(.c (.sl [(.int .u8)]) x0.1),(.c TI x0.2.1),(.c TI x0.2.2)]),(.c TI x1)] (Qcv t)
def Qh5:TRow:=Qh 223 [(.b [(.sl [(.int .u8)]),TI,TI]),(.c TI)] fun x=>(some (p_op x.1 x.2.1),Qcv (e_op x.1 x.2.1))
def Qzt:List TRow:=[JT,QiM,QfE]
def Qto:TCode :=
 (zsq [(.reg [zmv 19 0,zLd 20 5 4,zca 21 202 [20],zca 22 105 [19,21],zfa 23 5 3,zst 23 22 1]),(.reg [zLd 24 5 4,zst 4 24 4]),.ret])
def QH1:List (Nat × Md):=[(0,.b [.d,.d,.d]),(4,.b (zds 4)),(5,.b (zds 4))]
def QPj:TCode:=.wk QH1 Qto
def QS3:TCode :=
 (zsq [(.reg [zop 4 (.new 69 (z0s ctOp))]),(.reg [zmv 6 0,zca 7 108 [6,(zki 5)],zbi 8 .add (zki 1) 7,zmv 9 1,zmv 10 1,zop 11 (.build (z0s ctOp) [(0,1,8),(1,1,9),(2,1,10)]),zop 5 (.new 69 (z0s ctOp)),zst 5 11 4]),(zsq [(.reg [zfa 12 5 0,zld 13 12 1,zbi 14 .eql 13 (zki 1)]),(.cond 14 (.reg [zmv 15 0,zca 16 108 [15,(zki 3)],zbi 17 .add (zki 1) 16,zfa 18 5 2,zst 18 17 1]) .skip)]),QPj])
def QzP:List (ARv × Md):=[(.l 4 4 true,.b [.d,.d,.d,.o 3])]
def QYw:Qb:=TQ 1 0 QzP K
def QjJ (c:((List Int) × Int × Int)) (inn:Int) (c0:List Int) (c1:Int) (c2:Int) (o2:Int):Prop:=tawp Qzt 1 Qto (QYw K) ⟨[(0,(.p 0 0 0)),(4,(.p 1 0 0)),(5,(.p 2 0 0))],[(0,(.box [(zcs [(.int .u8)] c0),(zci c1),(zci c2)])),(1,(.box (Tup.cells ctOp ((0:Int),(0:Int),(0:Int),[])))),(2,(.box (Tup.cells ctOp (w64 ((1:Int)+((Qs c (5:Int)).1)),inn,o2,[]))))],3⟩
theorem QSJ (c:((List Int) × Int × Int)) (inn:Int) (c0:List Int) (c1:Int) (c2:Int) (o2:Int) (h :
 ((JL (c0,c1,c2) (Yp (w64 ((1:Int)+((Qs c (5:Int)).1)),inn,o2,[])))∧K (Qcv ((w64 ((1:Int)+((Qs c (5:Int)).1)),inn,o2,(List.take (((YB (c0,c1,c2) (Yp (w64 ((1:Int)+((Qs c (5:Int)).1)),inn,o2,[]))).1).length) ((YB (c0,c1,c2) (Yp (w64 ((1:Int)+((Qs c (5:Int)).1)),inn,o2,[]))).1))),((YB (c0,c1,c2) (Yp (w64 ((1:Int)+((Qs c (5:Int)).1)),inn,o2,[]))).2))))):Hold (QjJ K c inn c0 c1 c2 o2) :=
 Hold.of (by kernel_rfl) h
theorem QOn (c:((List Int) × Int × Int)) (inn:Int) (h :
 ((Zr c (5:Int))∧(zif ((w64 ((1:Int)+((Qs c (5:Int)).1)))==(1:Int)) ((Zr ((Qs c (5:Int)).2) (3:Int))∧(QjJ K c inn (((Qs ((Qs c (5:Int)).2) (3:Int)).2).1) (((Qs ((Qs c (5:Int)).2) (3:Int)).2).2.1) (((Qs ((Qs c (5:Int)).2) (3:Int)).2).2.2) (w64 ((1:Int)+((Qs ((Qs c (5:Int)).2) (3:Int)).1))))) (QjJ K c inn (((Qs c (5:Int)).2).1) (((Qs c (5:Int)).2).2.1) (((Qs c (5:Int)).2).2.2) inn)))):Hold (tawp Qzt (1+0) QS3 (TQ 1 0 QzP K) (Qf [(.bx [(.c (.sl [(.int .u8)]) c.1),(.c TI c.2.1),(.c TI c.2.2)]),(.c TI inn)])) :=
 Hold.of (by kernel_rfl) h
theorem Qud (c:((List Int) × Int × Int)) (inn:Int) (hp:p_op c inn):∃ t:TOp' × (((List Int) × Int × Int)),(q_op c inn t)∧TCon Tryz.prog 223 [(.bx [(.c (.sl [(.int .u8)]) c.1),(.c TI c.2.1),(.c TI c.2.2)]),(.c TI inn)] (Qcv t):=by
 refine Y2 (tcx (n:=25) (sg:=Qh5.sg) Qj (TOk.cons Qax (TOk.cons Qwa (TOk.cons Qn0 TOk.nil))) (by kernel_rfl) (by kernel_rfl) (QOn (fun r'=>∃ t,(q_op c inn t)∧r'=Qcv t) c inn ?_))
 have b1:=Yq c 5 hp.1
 have h1:=b1.1
 have h2:=b1.2.1 (by omega)
 obtain ⟨_,h3,h4⟩:=hp
 have hw:w64 (1+(Qs c 5).1)=1+(Qs c 5).1:=Qq (by omega) (by omega)
 have key:∀ c0 c1 c2 o2,QP (c0,c1,c2)→1≤o2→o2≤3→(1+(Qs c 5).1=1∨inn=o2)→QjJ (fun r'=>∃ t,(q_op c inn t)∧r'=Qcv t) c inn c0 c1 c2 o2:=by
  intro c0 c1 c2 o2 hc k1 k2 k3
  refine (QSJ (fun r'=>∃ t,(q_op c inn t)∧r'=Qcv t) c inn c0 c1 c2 o2 ?_).h
  rw [hw]
  have h5:1≤1+(Qs c 5).1:=by omega
  have h6:1+(Qs c 5).1≤5:=by omega
  generalize 1+(Qs c 5).1=o1 at h5 h6 k3 ⊢
  have hs:=QFb o1 [] h3 h4 k1 k2
  have hv:JL (c0,c1,c2) (Yp (o1,inn,o2,[])):=⟨hc,by omega⟩
  have b:=QfT _ _ hv
  have hl:=b.1
  refine ⟨hv,Zg ⟨?_,rfl,k1,k2,?_,b.2.2⟩⟩
  ·simp only [List.take_length]
   exact QYG h5 h6 h3 h4 k1 k2 k3 hl b.2.1
  ·simp;omega
 have b2:=Yq (Qs c 5).2 3 b1.2.2.2
 have h7:=b2.1
 have h8:=b2.2.1 (by omega)
 rw [hw] at *
 refine ⟨‹QP c›,fun h=>⟨b1.2.2.2,?_⟩,fun _=>key _ _ _ _ b1.2.2.2 h3 h4 (.inr rfl)⟩
 rw [Qq (x:=1+(Qs (Qs c 5).2 3).1) (by omega) (by omega)]
 exact key _ _ _ _ b2.2.2.2 (by omega) (by omega) (.inl (by simpa using h))
theorem QwA (c:((List Int) × Int × Int)) (inn:Int) (hp:p_op c inn):q_op c inn (e_op c inn):=(Classical.epsilon_spec (Qud c inn hp)).1
theorem QV7 (c:((List Int) × Int × Int)) (inn:Int) (hp:p_op c inn):TCon Tryz.prog 223 [(.bx [(.c (.sl [(.int .u8)]) c.1),(.c TI c.2.1),(.c TI c.2.2)]),(.c TI inn)] (Qcv (e_op c inn)):=(Classical.epsilon_spec (Qud c inn hp)).2
theorem QFZ:Qg Tryz.prog Qh5:=Qk fun x h=>QV7 x.1 x.2.1 h
def QaI (t:TOp' × (((List Int) × Int × Int))):TRes:=⟨(.a (Tup.cells ctOp t.1)),[],[[(zcs [(.int .u8)] t.2.1),(zci t.2.2.1),(zci t.2.2.2)]],true,[]⟩
def QgI (x0:((List Int) × Int × Int)):TOp' × (((List Int) × Int × Int)):=Classical.epsilon fun t:TOp' × (((List Int) × Int × Int))=>(Qkc x0 t)∧TCon Tryz.prog 201 [(.bx [(.c (.sl [(.int .u8)]) x0.1),(.c TI x0.2.1),(.c TI x0.2.2)])] (QaI t)
def Qoo:TRow:=Qh 201 [(.b [(.sl [(.int .u8)]),TI,TI])] fun x=>(some (QP x.1),QaI (QgI x.1))
def QZb:List TRow:=[JT,Qh5,Qcm,Qg8]
def QWy:TCode :=
 (zsq [(.reg [zop 2 (.new 69 (z0s ctOp))]),(.reg [zmv 4 0,zmv 5 0,zca 6 108 [5,(zki 3)],zbi 7 .add (zki 1) 6,zca 8 223 [4,7],zop 3 (.new 69 (z0s ctOp)),zst 3 8 4]),(zsq [(.reg [zmv 9 0,zca 10 108 [9,(zki 14)]]),(.block 0 (zsq [(.reg [zbi 12 .eql 10 (zki 0),zmv 11 12]),(.cond 11 (.reg [zmv 13 0,zca 14 108 [13,(zki 8)],zbi 15 .sub 14 (zki 1),zfa 16 3 0,zst 16 15 1]) (zsq [(.reg [zbi 18 .eql 10 (zki 1),zmv 17 18]),(.cond 17 (.reg [zmv 19 0,zfa 20 3 1,zld 21 20 1,zbi 22 .add 21 (zki 1),zop 23 (.bsl 3 [TI] [(zki 0),(zki 7),22]),zca 24 145 [19,23],zfa 25 3 1,zst 25 24 1]) (zsq [(.reg [zbi 27 .eql 10 (zki 2),zmv 26 27]),(.cond 26 (.reg [zfa 28 3 3,zld 29 28 1,zop 30 (.bsl 3 [TI] [(zki 0)]),zop 31 (.app 29 30 3 [TI]),zfa 32 3 3,zst 32 31 1]) (zsq [(.reg [zbi 34 .eql 10 (zki 3),zmv 33 34]),(.cond 33 (zsq [(.reg [zfa 35 3 3,zld 36 35 1,zle 37 36,zbi 38 .gtr 37 (zki 0)]),(.cond 38 (.draw [zfa 39 3 3,zld 40 39 1,zmv 41 0,zca 42 182 [41],zia 43 40 (zki 0) [TI],zst 43 42 1] [(0,3),(1,3)]) .skip)]) .skip)]))]))]))]))]),(.reg [zLd 44 3 4,zst 2 44 4]),.ret])
def QNB:List (ARv × Md):=[(.l 2 4 true,.b (zds 4))]
theorem Q2V (c:((List Int) × Int × Int)) (h :
 let z4:=Qs c (3:Int)
 let z1:=e_op (z4.2) (w64 ((1:Int)+(z4.1)))
 let z2:=Qs (z1.2) (14:Int)
 let z3:=List.take (((z1.1).2.2.2).length) (List.drop 0 ((z1.1).2.2.2))
 (((Zr c (3:Int))∧(p_op (z4.2) (w64 ((1:Int)+(z4.1)))))∧((Zr (z1.2) (14:Int))∧(zif ((z2.1)==(0:Int)) ((Zr (z2.2) (8:Int))∧K (QaI ((w64 (((Qs (z2.2) (8:Int)).1)-(1:Int)),(z1.1).2.1,(z1.1).2.2.1,z3),((Qs (z2.2) (8:Int)).2)))) (zif ((z2.1)==(1:Int)) ((Jg (z2.2) ([(0:Int),(7:Int),w64 (((z1.1).2.1)+(1:Int))]))∧K (QaI (((z1.1).1,(ZR (z2.2) ([(0:Int),(7:Int),w64 (((z1.1).2.1)+(1:Int))])).1,(z1.1).2.2.1,z3),((ZR (z2.2) ([(0:Int),(7:Int),w64 (((z1.1).2.1)+(1:Int))])).2)))) (zif ((z2.1)==(2:Int)) (((((z1.1).2.2.2).length=((z1.1).2.2.2).length∨((z1.1).2.2.2).length+1≤((z1.1).2.2.2).length)∧((z1.1).2.2.2).length+1≤big)∧K (QaI (((z1.1).1,(z1.1).2.1,(z1.1).2.2.1,(List.take (((z1.1).2.2.2).length+1) (List.drop 0 ((List.take (((z1.1).2.2.2).length) ((z1.1).2.2.2))++([(0:Int)]))))),(z2.2)))) (zif ((z2.1)==(3:Int)) (zif (decide (((((z1.1).2.2.2).length:Nat):Int)>(0:Int))) (((QP (z2.2))∧(((0:Int)≤(0:Int)∧Int.toNat (0:Int)<((z1.1).2.2.2).length)∧((0+(Int.toNat (0:Int)))<((z1.1).2.2.2).length)))∧K (QaI (((z1.1).1,(z1.1).2.1,(z1.1).2.2.1,(List.take (((z1.1).2.2.2).length) (List.drop 0 (((z1.1).2.2.2).set (0+(Int.toNat (0:Int))) ((QdR (z2.2)).1))))),((QdR (z2.2)).2)))) (K (QaI (((z1.1).1,(z1.1).2.1,(z1.1).2.2.1,z3),(z2.2))))) (K (QaI (((z1.1).1,(z1.1).2.1,(z1.1).2.2.1,z3),(z2.2))))))))))):Hold (tawp QZb (1+0) QWy (TQ 1 0 QNB K) (Qf [(.bx [(.c (.sl [(.int .u8)]) c.1),(.c TI c.2.1),(.c TI c.2.2)])])) :=
 Hold.of (by kernel_rfl) h
theorem Qxa (c:((List Int) × Int × Int)) (hp:QP c):∃ t:TOp' × (((List Int) × Int × Int)),(Qkc c t)∧TCon Tryz.prog 201 [(.bx [(.c (.sl [(.int .u8)]) c.1),(.c TI c.2.1),(.c TI c.2.2)])] (QaI t):=by
 refine Y2 (tcx (n:=45) (sg:=Qoo.sg) Qj (TOk.cons Qax (TOk.cons QFZ (TOk.cons Qew (TOk.cons QAM TOk.nil)))) (by kernel_rfl) (by kernel_rfl) (Q2V (fun r'=>∃ t,(Qkc c t)∧r'=QaI t) c ?_))
 conv=>zeta
 have b1:=Yq c 3 hp
 generalize Qs c 3=r1 at b1 ⊢
 have h1:=b1.1
 have h2:=b1.2.1 (by omega)
 rw [Qq (x:=1+r1.1) (by omega) (by omega)]
 have ho:p_op r1.2 (1+r1.1):=⟨b1.2.2.2,by omega,by omega⟩
 have b2:=QwA _ _ ho
 generalize e_op r1.2 (1+r1.1)=r2 at b2 ⊢
 have hl:=b2.2.2.2.2.1
 have hc2:=b2.2.2.2.2.2
 have b3:=(Yq r2.2 14 hc2).2.2.2
 generalize Qs r2.2 14=r3 at b3 ⊢
 refine ⟨⟨hp,ho⟩,hc2,fun _=>⟨b3,Zg ⟨?_,(Yq _ _ b3).2.2.2⟩⟩,fun _=>⟨fun _=>⟨⟨b3,by simp,by simp⟩,Zg ⟨?_,(Qe1 _ _ ⟨b3,by simp,by simp⟩).2⟩⟩,fun _=>⟨fun _=>⟨⟨.inl rfl,by rw [Q1];omega⟩,Zg ⟨?_,b3⟩⟩,fun _=>⟨fun _=>⟨fun hh=>⟨⟨b3,⟨by omega,by simpa using hh⟩,by simpa using hh⟩,Zg ⟨?_,Qte _ b3⟩⟩,fun _=>(Zg ⟨?_,b3⟩)⟩,fun _=>(Zg ⟨?_,b3⟩)⟩⟩⟩⟩
 all_goals first
  | (simp;omega)
  | omega
  | skip
theorem QPm (c:((List Int) × Int × Int)) (hp:QP c):Qkc c (QgI c):=(Classical.epsilon_spec (Qxa c hp)).1
theorem QWo (c:((List Int) × Int × Int)) (hp:QP c):TCon Tryz.prog 201 [(.bx [(.c (.sl [(.int .u8)]) c.1),(.c TI c.2.1),(.c TI c.2.2)])] (QaI (QgI c)):=(Classical.epsilon_spec (Qxa c hp)).2
theorem QUY:Qg Tryz.prog Qoo:=Qk fun x h=>QWo x.1 h
def QbG (t:(List TOp') × (((List Int) × Int × Int))):TRes:=⟨(.a [(.r ctOp 0 0 ((t.1).length))]),[(.sl 69 ctOp true t.1)],[[(zcs [(.int .u8)] t.2.1),(zci t.2.2.1),(zci t.2.2.2)]],true,[]⟩
def ZH (x0:((List Int) × Int × Int)):(List TOp') × (((List Int) × Int × Int)):=Classical.epsilon fun t:(List TOp') × (((List Int) × Int × Int))=>(QdS x0 t)∧TCon Tryz.prog 198 [(.bx [(.c (.sl [(.int .u8)]) x0.1),(.c TI x0.2.1),(.c TI x0.2.2)])] (QbG t)
def Qkl:TRow:=Qh 198 [(.b [(.sl [(.int .u8)]),TI,TI])] fun x=>(some (QP x.1),QbG (ZH x.1))
def QnC:List TRow:=[JT,Qh5]
def Qtl:TCode :=
 (zsq [(zsq [(.reg [zmv 14 5,zbi 15 .gtr 14 (zki 0)]),(.cond 15 .skip (.exit 0))]),(.block 1 (zsq [(.reg [zmv 18 0,zmv 19 4,zca 20 223 [18,19],zop 6 (.new 69 (z0s ctOp)),zst 6 20 4]),(.reg [zfa 21 3 0,zld 22 21 1,zLd 23 6 4,zop 24 (.bsl 69 ctOp [23]),zop 25 (.app 22 24 69 ctOp),zfa 26 3 0,zst 26 25 1]),(.reg [zfa 27 6 2,zld 28 27 1,zmv 4 28])])),(.reg [zmv 16 5,zbi 17 .sub 16 (zki 1),zmv 5 17])])
def QAY:List (Nat × Md):=[(0,.b [.d,.d,.d]),(2,.b [.d]),(3,.b [.o 69]),(4,.one .d),(5,.one .d)]
def Qyd:TCode :=
 (zsq [(.reg [zLd 29 3 1,zst 2 29 1]),.ret])
def QPo:TCode :=
 (zsq [(.reg [zop 2 (.new 26 [(.n ctOp)])]),(.reg [zop 7 (.build [(.n ctOp)] []),zop 3 (.new 26 [(.n ctOp)]),zst 3 7 1]),(.reg [zmv 8 0,zca 9 108 [8,(zki 3)],zbi 10 .add (zki 1) 9,zmv 4 10]),(zsq [(.reg [zmv 11 0,zca 12 108 [11,(zki 6)],zbi 13 .add (zki 1) 12,zmv 5 13]),(.block 0 (.loop QAY Qtl))]),Qyd])
def QuC:List (ARv × Md):=[(.l 2 1 true,.b [.o 69])]
def Qxk:Qb:=TQ 1 0 QuC K
def QZ2:Qb:=Qseq (tawp QnC 1 Qyd (Qxk K)) (Qxk K)
def QNK:Qb:=Qblk 0 (QZ2 K)
def QiN (inn:Int) (n:Int) (c0:List Int) (c1:Int) (c2:Int) (m0:List TOp'):Prop:=Loop QnC 1 QAY Qtl (QNK K) ⟨[(0,(.p 0 0 0)),(2,(.p 1 0 0)),(3,(.p 3 0 0)),(4,(zci inn)),(5,(zci n))],[(0,(.box [(zcs [(.int .u8)] c0),(zci c1),(zci c2)])),(1,(.box [(zcs ctOp ([]))])),(2,(.sl 69 ctOp true m0)),(3,(.box [(.r ctOp 2 0 m0.length)]))],4⟩
theorem QCA (inn:Int) (n:Int) (c0:List Int) (c1:Int) (c2:Int) (m0:List TOp') (h :
 (zif (decide (n>(0:Int))) ((p_op (c0,c1,c2) inn)∧(((m0.length=m0.length∨m0.length+1≤m0.length)∧m0.length+1≤big)∧(QiN K (((e_op (c0,c1,c2) inn).1).2.2.1) (w64 (n-(1:Int))) (((e_op (c0,c1,c2) inn).2).1) (((e_op (c0,c1,c2) inn).2).2.1) (((e_op (c0,c1,c2) inn).2).2.2) (List.take (m0.length+1) ((List.take m0.length m0)++([(((e_op (c0,c1,c2) inn).1).1,((e_op (c0,c1,c2) inn).1).2.1,((e_op (c0,c1,c2) inn).1).2.2.1,(List.take ((((e_op (c0,c1,c2) inn).1).2.2.2).length) (List.drop 0 (((e_op (c0,c1,c2) inn).1).2.2.2))))])))))) (K (QbG ((List.take m0.length m0),(c0,c1,c2)))))):QiN K inn n c0 c1 c2 m0 :=
 Loop.of (by kernel_rfl) h
theorem QIg (c:((List Int) × Int × Int)) (h :
 ((Zr c (3:Int))∧((Zr ((Qs c (3:Int)).2) (6:Int))∧(QiN K (w64 ((1:Int)+((Qs c (3:Int)).1))) (w64 ((1:Int)+((Qs ((Qs c (3:Int)).2) (6:Int)).1))) (((Qs ((Qs c (3:Int)).2) (6:Int)).2).1) (((Qs ((Qs c (3:Int)).2) (6:Int)).2).2.1) (((Qs ((Qs c (3:Int)).2) (6:Int)).2).2.2) ([]:List TOp'))))):Hold (tawp QnC (1+0) QPo (TQ 1 0 QuC K) (Qf [(.bx [(.c (.sl [(.int .u8)]) c.1),(.c TI c.2.1),(.c TI c.2.2)])])) :=
 Hold.of (by kernel_rfl) h
theorem QtI (c:((List Int) × Int × Int)) (hp:QP c):∃ t:(List TOp') × (((List Int) × Int × Int)),(QdS c t)∧TCon Tryz.prog 198 [(.bx [(.c (.sl [(.int .u8)]) c.1),(.c TI c.2.1),(.c TI c.2.2)])] (QbG t):=by
 refine Y2 (tcx (n:=30) (sg:=Qkl.sg) Qj (TOk.cons Qax (TOk.cons QFZ TOk.nil)) (by kernel_rfl) (by kernel_rfl) (QIg (fun r'=>∃ t,(QdS c t)∧r'=QbG t) c ?_))
 have b1:=Yq c 3 hp
 generalize Qs c 3=r1 at b1 ⊢
 have b2:=Yq r1.2 6 b1.2.2.2
 generalize Qs r1.2 6=r2 at b2 ⊢
 have h1:=b1.1
 have h2:=b1.2.1 (by omega)
 have h3:=b2.1
 have h4:=b2.2.1 (by omega)
 rw [Qq (x:=1+r1.1) (by omega) (by omega),Qq (x:=1+r2.1) (by omega) (by omega)]
 refine ⟨hp,b1.2.2.2,?_⟩
 have key:∀ (k:Nat) (inn c1 c2:Int) (c0:List Int) (m0:Zh),QP (c0,c1,c2)→1≤inn→inn≤3→m0.length+k≤6→1≤m0.length+k→YG none m0=true→QiF none m0 inn=true→QiN (fun r'=>∃ t,(QdS c t)∧r'=QbG t) inn (k:Int) c0 c1 c2 m0:=by
  intro k
  induction k with
  | zero =>
   intro inn c1 c2 c0 m0 hc k1 k2 k3 k4 k5 k6
   refine QCA (fun r'=>∃ t,(QdS c t)∧r'=QbG t) _ _ _ _ _ _ ⟨fun h=>by simp at h,fun _=>(Zg ⟨?_,?_,hc⟩)⟩
   ·simp only [List.take_length,QT,Bool.and_eq_true,QV]
    exact ⟨by omega,k5⟩
   ·simp only [List.take_length];omega
  | succ k ih =>
   intro inn c1 c2 c0 m0 hc k1 k2 k3 k4 k5 k6
   have ho:p_op (c0,c1,c2) inn:=⟨hc,k1,k2⟩
   have b:=QwA _ _ ho
   refine QCA (fun r'=>∃ t,(QdS c t)∧r'=QbG t) _ _ _ _ _ _ ⟨fun _=>⟨ho,⟨.inl rfl,by rw [Q1];omega⟩,?_⟩,fun h=>by simp at h <;> omega⟩
   rw [Q7,Qq (x:=((k+1:Nat):Int)-1) (by omega) (by omega),show ((k+1:Nat):Int)-1=k by omega]
   refine ih _ _ _ _ _ b.2.2.2.2.2 b.2.2.1 b.2.2.2.1 (by simp;omega) (by simp;omega) (Qxe _ _ _ k5 ?_ ?_) ?_
   ·simp only [List.drop_zero,List.take_length];exact b.1
   ·rw [show (((e_op (c0,c1,c2) inn).1.1,(e_op (c0,c1,c2) inn).1.2.1,(e_op (c0,c1,c2) inn).1.2.2.1,List.take (e_op (c0,c1,c2) inn).1.2.2.2.length (List.drop 0 (e_op (c0,c1,c2) inn).1.2.2.2)):TOp').2.1=inn from b.2.1]
    exact k6
   ·exact QBA _ _ _
 have h:=key (1+r2.1).toNat (1+r1.1) r2.2.2.1 r2.2.2.2 r2.2.1 [] b2.2.2.2 (by omega) (by omega) (by simp;omega) (by simp;omega) rfl rfl
 rw [Int.toNat_of_nonneg (by omega)] at h
 exact h
theorem QBZ (c:((List Int) × Int × Int)) (hp:QP c):QdS c (ZH c):=(Classical.epsilon_spec (QtI c hp)).1
theorem QKr (c:((List Int) × Int × Int)) (hp:QP c):TCon Tryz.prog 198 [(.bx [(.c (.sl [(.int .u8)]) c.1),(.c TI c.2.1),(.c TI c.2.2)])] (QbG (ZH c)):=(Classical.epsilon_spec (QtI c hp)).2
theorem QvN:Qg Tryz.prog Qkl:=Qk fun x h=>QKr x.1 h
def Qad (t:(List TOp') × (((List Int) × Int × Int))):TRes:=⟨(.a [(zcs ctOp t.1)]),[],[[(zcs [(.int .u8)] t.2.1),(zci t.2.2.1),(zci t.2.2.2)]],true,[]⟩
def QhQ (x0:((List Int) × Int × Int)):(List TOp') × (((List Int) × Int × Int)):=Classical.epsilon fun t:(List TOp') × (((List Int) × Int × Int))=>(QeG x0 t)∧TCon Tryz.prog 144 [(.bx [(.c (.sl [(.int .u8)]) x0.1),(.c TI x0.2.1),(.c TI x0.2.2)])] (Qad t)
def QnU:TRow:=Qh 144 [(.b [(.sl [(.int .u8)]),TI,TI])] fun x=>(some (QP x.1),Qad (QhQ x.1))
def QqB:List TRow:=[Qkl,JT,Qoo]
def QDa:TCode :=
 (zsq [(zsq [(.draw [zfa 31 3 0,zld 32 31 1,zle 33 32,zmv 34 0,zca 35 108 [34,(zki 2)],zbi 36 .add (zki 8) 35,zbi 37 .lss 33 36] [(0,4),(1,4),(2,4)]),(.cond 37 .skip (.exit 1))]),(.block 2 (.draw [zfa 38 3 0,zld 39 38 1,zfa 40 3 0,zld 41 40 1,zfa 42 3 0,zld 43 42 1,zle 44 43,zbi 45 .sub 44 (zki 1),zia 46 41 45 ctOp,zfa 47 46 2,zld 48 47 1,zfa 49 3 0,zld 50 49 1,zfa 51 3 0,zld 52 51 1,zle 53 52,zbi 54 .sub 53 (zki 1),zia 55 50 54 ctOp,zfa 56 55 2,zld 57 56 1,zop 58 (.build (z0s ctOp) [(0,1,(zki 3)),(1,1,48),(2,1,57)]),zop 59 (.bsl 69 ctOp [58]),zop 60 (.app 39 59 69 ctOp),zfa 61 3 0,zst 61 60 1] [(0,21),(1,21)]))])
def QAt:List (Nat × Md):=[(0,.b [.d,.d,.d]),(2,.b [.d]),(3,.b [.f])]
def QBc:TCode :=
 (zsq [(.reg [zLd 62 3 1,zst 2 62 1]),.ret])
def QJe:TCode :=
 (zsq [(.reg [zop 2 (.new 26 [(.n ctOp)])]),(.reg [zmv 5 0,zca 6 198 [5],zop 3 (.new 26 [(.n ctOp)]),zst 3 6 1]),(.reg [zmv 7 0,zfa 8 3 0,zld 9 8 1,zle 10 9,zca 11 108 [7,10],zmv 4 11]),(zsq [(.reg [zmv 12 0,zca 13 108 [12,(zki 16)]]),(.block 0 (zsq [(.reg [zbi 15 .eql 13 (zki 0),zmv 14 15]),(.cond 14 (.draw [zfa 16 3 0,zld 17 16 1,zmv 18 4,zmv 19 0,zca 20 201 [19],zia 21 17 18 ctOp,zst 21 20 4] [(0,4),(1,4)]) (zsq [(.reg [zbi 23 .eql 13 (zki 1),zmv 22 23]),(.cond 22 (.reg [zfa 24 3 0,zld 25 24 1,zmv 26 4,zop 27 (.slc 25 none (some 26) ctOp),zfa 28 3 0,zst 28 27 1]) (zsq [(.reg [zbi 30 .eql 13 (zki 2),zmv 29 30]),(.cond 29 (.block 1 (.loop QAt QDa)) .skip)]))]))]))]),QBc])
def QuM:List (ARv × Md):=[(.l 2 1 true,.b [.d])]
def Qzh:Qb:=TQ 1 0 QuM K
def QMn:Qb:=Qseq (tawp QqB 1 QBc (Qzh K)) (Qzh K)
def QIH:Qb:=Qblk 0 (QMn K)
def QUy:Qb:=Qblk 1 (QIH K)
def Qix (c0:List Int) (c1:Int) (c2:Int) (m0:List TOp'):Prop:=Loop QqB 1 QAt QDa (QUy K) ⟨[(0,(.p 0 0 0)),(2,(.p 1 0 0)),(3,(.p 3 0 0))],[(0,(.box [(zcs [(.int .u8)] c0),(zci c1),(zci c2)])),(1,(.box [(zcs ctOp ([]))])),(2,(.sl 69 ctOp true m0)),(3,(.box [(.r ctOp 2 0 m0.length)]))],4⟩
theorem Quk (c0:List Int) (c1:Int) (c2:Int) (m0:List TOp') (h :
 ((Zr (c0,c1,c2) (2:Int))∧(zif (decide (((m0.length:Nat):Int)<(w64 ((8:Int)+((Qs (c0,c1,c2) (2:Int)).1))))) ((((0:Int)≤w64 (((m0.length:Nat):Int)-(1:Int))∧Int.toNat (w64 (((m0.length:Nat):Int)-(1:Int)))<m0.length)∧(((0+(Int.toNat (w64 (((m0.length:Nat):Int)-(1:Int)))))<m0.length)∧(((0:Int)≤w64 (((m0.length:Nat):Int)-(1:Int))∧Int.toNat (w64 (((m0.length:Nat):Int)-(1:Int)))<m0.length)∧(((0+(Int.toNat (w64 (((m0.length:Nat):Int)-(1:Int)))))<m0.length)∧((m0.length=m0.length∨m0.length+1≤m0.length)∧m0.length+1≤big)))))∧(Qix K (((Qs (c0,c1,c2) (2:Int)).2).1) (((Qs (c0,c1,c2) (2:Int)).2).2.1) (((Qs (c0,c1,c2) (2:Int)).2).2.2) (List.take (m0.length+1) ((List.take m0.length m0)++([((3:Int),(gtd dOp m0 (0+(Int.toNat (w64 (((m0.length:Nat):Int)-(1:Int)))))).2.2.1,(gtd dOp m0 (0+(Int.toNat (w64 (((m0.length:Nat):Int)-(1:Int)))))).2.2.1,[])]))))) (K (Qad ((List.take m0.length (List.drop 0 m0)),((Qs (c0,c1,c2) (2:Int)).2))))))):Qix K c0 c1 c2 m0 :=
 Loop.of (by kernel_rfl) h
theorem QK4 (c:((List Int) × Int × Int)) (h :
 let z1:=Qs ((ZH c).2) ((((ZH c).1).length:Nat):Int)
 let z2:=Qs (z1.2) (16:Int)
 ((QP c)∧((Zr ((ZH c).2) ((((ZH c).1).length:Nat):Int))∧((Zr (z1.2) (16:Int))∧(zif ((z2.1)==(0:Int)) (((QP (z2.2))∧(((0:Int)≤z1.1∧Int.toNat (z1.1)<((ZH c).1).length)∧((0+(Int.toNat (z1.1)))<((ZH c).1).length)))∧K (Qad ((List.take (((ZH c).1).length) (List.drop 0 (((ZH c).1).set (0+(Int.toNat (z1.1))) ((QgI (z2.2)).1)))),((QgI (z2.2)).2)))) (zif ((z2.1)==(1:Int)) (((0:Int)≤(0:Int)∧(0:Int)≤z1.1∧z1.1≤((((ZH c).1).length:Nat):Int))∧K (Qad ((List.take (Int.toNat (z1.1)-Int.toNat (0:Int)) (List.drop 0 ((ZH c).1))),(z2.2)))) (zif ((z2.1)==(2:Int)) (Qix K ((z2.2).1) ((z2.2).2.1) ((z2.2).2.2) (List.take (((ZH c).1).length) ((ZH c).1))) (K (Qad ((List.take (((ZH c).1).length) (List.drop 0 ((ZH c).1))),(z2.2))))))))))):Hold (tawp QqB (1+0) QJe (TQ 1 0 QuM K) (Qf [(.bx [(.c (.sl [(.int .u8)]) c.1),(.c TI c.2.1),(.c TI c.2.2)])])) :=
 Hold.of (by kernel_rfl) h
theorem QS6 (c:((List Int) × Int × Int)) (hp:QP c):∃ t:(List TOp') × (((List Int) × Int × Int)),(QeG c t)∧TCon Tryz.prog 144 [(.bx [(.c (.sl [(.int .u8)]) c.1),(.c TI c.2.1),(.c TI c.2.2)])] (Qad t):=by
 refine Y2 (tcx (n:=63) (sg:=QnU.sg) Qj (TOk.cons QvN (TOk.cons Qax (TOk.cons QUY TOk.nil))) (by kernel_rfl) (by kernel_rfl) (QK4 (fun r'=>∃ t,(QeG c t)∧r'=Qad t) c ?_))
 conv=>zeta
 have b1:=QBZ c hp
 generalize ZH c=r1 at b1 ⊢
 obtain ⟨k1,k2,k3⟩:=b1
 have k4:1≤r1.1.length:=by
  simp only [QT,Bool.and_eq_true,QV] at k1
  omega
 have b2:=Yq r1.2 r1.1.length k3
 generalize Qs r1.2 r1.1.length=r2 at b2 ⊢
 have h1:=b2.1
 have h2:=b2.2.1 (by omega)
 have b3:=(Yq r2.2 16 b2.2.2.2).2.2.2
 generalize Qs r2.2 16=r3 at b3 ⊢
 refine ⟨hp,k3,b2.2.2.2,fun _=>⟨⟨b3,⟨h1,by omega⟩,by omega⟩,Zg ⟨?_,(QPm _ b3).2⟩⟩,fun _=>⟨fun _=>⟨⟨by omega,by omega,by omega⟩,Zg ⟨?_,b3⟩⟩,fun _=>⟨fun _=>?_,fun _=>(Zg ⟨?_,b3⟩)⟩⟩⟩
 ·simp;omega
 ·simp;omega
 ·rw [List.take_length]
  have key:∀ (k:Nat) (c1 c2:Int) (c0:List Int) (m0:Zh),QP (c0,c1,c2)→1≤m0.length→m0.length+k=9→Qix (fun r'=>∃ t,(QeG c t)∧r'=Qad t) c0 c1 c2 m0:=by
   intro k
   induction k with
   | zero =>
    intro c1 c2 c0 m0 hc q1 q2
    have b:=Yq (c0,c1,c2) 2 hc
    have q3:=b.1
    have q4:=b.2.1 (by omega)
    refine Quk (fun r'=>∃ t,(QeG c t)∧r'=Qad t) _ _ _ _ ⟨hc,fun h=>?_,fun _=>(Zg ⟨?_,b.2.2.2⟩)⟩
    ·rw [Qq (x:=8+_) (by omega) (by omega)] at h
     simp at h;omega
    ·simp;omega
   | succ k ih =>
    intro c1 c2 c0 m0 hc q1 q2
    have b:=Yq (c0,c1,c2) 2 hc
    refine Quk (fun r'=>∃ t,(QeG c t)∧r'=Qad t) _ _ _ _ ⟨hc,fun _=>?_,fun _=>(Zg ⟨?_,b.2.2.2⟩)⟩
    ·rw [Qq (x:=(m0.length:Int)-1) (by omega) (by omega)]
     refine ⟨⟨⟨by omega,by omega⟩,by omega,⟨by omega,by omega⟩,by omega,.inl rfl,by rw [Q1];omega⟩,?_⟩
     rw [Q7]
     exact ih _ _ _ _ b.2.2.2 (by simp) (by simp;omega)
    ·simp;omega
  exact key (9-r1.1.length) _ _ _ _ b3 k4 (by omega)
 ·simp;omega
theorem QU4 (c:((List Int) × Int × Int)) (hp:QP c):TCon Tryz.prog 144 [(.bx [(.c (.sl [(.int .u8)]) c.1),(.c TI c.2.1),(.c TI c.2.2)])] (Qad (QhQ c)):=(Classical.epsilon_spec (QS6 c hp)).2
theorem QY7:Qg Tryz.prog QnU:=Qk fun x h=>QU4 x.1 h
end
end Go.Proofs.YtjbdljkhbglnhaaGreat.Am

