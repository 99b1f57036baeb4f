/- -/
import Derived.Test.YtjbdljkhbglnhaaGreatZID1
import Derived.Test.YtjbdljkhbglnhaaGreatZIP4
namespace Go.Proofs.YtjbdljkhbglnhaaGreat.Am
open Go Go.RowKit Go.Proofs.YtjbdljkhbglnhaaGreat
set_option linter.all false
set_option maxHeartbeats 2000000
noncomputable section
variable (K:TRes→Prop)
def Qbs (t:Int × (((List Int) × Int × Int))):TRes:=⟨(zci t.1),[],[[(zcs [(.int .u8)] t.2.1),(zci t.2.2.1),(zci t.2.2.2)]],true,[]⟩
def Qbe (x0:((List Int) × Int × Int)):Int × (((List Int) × Int × Int)):=Classical.epsilon fun t:Int × (((List Int) × Int × Int))=>(Qjc x0 t)∧TCon Tryz.prog 181 [(.bx [(.c (.sl [(.int .u8)]) x0.1),(.c TI x0.2.1),(.c TI x0.2.2)])] (Qbs t)
def Qi2:TRow:=Qk 181 [(.b [(.sl [(.int .u8)]),TI,TI])] fun x=>(some (QQ x.1),Qbs (Qbe x.1))
def QPc:List TRow:=[JX,Qcf]
def QEd:TCode :=
 (zsq [(.reg [zmv 2 (zki 0)]),(zsq [(.reg [zmv 3 0,zca 4 108 [3,(zki 12)]]),(.block 0 (zsq [(.reg [zbi 6 .eql 4 (zki 0),zmv 5 6]),(.cond 5 (zsq [(.reg [zmv 7 0,zop 8 (.bsl 3 [TI] [(zki 2147483647),(zki (-2147483647)),(zki 2147483646),(zki 1),(zki (-1)),(zki 0)]),zca 9 145 [7,8],zmv 2 9]),.ret]) (zsq [(.reg [zbi 11 .eql 4 (zki 1),zmv 10 11]),(.cond 10 (zsq [(.reg [zmv 12 0,zca 13 108 [12,(zki 4000)],zbi 14 .sub 13 (zki 2000),zbi 15 .mul 14 (zki 997),zmv 2 15]),.ret]) (zsq [(.reg [zbi 17 .eql 4 (zki 2),zmv 16 17]),(.cond 16 (zsq [(.reg [zmv 18 0,zca 19 108 [18,(zki 9)],zbi 20 .sub 19 (zki 4),zmv 2 20]),.ret]) .skip)]))]))]))]),(.reg [zmv 21 0,zca 22 108 [21,(zki 17)],zbi 23 .sub 22 (zki 8),zbi 24 .mul 23 (zki 65536),zmv 25 0,zop 26 (.bsl 3 [TI] [(zki 1),(zki 1),(zki 2),(zki 4),(zki 3)]),zca 27 145 [25,26],zbi 28 .quo 24 27,zmv 2 28]),.ret])
def QQo:List (ARv × Md):=[(.t 2,.one .d)]
theorem QVY (c:((List Int) × Int × Int)) (h :
 ((Zr c (12:Int))∧(zif (((Qs c (12:Int)).1)==(0:Int)) ((Y9 ((Qs c (12:Int)).2) ([(2147483647:Int),(-2147483647:Int),(2147483646:Int),(1:Int),(-1:Int),(0:Int)]))∧K (Qbs ((ZK ((Qs c (12:Int)).2) ([(2147483647:Int),(-2147483647:Int),(2147483646:Int),(1:Int),(-1:Int),(0:Int)])).1,((ZK ((Qs c (12:Int)).2) ([(2147483647:Int),(-2147483647:Int),(2147483646:Int),(1:Int),(-1:Int),(0:Int)])).2)))) (zif (((Qs c (12:Int)).1)==(1:Int)) ((Zr ((Qs c (12:Int)).2) (4000:Int))∧K (Qbs (w64 ((w64 (((Qs ((Qs c (12:Int)).2) (4000:Int)).1)-(2000:Int)))*(997:Int)),((Qs ((Qs c (12:Int)).2) (4000:Int)).2)))) (zif (((Qs c (12:Int)).1)==(2:Int)) ((Zr ((Qs c (12:Int)).2) (9:Int))∧K (Qbs (w64 (((Qs ((Qs c (12:Int)).2) (9:Int)).1)-(4:Int)),((Qs ((Qs c (12:Int)).2) (9:Int)).2)))) (((Zr ((Qs c (12:Int)).2) (17:Int))∧((Y9 ((Qs ((Qs c (12:Int)).2) (17:Int)).2) ([(1:Int),(1:Int),(2:Int),(4:Int),(3:Int)]))∧(¬ ((ZK ((Qs ((Qs c (12:Int)).2) (17:Int)).2) ([(1:Int),(1:Int),(2:Int),(4:Int),(3:Int)])).1:Int)=0)))∧K (Qbs (w64 (Int.tdiv (w64 ((w64 (((Qs ((Qs c (12:Int)).2) (17:Int)).1)-(8:Int)))*(65536:Int))) ((ZK ((Qs ((Qs c (12:Int)).2) (17:Int)).2) ([(1:Int),(1:Int),(2:Int),(4:Int),(3:Int)])).1)),((ZK ((Qs ((Qs c (12:Int)).2) (17:Int)).2) ([(1:Int),(1:Int),(2:Int),(4:Int),(3:Int)])).2))))))))):Hold (tawp QPc (1+0) QEd (TQ 1 0 QQo K) (Qi [(.bx [(.c (.sl [(.int .u8)]) c.1),(.c TI c.2.1),(.c TI c.2.2)])])) :=
 Hold.of (by kernel_rfl) h
theorem QAb (c:((List Int) × Int × Int)) (hp:QQ c):∃ t:Int × (((List Int) × Int × Int)),(Qjc c t)∧TCon Tryz.prog 181 [(.bx [(.c (.sl [(.int .u8)]) c.1),(.c TI c.2.1),(.c TI c.2.2)])] (Qbs t):=by
 refine Y8 (tcx (n:=29) (sg:=Qi2.sg) Qm (TOk.cons Qaz (TOk.cons Qd0 TOk.nil)) (by kernel_rfl) (by kernel_rfl) (QVY (fun r'=>∃ t,(Qjc c t)∧r'=Qbs t) c ?_))
 have b1:=YM c 12 hp
 generalize Qs c 12=r at b1 ⊢
 have hc:QQ r.2:=b1.2.2.2
 refine ⟨hp,fun _=>?_,fun _=>⟨fun _=>?_,fun _=>⟨fun _=>?_,fun _=>?_⟩⟩⟩
 ·have hpp:Y9 r.2 [2147483647,-2147483647,2147483646,1,-1,0]:=⟨hc,by simp,by simp⟩
  have b2:=QdO _ _ hpp
  refine ⟨hpp,ZM ⟨?_,b2.2⟩⟩
  have b3:=b2.1
  simp only [List.mem_cons,List.not_mem_nil,or_false] at b3
  simp only [Zb,Bool.and_eq_true,decide_eq_true_eq]
  omega
 ·have b2:=YM r.2 4000 hc
  refine ⟨hc,ZM ⟨?_,b2.2.2.2⟩⟩
  have h1:=b2.1
  have h2:=b2.2.1 (by omega)
  rw [Qp (x:=_-2000) (by omega) (by omega),Qp (by omega) (by omega)]
  simp only [Zb,Bool.and_eq_true,decide_eq_true_eq]
  omega
 ·have b2:=YM r.2 9 hc
  refine ⟨hc,ZM ⟨?_,b2.2.2.2⟩⟩
  have h1:=b2.1
  have h2:=b2.2.1 (by omega)
  rw [Qp (by omega) (by omega)]
  simp only [Zb,Bool.and_eq_true,decide_eq_true_eq]
  omega
 ·have b2:=YM r.2 17 hc
  have hpp:Y9 (Qs r.2 17).2 [1,1,2,4,3]:=⟨b2.2.2.2,by simp,by simp⟩
  have b3:=QdO _ _ hpp
  have b4:=b3.1
  simp only [List.mem_cons,List.not_mem_nil,or_false] at b4
  have h1:=b2.1
  have h2:=b2.2.1 (by omega)
  refine ⟨⟨hc,hpp,by omega⟩,ZM ⟨?_,b3.2⟩⟩
  have h3:=QHs (a:=((Qs r.2 17).1-8)*65536) (b:=(ZK (Qs r.2 17).2 [1,1,2,4,3]).1) (B:=1000000) (by omega) (by omega) (by omega)
  rw [Qp (x:=_-8) (by omega) (by omega),Qp (x:=_*65536) (by omega) (by omega),Qp (by omega) (by omega)]
  simp only [Zb,Bool.and_eq_true,decide_eq_true_eq]
  omega
theorem Qxo (c:((List Int) × Int × Int)) (hp:QQ c):Qjc c (Qbe c):=(Classical.epsilon_spec (QAb c hp)).1
theorem QRh (c:((List Int) × Int × Int)) (hp:QQ c):TCon Tryz.prog 181 [(.bx [(.c (.sl [(.int .u8)]) c.1),(.c TI c.2.1),(.c TI c.2.2)])] (Qbs (Qbe c)):=(Classical.epsilon_spec (QAb c hp)).2
theorem QCg:Ql Tryz.prog Qi2:=Qn fun x h=>QRh x.1 h
def QcK (t:Int × (((List Int) × Int × Int))):TRes:=⟨(zci t.1),[],[[(zcs [(.int .u8)] t.2.1),(zci t.2.2.1),(zci t.2.2.2)]],true,[]⟩
def QeS (x0:((List Int) × Int × Int)):Int × (((List Int) × Int × Int)):=Classical.epsilon fun t:Int × (((List Int) × Int × Int))=>(QjQ x0 t)∧TCon Tryz.prog 182 [(.bx [(.c (.sl [(.int .u8)]) x0.1),(.c TI x0.2.1),(.c TI x0.2.2)])] (QcK t)
def QpJ:TRow:=Qk 182 [(.b [(.sl [(.int .u8)]),TI,TI])] fun x=>(some (QQ x.1),QcK (QeS x.1))
def QEE:List TRow:=[QdY,Qcf,Qi2]
def QKC:TCode :=
 (zsq [(.reg [zmv 2 (zki 0)]),(zsq [(.reg [zmv 3 0,zca 4 106 [3,(zki 8)]]),(.cond 4 (zsq [(.reg [zmv 5 0,zop 6 (.bsl 3 [TI] [(zki 2147483648),(zki (-2147483648)),(zki 9223372036854775807),(zki (-9223372036854775807))]),zca 7 145 [5,6],zmv 2 7]),.ret]) .skip)]),(.reg [zmv 8 0,zca 9 181 [8],zmv 2 9]),.ret])
def QNN:List (ARv × Md):=[(.t 2,.one .d)]
theorem QSP (c:((List Int) × Int × Int)) (h :
 ((Zr c (8:Int))∧(zif ((ZB c (8:Int)).1) ((Y9 ((ZB c (8:Int)).2) ([(2147483648:Int),(-2147483648:Int),(9223372036854775807:Int),(-9223372036854775807:Int)]))∧K (QcK ((ZK ((ZB c (8:Int)).2) ([(2147483648:Int),(-2147483648:Int),(9223372036854775807:Int),(-9223372036854775807:Int)])).1,((ZK ((ZB c (8:Int)).2) ([(2147483648:Int),(-2147483648:Int),(9223372036854775807:Int),(-9223372036854775807:Int)])).2)))) ((QQ ((ZB c (8:Int)).2))∧K (QcK ((Qbe ((ZB c (8:Int)).2)).1,((Qbe ((ZB c (8:Int)).2)).2))))))):Hold (tawp QEE (1+0) QKC (TQ 1 0 QNN K) (Qi [(.bx [(.c (.sl [(.int .u8)]) c.1),(.c TI c.2.1),(.c TI c.2.2)])])) :=
 Hold.of (by kernel_rfl) h
theorem QDZ (c:((List Int) × Int × Int)) (hp:QQ c):∃ t:Int × (((List Int) × Int × Int)),(QjQ c t)∧TCon Tryz.prog 182 [(.bx [(.c (.sl [(.int .u8)]) c.1),(.c TI c.2.1),(.c TI c.2.2)])] (QcK t):=by
 refine Y8 (tcx (n:=10) (sg:=QpJ.sg) Qm (TOk.cons QjG (TOk.cons Qd0 (TOk.cons QCg TOk.nil))) (by kernel_rfl) (by kernel_rfl) (QSP (fun r'=>∃ t,(QjQ c t)∧r'=QcK t) c ?_))
 have b1:=QiF c 8 hp
 generalize ZB c 8=r at b1 ⊢
 have hpp:Y9 r.2 [2147483648,-2147483648,9223372036854775807,-9223372036854775807]:=⟨b1,by simp,by simp⟩
 exact ⟨hp,fun _=>⟨hpp,ZM ((QdO _ _ hpp).2)⟩,fun _=>⟨b1,ZM ((Qxo _ b1).2)⟩⟩
theorem QL1 (c:((List Int) × Int × Int)) (hp:QQ c):QjQ c (QeS c):=(Classical.epsilon_spec (QDZ c hp)).1
theorem QG7 (c:((List Int) × Int × Int)) (hp:QQ c):TCon Tryz.prog 182 [(.bx [(.c (.sl [(.int .u8)]) c.1),(.c TI c.2.1),(.c TI c.2.2)])] (QcK (QeS c)):=(Classical.epsilon_spec (QDZ c hp)).2
theorem QGY:Ql Tryz.prog QpJ:=Qn fun x h=>QG7 x.1 h
def Qa5 (t:(List Int) × (((List Int) × Int × Int))):TRes:=⟨(.r [TI] 0 0 ((t.1).length)),[(.sl 3 [TI] true t.1)],[[(zcs [(.int .u8)] t.2.1),(zci t.2.2.1),(zci t.2.2.2)]],true,[]⟩
def Yr (x0:((List Int) × Int × Int)) (x1:Int):(List Int) × (((List Int) × Int × Int)):=Classical.epsilon fun t:(List Int) × (((List Int) × Int × Int))=>(Qcp x0 x1 t)∧TCon Tryz.prog 105 [(.bx [(.c (.sl [(.int .u8)]) x0.1),(.c TI x0.2.1),(.c TI x0.2.2)]),(.c TI x1)] (Qa5 t)
def Qe9:TRow:=Qk 105 [(.b [(.sl [(.int .u8)]),TI,TI]),(.c TI)] fun x=>(some (JM x.1 x.2.1),Qa5 (Yr x.1 x.2.1))
def Qne:List TRow:=[Qi2]
def Qrp:TCode :=
 (zsq [(zsq [(.reg [zmv 8 6,zmv 9 1,zbi 10 .lss 8 9]),(.cond 10 .skip (.exit 0))]),(.block 1 (.reg [zmv 13 5,zmv 14 0,zca 15 181 [14],zop 16 (.bsl 3 [TI] [15]),zop 17 (.app 13 16 3 [TI]),zmv 5 17])),(.reg [zmv 11 6,zbi 12 .add 11 (zki 1),zmv 6 12])])
def QqH:List (Nat × Md):=[(0,.b [.d,.d,.d]),(1,.one .d),(5,.one .f),(6,.one .d)]
def Quq:TCode :=
 (zsq [(.reg [zmv 18 5,zmv 4 18]),.ret])
def QJ4:TCode :=
 (zsq [(.reg [zmv 4 (.k (.n [TI]))]),(.reg [zop 7 (.bsl 3 [TI] []),zmv 5 7]),(zsq [(.reg [zmv 6 (zki 0)]),(.block 0 (.loop QqH Qrp))]),Quq])
def Qvy:List (ARv × Md):=[(.t 4,.one (.o 3))]
def QCY:Qb:=TQ 1 0 Qvy K
def QMF:Qb:=Qseq (tawp Qne 1 Quq (QCY K)) (QCY K)
def QQd:Qb:=Qblk 0 (QMF K)
def QgW (n:Int) (i:Int) (c0:List Int) (c1:Int) (c2:Int) (out:List Int):Prop:=Loop Qne 1 QqH Qrp (QQd K) ⟨[(0,(.p 0 0 0)),(1,(zci n)),(5,(.r [TI] 1 0 out.length)),(6,(zci i))],[(0,(.box [(zcs [(.int .u8)] c0),(zci c1),(zci c2)])),(1,(.sl 3 [TI] true out))],2⟩
theorem QAx (n:Int) (i:Int) (c0:List Int) (c1:Int) (c2:Int) (out:List Int) (h :
 (zif (decide (i<n)) (((QQ (c0,c1,c2))∧((out.length=out.length∨out.length+1≤out.length)∧out.length+1≤big))∧(QgW K n (w64 (i+(1:Int))) (((Qbe (c0,c1,c2)).2).1) (((Qbe (c0,c1,c2)).2).2.1) (((Qbe (c0,c1,c2)).2).2.2) (List.take (out.length+1) ((List.take out.length out)++([(Qbe (c0,c1,c2)).1]))))) (K (Qa5 ((List.take out.length out),(c0,c1,c2)))))):QgW K n i c0 c1 c2 out :=
 Loop.of (by kernel_rfl) h
theorem QGF (c:((List Int) × Int × Int)) (n:Int) (h :
 (QgW K n 0 c.1 c.2.1 c.2.2 ([]:List Int))):Hold (tawp Qne (1+0) QJ4 (TQ 1 0 Qvy K) (Qi [(.bx [(.c (.sl [(.int .u8)]) c.1),(.c TI c.2.1),(.c TI c.2.2)]),(.c TI n)])) :=
 Hold.of (by kernel_rfl) h
theorem QA3 (c:((List Int) × Int × Int)) (n:Int) (hp:JM c n):∃ t:(List Int) × (((List Int) × Int × Int)),(Qcp c n t)∧TCon Tryz.prog 105 [(.bx [(.c (.sl [(.int .u8)]) c.1),(.c TI c.2.1),(.c TI c.2.2)]),(.c TI n)] (Qa5 t):=by
 refine Y8 (tcx (n:=19) (sg:=Qe9.sg) Qm (TOk.cons QCg TOk.nil) (by kernel_rfl) (by kernel_rfl) (QGF (fun r'=>∃ t,(Qcp c n t)∧r'=Qa5 t) c n ?_))
 obtain ⟨h1,h2⟩:=hp
 refine JH n.toNat (fun k=>∀ (c0:List Int) (c1 c2:Int) (out:List Int),out.length=k→Zz out=true→QQ (c0,c1,c2)→QgW (fun r'=>∃ t,(Qcp c n t)∧r'=Qa5 t) n (k:Int) c0 c1 c2 out) ?_ ?_ c.1 c.2.1 c.2.2 [] rfl rfl h1
 ·intro c0 c1 c2 out hl hf hc
  refine QAx (fun r'=>∃ t,(Qcp c n t)∧r'=Qa5 t) n _ _ _ _ _ ⟨fun h=>by simp at h;omega,fun _=>(ZM ⟨?_,?_,hc⟩)⟩
  ·simp;omega
  ·simp only [List.take_length];exact hf
 ·intro k hk ih c0 c1 c2 out hl hf hc
  have b:=Qxo (c0,c1,c2) hc
  refine QAx (fun r'=>∃ t,(Qcp c n t)∧r'=Qa5 t) n _ _ _ _ _ ⟨fun _=>⟨⟨hc,.inl rfl,by rw [Q9];omega⟩,?_⟩,fun h=>by simp at h;omega⟩
  rw [sc1 (by omega),Zc]
  exact ih _ _ _ _ (by simp;omega) (QEW hf b.1) b.2
theorem QeZ (c:((List Int) × Int × Int)) (n:Int) (hp:JM c n):Qcp c n (Yr c n):=(Classical.epsilon_spec (QA3 c n hp)).1
theorem QOK (c:((List Int) × Int × Int)) (n:Int) (hp:JM c n):TCon Tryz.prog 105 [(.bx [(.c (.sl [(.int .u8)]) c.1),(.c TI c.2.1),(.c TI c.2.2)]),(.c TI n)] (Qa5 (Yr c n)):=(Classical.epsilon_spec (QA3 c n hp)).2
theorem QmT:Ql Tryz.prog Qe9:=Qn fun x h=>QOK x.1 x.2.1 h
def QbQ (t:(List Int) × (((List Int) × Int × Int))):TRes:=⟨(zcs [TI] t.1),[],[[(zcs [(.int .u8)] t.2.1),(zci t.2.2.1),(zci t.2.2.2)]],true,[]⟩
def Qej (x0:((List Int) × Int × Int)):(List Int) × (((List Int) × Int × Int)):=Classical.epsilon fun t:(List Int) × (((List Int) × Int × Int))=>(Qks x0 t)∧TCon Tryz.prog 107 [(.bx [(.c (.sl [(.int .u8)]) x0.1),(.c TI x0.2.1),(.c TI x0.2.2)])] (QbQ t)
def QnR:TRow:=Qk 107 [(.b [(.sl [(.int .u8)]),TI,TI])] fun x=>(some (QQ x.1),QbQ (Qej x.1))
def QIX:List TRow:=[JX,Qe9,QpJ,Qcf]
def QI7:TCode :=
 (zsq [(.reg [zmv 2 (.k (.n [TI]))]),(.reg [zmv 4 0,zmv 5 0,zca 6 108 [5,(zki 4)],zbi 7 .add (zki 1) 6,zca 8 105 [4,7],zmv 3 8]),(zsq [(.reg [zmv 9 0,zca 10 108 [9,(zki 16)]]),(.block 0 (zsq [(.reg [zbi 12 .eql 10 (zki 0),zmv 11 12]),(.cond 11 (.reg [zmv 13 3,zmv 14 0,zca 15 182 [14],zia 16 13 (zki 0) [TI],zst 16 15 1]) (zsq [(.reg [zbi 18 .eql 10 (zki 1),zmv 17 18]),(.cond 17 (zsq [(.reg [zmv 19 0,zmv 20 0,zop 21 (.bsl 3 [TI] [(zki 0),(zki 6),(zki 7)]),zca 22 145 [20,21],zca 23 105 [19,22],zmv 2 23]),.ret]) .skip)]))]))]),(.reg [zmv 24 3,zmv 2 24]),.ret])
def QIt:List (ARv × Md):=[(.t 2,.one .d)]
theorem QSJ (c:((List Int) × Int × Int)) (h :
 let z3:=Qs c (4:Int)
 let z1:=Yr (z3.2) (w64 ((1:Int)+(z3.1)))
 let z2:=Qs (z1.2) (16:Int)
 (((Zr c (4:Int))∧(JM (z3.2) (w64 ((1:Int)+(z3.1)))))∧((Zr (z1.2) (16:Int))∧(zif ((z2.1)==(0:Int)) (((QQ (z2.2))∧(((0:Int)≤(0:Int)∧Int.toNat (0:Int)<(z1.1).length)∧((0+(Int.toNat (0:Int)))<(z1.1).length)))∧K (QbQ ((List.take ((z1.1).length) (List.drop 0 ((z1.1).set (0+(Int.toNat (0:Int))) ((QeS (z2.2)).1)))),((QeS (z2.2)).2)))) (zif ((z2.1)==(1:Int)) (((Y9 (z2.2) ([(0:Int),(6:Int),(7:Int)]))∧(JM ((ZK (z2.2) ([(0:Int),(6:Int),(7:Int)])).2) ((ZK (z2.2) ([(0:Int),(6:Int),(7:Int)])).1)))∧K (QbQ ((List.take (((Yr ((ZK (z2.2) ([(0:Int),(6:Int),(7:Int)])).2) ((ZK (z2.2) ([(0:Int),(6:Int),(7:Int)])).1)).1).length) (List.drop 0 ((Yr ((ZK (z2.2) ([(0:Int),(6:Int),(7:Int)])).2) ((ZK (z2.2) ([(0:Int),(6:Int),(7:Int)])).1)).1))),((Yr ((ZK (z2.2) ([(0:Int),(6:Int),(7:Int)])).2) ((ZK (z2.2) ([(0:Int),(6:Int),(7:Int)])).1)).2)))) (K (QbQ ((List.take ((z1.1).length) (List.drop 0 (z1.1))),(z2.2))))))))):Hold (tawp QIX (1+0) QI7 (TQ 1 0 QIt K) (Qi [(.bx [(.c (.sl [(.int .u8)]) c.1),(.c TI c.2.1),(.c TI c.2.2)])])) :=
 Hold.of (by kernel_rfl) h
theorem QzI (c:((List Int) × Int × Int)) (hp:QQ c):∃ t:(List Int) × (((List Int) × Int × Int)),(Qks c t)∧TCon Tryz.prog 107 [(.bx [(.c (.sl [(.int .u8)]) c.1),(.c TI c.2.1),(.c TI c.2.2)])] (QbQ t):=by
 refine Y8 (tcx (n:=25) (sg:=QnR.sg) Qm (TOk.cons Qaz (TOk.cons QmT (TOk.cons QGY (TOk.cons Qd0 TOk.nil)))) (by kernel_rfl) (by kernel_rfl) (QSJ (fun r'=>∃ t,(Qks c t)∧r'=QbQ t) c ?_))
 conv=>zeta
 have b1:=YM c 4 hp
 generalize Qs c 4=r1 at b1 ⊢
 have h1:=b1.1
 have h2:=b1.2.1 (by omega)
 rw [Qp (x:=1+r1.1) (by omega) (by omega)]
 have hv:JM r1.2 (1+r1.1):=⟨b1.2.2.2,by omega⟩
 have b2:=QeZ _ _ hv
 generalize Yr r1.2 (1+r1.1)=r2 at b2 ⊢
 have b3:=YM r2.2 16 b2.2.2
 generalize Qs r2.2 16=r3 at b3 ⊢
 have hc:=b3.2.2.2
 have hl:=b2.1
 have hpk:Y9 r3.2 [0,6,7]:=⟨hc,by simp,by simp⟩
 have b4:=QdO _ _ hpk
 have b5:=b4.1
 simp only [List.mem_cons,List.not_mem_nil,or_false] at b5
 have hv2:JM (ZK r3.2 [0,6,7]).2 (ZK r3.2 [0,6,7]).1:=⟨b4.2,by omega⟩
 have b6:=QeZ _ _ hv2
 have hl2:=b6.1
 refine ⟨⟨hp,hv⟩,b2.2.2,fun _=>⟨⟨hc,⟨by omega,?_⟩,?_⟩,ZM ⟨?_,QL1 _ hc⟩⟩,fun _=>⟨fun _=>⟨⟨hpk,hv2⟩,ZM ⟨?_,b6.2.2⟩⟩,fun _=>(ZM ⟨?_,hc⟩)⟩⟩ <;> (simp;omega)
theorem QR4 (c:((List Int) × Int × Int)) (hp:QQ c):Qks c (Qej c):=(Classical.epsilon_spec (QzI c hp)).1
theorem QGW (c:((List Int) × Int × Int)) (hp:QQ c):TCon Tryz.prog 107 [(.bx [(.c (.sl [(.int .u8)]) c.1),(.c TI c.2.1),(.c TI c.2.2)])] (QbQ (Qej c)):=(Classical.epsilon_spec (QzI c hp)).2
theorem QEF:Ql Tryz.prog QnR:=Qn fun x h=>QGW x.1 h
def Qcj (t:TOp' × (((List Int) × Int × Int))):TRes:=⟨(.a [(zci t.1.1),(zci t.1.2.1),(zci t.1.2.2.1),(.r [TI] 0 0 ((t.1.2.2.2).length))]),[(.sl 3 [TI] true t.1.2.2.2)],[[(zcs [(.int .u8)] t.2.1),(zci t.2.2.1),(zci t.2.2.2)]],true,[]⟩
def e_op (x0:((List Int) × Int × Int)) (x1:Int):TOp' × (((List Int) × Int × Int)):=Classical.epsilon fun t:TOp' × (((List Int) × Int × Int))=>(q_op x0 x1 t)∧TCon Tryz.prog 223 [(.bx [(.c (.sl [(.int .u8)]) x0.1),(.c TI x0.2.1),(.c TI x0.2.2)]),(.c TI x1)] (Qcj t)
def QpD:TRow:=Qk 223 [(.b [(.sl [(.int .u8)]),TI,TI]),(.c TI)] fun x=>(some (p_op x.1 x.2.1),Qcj (e_op x.1 x.2.1))
def Qv8:List TRow:=[JX,Qhf,Qe9]
def Qxl:TCode :=
 (zsq [(.reg [zmv 19 0,zLd 20 5 4,zca 21 202 [20],zca 22 105 [19,21],zfa 23 5 3,zst 23 22 1]),(.reg [zLd 24 5 4,zst 4 24 4]),.ret])
def QS9:List (Nat × Md):=[(0,.b [.d,.d,.d]),(4,.b (zds 4)),(5,.b (zds 4))]
def QFi:TCode:=.wk QS9 Qxl
def QF1:TCode :=
 (zsq [(.reg [zop 4 (.new 69 (z0s ctOp))]),(.reg [zmv 6 0,zca 7 108 [6,(zki 5)],zbi 8 .add (zki 1) 7,zmv 9 1,zmv 10 1,zop 11 (.build (z0s ctOp) [(0,1,8),(1,1,9),(2,1,10)]),zop 5 (.new 69 (z0s ctOp)),zst 5 11 4]),(zsq [(.reg [zfa 12 5 0,zld 13 12 1,zbi 14 .eql 13 (zki 1)]),(.cond 14 (.reg [zmv 15 0,zca 16 108 [15,(zki 3)],zbi 17 .add (zki 1) 16,zfa 18 5 2,zst 18 17 1]) .skip)]),QFi])
def QsD:List (ARv × Md):=[(.l 4 4 true,.b [.d,.d,.d,.o 3])]
def QR6:Qb:=TQ 1 0 QsD K
@[irreducible] def QiP (c:((List Int) × Int × Int)) (inn:Int) (c0:List Int) (c1:Int) (c2:Int) (o2:Int):Prop:=tawp Qv8 1 Qxl (QR6 K) ⟨[(0,(.p 0 0 0)),(4,(.p 1 0 0)),(5,(.p 2 0 0))],[(0,(.box [(zcs [(.int .u8)] c0),(zci c1),(zci c2)])),(1,(.box (Tup.cells ctOp ((0:Int),(0:Int),(0:Int),[])))),(2,(.box (Tup.cells ctOp (w64 ((1:Int)+((Qs c (5:Int)).1)),inn,o2,[]))))],3⟩
theorem QWR (c:((List Int) × Int × Int)) (inn:Int) (c0:List Int) (c1:Int) (c2:Int) (o2:Int) (h :
 ((JM (c0,c1,c2) (Yc (w64 ((1:Int)+((Qs c (5:Int)).1)),inn,o2,[])))∧K (Qcj ((w64 ((1:Int)+((Qs c (5:Int)).1)),inn,o2,(List.take (((Yr (c0,c1,c2) (Yc (w64 ((1:Int)+((Qs c (5:Int)).1)),inn,o2,[]))).1).length) ((Yr (c0,c1,c2) (Yc (w64 ((1:Int)+((Qs c (5:Int)).1)),inn,o2,[]))).1))),((Yr (c0,c1,c2) (Yc (w64 ((1:Int)+((Qs c (5:Int)).1)),inn,o2,[]))).2))))):Hold (QiP K c inn c0 c1 c2 o2) :=
 Hold.of (by kernel_rfl) h
theorem QFp (c:((List Int) × Int × Int)) (inn:Int) (h :
 ((Zr c (5:Int))∧(zif ((w64 ((1:Int)+((Qs c (5:Int)).1)))==(1:Int)) ((Zr ((Qs c (5:Int)).2) (3:Int))∧(QiP K c inn (((Qs ((Qs c (5:Int)).2) (3:Int)).2).1) (((Qs ((Qs c (5:Int)).2) (3:Int)).2).2.1) (((Qs ((Qs c (5:Int)).2) (3:Int)).2).2.2) (w64 ((1:Int)+((Qs ((Qs c (5:Int)).2) (3:Int)).1))))) (QiP K c inn (((Qs c (5:Int)).2).1) (((Qs c (5:Int)).2).2.1) (((Qs c (5:Int)).2).2.2) inn)))):Hold (tawp Qv8 (1+0) QF1 (TQ 1 0 QsD K) (Qi [(.bx [(.c (.sl [(.int .u8)]) c.1),(.c TI c.2.1),(.c TI c.2.2)]),(.c TI inn)])) :=
 Hold.of (by kernel_rfl) h
theorem Qq0 (c:((List Int) × Int × Int)) (inn:Int) (hp:p_op c inn):∃ t:TOp' × (((List Int) × Int × Int)),(q_op c inn t)∧TCon Tryz.prog 223 [(.bx [(.c (.sl [(.int .u8)]) c.1),(.c TI c.2.1),(.c TI c.2.2)]),(.c TI inn)] (Qcj t):=by
 refine Y8 (tcx (n:=25) (sg:=QpD.sg) Qm (TOk.cons Qaz (TOk.cons QDq (TOk.cons QmT TOk.nil))) (by kernel_rfl) (by kernel_rfl) (QFp (fun r'=>∃ t,(q_op c inn t)∧r'=Qcj t) c inn ?_))
 have b1:=YM c 5 hp.1
 have h1:=b1.1
 have h2:=b1.2.1 (by omega)
 obtain ⟨_,h3,h4⟩:=hp
 have hw:w64 (1+(Qs c 5).1)=1+(Qs c 5).1:=Qp (by omega) (by omega)
 have key:∀ c0 c1 c2 o2,QQ (c0,c1,c2)→1≤o2→o2≤3→(1+(Qs c 5).1=1∨inn=o2)→QiP (fun r'=>∃ t,(q_op c inn t)∧r'=Qcj t) c inn c0 c1 c2 o2:=by
  intro c0 c1 c2 o2 hc k1 k2 k3
  refine (QWR (fun r'=>∃ t,(q_op c inn t)∧r'=Qcj t) c inn c0 c1 c2 o2 ?_).h
  rw [hw]
  have h5:1≤1+(Qs c 5).1:=by omega
  have h6:1+(Qs c 5).1≤5:=by omega
  generalize 1+(Qs c 5).1=o1 at h5 h6 k3 ⊢
  have hs:=QuI o1 [] h3 h4 k1 k2
  have hv:JM (c0,c1,c2) (Yc (o1,inn,o2,[])):=⟨hc,by omega⟩
  have b:=QeZ _ _ hv
  have hl:=b.1
  refine ⟨hv,ZM ⟨?_,rfl,k1,k2,?_,b.2.2⟩⟩
  ·simp only [List.take_length]
   exact QF0 h5 h6 h3 h4 k1 k2 k3 hl b.2.1
  ·simp;omega
 have b2:=YM (Qs c 5).2 3 b1.2.2.2
 have h7:=b2.1
 have h8:=b2.2.1 (by omega)
 rw [hw] at *
 refine ⟨‹QQ c›,fun h=>⟨b1.2.2.2,?_⟩,fun _=>key _ _ _ _ b1.2.2.2 h3 h4 (.inr rfl)⟩
 rw [Qp (x:=1+(Qs (Qs c 5).2 3).1) (by omega) (by omega)]
 exact key _ _ _ _ b2.2.2.2 (by omega) (by omega) (.inl (by simpa using h))
theorem QSa (c:((List Int) × Int × Int)) (inn:Int) (hp:p_op c inn):q_op c inn (e_op c inn):=(Classical.epsilon_spec (Qq0 c inn hp)).1
theorem QKr (c:((List Int) × Int × Int)) (inn:Int) (hp:p_op c inn):TCon Tryz.prog 223 [(.bx [(.c (.sl [(.int .u8)]) c.1),(.c TI c.2.1),(.c TI c.2.2)]),(.c TI inn)] (Qcj (e_op c inn)):=(Classical.epsilon_spec (Qq0 c inn hp)).2
theorem QKM:Ql Tryz.prog QpD:=Qn fun x h=>QKr x.1 x.2.1 h
def Qbu (t:(List TOp') × (((List Int) × Int × Int))):TRes:=⟨(.a [(.r ctOp 0 0 ((t.1).length))]),[(.sl 69 ctOp true t.1)],[[(zcs [(.int .u8)] t.2.1),(zci t.2.2.1),(zci t.2.2.2)]],true,[]⟩
def ZL (x0:((List Int) × Int × Int)):(List TOp') × (((List Int) × Int × Int)):=Classical.epsilon fun t:(List TOp') × (((List Int) × Int × Int))=>(Qcv x0 t)∧TCon Tryz.prog 198 [(.bx [(.c (.sl [(.int .u8)]) x0.1),(.c TI x0.2.1),(.c TI x0.2.2)])] (Qbu t)
def Qmn:TRow:=Qk 198 [(.b [(.sl [(.int .u8)]),TI,TI])] fun x=>(some (QQ x.1),Qbu (ZL x.1))
def QlB:List TRow:=[JX,QpD]
def QzL:TCode :=
 (zsq [(zsq [(.reg [zmv 14 5,zbi 15 .gtr 14 (zki 0)]),(.cond 15 .skip (.exit 0))]),(.block 1 (zsq [(.reg [zmv 18 0,zmv 19 4,zca 20 223 [18,19],zop 6 (.new 69 (z0s ctOp)),zst 6 20 4]),(.reg [zfa 21 3 0,zld 22 21 1,zLd 23 6 4,zop 24 (.bsl 69 ctOp [23]),zop 25 (.app 22 24 69 ctOp),zfa 26 3 0,zst 26 25 1]),(.reg [zfa 27 6 2,zld 28 27 1,zmv 4 28])])),(.reg [zmv 16 5,zbi 17 .sub 16 (zki 1),zmv 5 17])])
def Qsc:List (Nat × Md):=[(0,.b [.d,.d,.d]),(2,.b [.d]),(3,.b [.o 69]),(4,.one .d),(5,.one .d)]
def Qvw:TCode :=
 (zsq [(.reg [zLd 29 3 1,zst 2 29 1]),.ret])
def QVo:TCode :=
 (zsq [(.reg [zop 2 (.new 26 [(.n ctOp)])]),(.reg [zop 7 (.build [(.n ctOp)] []),zop 3 (.new 26 [(.n ctOp)]),zst 3 7 1]),(.reg [zmv 8 0,zca 9 108 [8,(zki 3)],zbi 10 .add (zki 1) 9,zmv 4 10]),(zsq [(.reg [zmv 11 0,zca 12 108 [11,(zki 6)],zbi 13 .add (zki 1) 12,zmv 5 13]),(.block 0 (.loop Qsc QzL))]),Qvw])
def QCU:List (ARv × Md):=[(.l 2 1 true,.b [.o 69])]
def Que:Qb:=TQ 1 0 QCU K
def QSg:Qb:=Qseq (tawp QlB 1 Qvw (Que K)) (Que K)
def QTq:Qb:=Qblk 0 (QSg K)
def Qkl (inn:Int) (n:Int) (c0:List Int) (c1:Int) (c2:Int) (m0:List TOp'):Prop:=Loop QlB 1 Qsc QzL (QTq K) ⟨[(0,(.p 0 0 0)),(2,(.p 1 0 0)),(3,(.p 3 0 0)),(4,(zci inn)),(5,(zci n))],[(0,(.box [(zcs [(.int .u8)] c0),(zci c1),(zci c2)])),(1,(.box [(zcs ctOp ([]))])),(2,(.sl 69 ctOp true m0)),(3,(.box [(.r ctOp 2 0 m0.length)]))],4⟩
theorem QsH (inn:Int) (n:Int) (c0:List Int) (c1:Int) (c2:Int) (m0:List TOp') (h :
 (zif (decide (n>(0:Int))) ((p_op (c0,c1,c2) inn)∧(((m0.length=m0.length∨m0.length+1≤m0.length)∧m0.length+1≤big)∧(Qkl K (((e_op (c0,c1,c2) inn).1).2.2.1) (w64 (n-(1:Int))) (((e_op (c0,c1,c2) inn).2).1) (((e_op (c0,c1,c2) inn).2).2.1) (((e_op (c0,c1,c2) inn).2).2.2) (List.take (m0.length+1) ((List.take m0.length m0)++([(((e_op (c0,c1,c2) inn).1).1,((e_op (c0,c1,c2) inn).1).2.1,((e_op (c0,c1,c2) inn).1).2.2.1,(List.take ((((e_op (c0,c1,c2) inn).1).2.2.2).length) (List.drop 0 (((e_op (c0,c1,c2) inn).1).2.2.2))))])))))) (K (Qbu ((List.take m0.length m0),(c0,c1,c2)))))):Qkl K inn n c0 c1 c2 m0 :=
 Loop.of (by kernel_rfl) h
theorem QW1 (c:((List Int) × Int × Int)) (h :
 ((Zr c (3:Int))∧((Zr ((Qs c (3:Int)).2) (6:Int))∧(Qkl K (w64 ((1:Int)+((Qs c (3:Int)).1))) (w64 ((1:Int)+((Qs ((Qs c (3:Int)).2) (6:Int)).1))) (((Qs ((Qs c (3:Int)).2) (6:Int)).2).1) (((Qs ((Qs c (3:Int)).2) (6:Int)).2).2.1) (((Qs ((Qs c (3:Int)).2) (6:Int)).2).2.2) ([]:List TOp'))))):Hold (tawp QlB (1+0) QVo (TQ 1 0 QCU K) (Qi [(.bx [(.c (.sl [(.int .u8)]) c.1),(.c TI c.2.1),(.c TI c.2.2)])])) :=
 Hold.of (by kernel_rfl) h
theorem Qy6 (c:((List Int) × Int × Int)) (hp:QQ c):∃ t:(List TOp') × (((List Int) × Int × Int)),(Qcv c t)∧TCon Tryz.prog 198 [(.bx [(.c (.sl [(.int .u8)]) c.1),(.c TI c.2.1),(.c TI c.2.2)])] (Qbu t):=by
 refine Y8 (tcx (n:=30) (sg:=Qmn.sg) Qm (TOk.cons Qaz (TOk.cons QKM TOk.nil)) (by kernel_rfl) (by kernel_rfl) (QW1 (fun r'=>∃ t,(Qcv c t)∧r'=Qbu t) c ?_))
 have b1:=YM c 3 hp
 generalize Qs c 3=r1 at b1 ⊢
 have b2:=YM r1.2 6 b1.2.2.2
 generalize Qs r1.2 6=r2 at b2 ⊢
 have h1:=b1.1
 have h2:=b1.2.1 (by omega)
 have h3:=b2.1
 have h4:=b2.2.1 (by omega)
 rw [Qp (x:=1+r1.1) (by omega) (by omega),Qp (x:=1+r2.1) (by omega) (by omega)]
 refine ⟨hp,b1.2.2.2,?_⟩
 have key:∀ (k:Nat) (inn c1 c2:Int) (c0:List Int) (m0:Zf),QQ (c0,c1,c2)→1≤inn→inn≤3→m0.length+k≤6→1≤m0.length+k→Yt none m0=true→Qje none m0 inn=true→Qkl (fun r'=>∃ t,(Qcv c t)∧r'=Qbu t) inn (k:Int) c0 c1 c2 m0:=by
  intro k
  induction k with
  | zero =>
   intro inn c1 c2 c0 m0 hc k1 k2 k3 k4 k5 k6
   refine QsH (fun r'=>∃ t,(Qcv c t)∧r'=Qbu t) _ _ _ _ _ _ ⟨fun h=>by simp at h,fun _=>(ZM ⟨?_,?_,hc⟩)⟩
   ·simp only [List.take_length,QT,Bool.and_eq_true,QP]
    exact ⟨by omega,k5⟩
   ·simp only [List.take_length];omega
  | succ k ih =>
   intro inn c1 c2 c0 m0 hc k1 k2 k3 k4 k5 k6
   have ho:p_op (c0,c1,c2) inn:=⟨hc,k1,k2⟩
   have b:=QSa _ _ ho
   refine QsH (fun r'=>∃ t,(Qcv c t)∧r'=Qbu t) _ _ _ _ _ _ ⟨fun _=>⟨ho,⟨.inl rfl,by rw [Q9];omega⟩,?_⟩,fun h=>by simp at h <;> omega⟩
   rw [Zc,Qp (x:=((k+1:Nat):Int)-1) (by omega) (by omega),show ((k+1:Nat):Int)-1=k by omega]
   refine ih _ _ _ _ _ b.2.2.2.2.2 b.2.2.1 b.2.2.2.1 (by simp;omega) (by simp;omega) (QCw _ _ _ k5 ?_ ?_) ?_
   ·simp only [List.drop_zero,List.take_length];exact b.1
   ·rw [show (((e_op (c0,c1,c2) inn).1.1,(e_op (c0,c1,c2) inn).1.2.1,(e_op (c0,c1,c2) inn).1.2.2.1,List.take (e_op (c0,c1,c2) inn).1.2.2.2.length (List.drop 0 (e_op (c0,c1,c2) inn).1.2.2.2)):TOp').2.1=inn from b.2.1]
    exact k6
   ·exact Qx0 _ _ _
 have h:=key (1+r2.1).toNat (1+r1.1) r2.2.2.1 r2.2.2.2 r2.2.1 [] b2.2.2.2 (by omega) (by omega) (by simp;omega) (by simp;omega) rfl rfl
 rw [Int.toNat_of_nonneg (by omega)] at h
 exact h
theorem QGP (c:((List Int) × Int × Int)) (hp:QQ c):Qcv c (ZL c):=(Classical.epsilon_spec (Qy6 c hp)).1
theorem QTF (c:((List Int) × Int × Int)) (hp:QQ c):TCon Tryz.prog 198 [(.bx [(.c (.sl [(.int .u8)]) c.1),(.c TI c.2.1),(.c TI c.2.2)])] (Qbu (ZL c)):=(Classical.epsilon_spec (Qy6 c hp)).2
theorem QQu:Ql Tryz.prog Qmn:=Qn fun x h=>QTF x.1 h
end
end Go.Proofs.YtjbdljkhbglnhaaGreat.Am

