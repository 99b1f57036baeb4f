/- -/
import Derived.Test.YtjbdljkhbglnhaaGreatZJD1
import Derived.Test.YtjbdljkhbglnhaaGreatZJP4
namespace Go.Proofs.YtjbdljkhbglnhaaGreat.Am
open Go Go.RowKit Go.Proofs.YtjbdljkhbglnhaaGreat
set_option linter.all false
set_option maxHeartbeats 2000000
noncomputable section
variable (K:TRes→Prop)
def Jv (t:Int × (((List Int) × Int × Int))):TRes:=⟨(zci t.1),[],[[(zcs [(.int .u8)] t.2.1),(zci t.2.2.1),(zci t.2.2.2)]],true,[]⟩
def Ju (x0:((List Int) × Int × Int)):Int × (((List Int) × Int × Int)):=Classical.epsilon fun t:Int × (((List Int) × Int × Int))=>(QdY x0 t)∧TCon Tryz.prog 181 [(.bx [(.c (.sl [(.int .u8)]) x0.1),(.c TI x0.2.1),(.c TI x0.2.2)])] (Jv t)
def Qgo:TRow:=Qg 181 [(.b [(.sl [(.int .u8)]),TI,TI])] fun x=>(some (QF x.1),Jv (Ju x.1))
def Qx4:List TRow:=[Y6,QbT]
def QI2:TCode :=
 (zsq [(.reg [zmv 2 (zki 0)]),(zsq [(.reg [zmv 3 0,zca 4 108 [3,(zki 12)]]),(.block 0 (zsq [(.reg [zbi 6 .eql 4 (zki 0),zmv 5 6]),(.cond 5 (zsq [(.reg [zmv 7 0,zop 8 (.bsl 3 [TI] [(zki 2147483647),(zki (-2147483647)),(zki 2147483646),(zki 1),(zki (-1)),(zki 0)]),zca 9 145 [7,8],zmv 2 9]),.ret]) (zsq [(.reg [zbi 11 .eql 4 (zki 1),zmv 10 11]),(.cond 10 (zsq [(.reg [zmv 12 0,zca 13 108 [12,(zki 4000)],zbi 14 .sub 13 (zki 2000),zbi 15 .mul 14 (zki 997),zmv 2 15]),.ret]) (zsq [(.reg [zbi 17 .eql 4 (zki 2),zmv 16 17]),(.cond 16 (zsq [(.reg [zmv 18 0,zca 19 108 [18,(zki 9)],zbi 20 .sub 19 (zki 4),zmv 2 20]),.ret]) .skip)]))]))]))]),(.reg [zmv 21 0,zca 22 108 [21,(zki 17)],zbi 23 .sub 22 (zki 8),zbi 24 .mul 23 (zki 65536),zmv 25 0,zop 26 (.bsl 3 [TI] [(zki 1),(zki 1),(zki 2),(zki 4),(zki 3)]),zca 27 145 [25,26],zbi 28 .quo 24 27,zmv 2 28]),.ret])
def QAQ:List (ARv × Md):=[(.t 2,.one .d)]
theorem QGg (c:((List Int) × Int × Int)) (h :
 ((Zq c (12:Int))∧(zif (((Qm c (12:Int)).1)==(0:Int)) ((YA ((Qm c (12:Int)).2) ([(2147483647:Int),(-2147483647:Int),(2147483646:Int),(1:Int),(-1:Int),(0:Int)]))∧K (Jv ((ZQ ((Qm c (12:Int)).2) ([(2147483647:Int),(-2147483647:Int),(2147483646:Int),(1:Int),(-1:Int),(0:Int)])).1,((ZQ ((Qm c (12:Int)).2) ([(2147483647:Int),(-2147483647:Int),(2147483646:Int),(1:Int),(-1:Int),(0:Int)])).2)))) (zif (((Qm c (12:Int)).1)==(1:Int)) ((Zq ((Qm c (12:Int)).2) (4000:Int))∧K (Jv (w64 ((w64 (((Qm ((Qm c (12:Int)).2) (4000:Int)).1)-(2000:Int)))*(997:Int)),((Qm ((Qm c (12:Int)).2) (4000:Int)).2)))) (zif (((Qm c (12:Int)).1)==(2:Int)) ((Zq ((Qm c (12:Int)).2) (9:Int))∧K (Jv (w64 (((Qm ((Qm c (12:Int)).2) (9:Int)).1)-(4:Int)),((Qm ((Qm c (12:Int)).2) (9:Int)).2)))) (((Zq ((Qm c (12:Int)).2) (17:Int))∧((YA ((Qm ((Qm c (12:Int)).2) (17:Int)).2) ([(1:Int),(1:Int),(2:Int),(4:Int),(3:Int)]))∧(¬ ((ZQ ((Qm ((Qm c (12:Int)).2) (17:Int)).2) ([(1:Int),(1:Int),(2:Int),(4:Int),(3:Int)])).1:Int)=0)))∧K (Jv (w64 (Int.tdiv (w64 ((w64 (((Qm ((Qm c (12:Int)).2) (17:Int)).1)-(8:Int)))*(65536:Int))) ((ZQ ((Qm ((Qm c (12:Int)).2) (17:Int)).2) ([(1:Int),(1:Int),(2:Int),(4:Int),(3:Int)])).1)),((ZQ ((Qm ((Qm c (12:Int)).2) (17:Int)).2) ([(1:Int),(1:Int),(2:Int),(4:Int),(3:Int)])).2))))))))):Hold (tawp Qx4 (1+0) QI2 (TQ 1 0 QAQ K) (Qe [(.bx [(.c (.sl [(.int .u8)]) c.1),(.c TI c.2.1),(.c TI c.2.2)])])) :=
 Hold.of (by kernel_rfl) h
theorem QqP (c:((List Int) × Int × Int)) (hp:QF c):∃ t:Int × (((List Int) × Int × Int)),(QdY c t)∧TCon Tryz.prog 181 [(.bx [(.c (.sl [(.int .u8)]) c.1),(.c TI c.2.1),(.c TI c.2.2)])] (Jv t):=by
 refine YB (tcx (n:=29) (sg:=Qgo.sg) Qi (TOk.cons Jy (TOk.cons Qe2 TOk.nil)) (by kernel_rfl) (by kernel_rfl) (QGg (fun r'=>∃ t,(QdY c t)∧r'=Jv t) c ?_))
 have b1:=Yi c 12 hp
 generalize Qm c 12=r at b1 ⊢
 have hc:QF r.2:=b1.2.2.2
 refine ⟨hp,fun _=>?_,fun _=>⟨fun _=>?_,fun _=>⟨fun _=>?_,fun _=>?_⟩⟩⟩
 ·have hpp:YA r.2 [2147483647,-2147483647,2147483646,1,-1,0]:=⟨hc,by simp,by simp⟩
  have b2:=QcO _ _ hpp
  refine ⟨hpp,ZD ⟨?_,b2.2⟩⟩
  have b3:=b2.1
  simp only [List.mem_cons,List.not_mem_nil,or_false] at b3
  simp only [QU,Bool.and_eq_true,decide_eq_true_eq]
  omega
 ·have b2:=Yi r.2 4000 hc
  refine ⟨hc,ZD ⟨?_,b2.2.2.2⟩⟩
  have h1:=b2.1
  have h2:=b2.2.1 (by omega)
  rw [Qs (x:=_-2000) (by omega) (by omega),Qs (by omega) (by omega)]
  simp only [QU,Bool.and_eq_true,decide_eq_true_eq]
  omega
 ·have b2:=Yi r.2 9 hc
  refine ⟨hc,ZD ⟨?_,b2.2.2.2⟩⟩
  have h1:=b2.1
  have h2:=b2.2.1 (by omega)
  rw [Qs (by omega) (by omega)]
  simp only [QU,Bool.and_eq_true,decide_eq_true_eq]
  omega
 ·have b2:=Yi r.2 17 hc
  have hpp:YA (Qm r.2 17).2 [1,1,2,4,3]:=⟨b2.2.2.2,by simp,by simp⟩
  have b3:=QcO _ _ hpp
  have b4:=b3.1
  simp only [List.mem_cons,List.not_mem_nil,or_false] at b4
  have h1:=b2.1
  have h2:=b2.2.1 (by omega)
  refine ⟨⟨hc,hpp,by omega⟩,ZD ⟨?_,b3.2⟩⟩
  have h3:=QFa (a:=((Qm r.2 17).1-8)*65536) (b:=(ZQ (Qm r.2 17).2 [1,1,2,4,3]).1) (B:=1000000) (by omega) (by omega) (by omega)
  rw [Qs (x:=_-8) (by omega) (by omega),Qs (x:=_*65536) (by omega) (by omega),Qs (by omega) (by omega)]
  simp only [QU,Bool.and_eq_true,decide_eq_true_eq]
  omega
theorem QuH (c:((List Int) × Int × Int)) (hp:QF c):QdY c (Ju c):=(Classical.epsilon_spec (QqP c hp)).1
theorem QvS (c:((List Int) × Int × Int)) (hp:QF c):TCon Tryz.prog 181 [(.bx [(.c (.sl [(.int .u8)]) c.1),(.c TI c.2.1),(.c TI c.2.2)])] (Jv (Ju c)):=(Classical.epsilon_spec (QqP c hp)).2
theorem Qtw:Qh Tryz.prog Qgo:=Qk fun x h=>QvS x.1 h
def Qa7 (t:Int × (((List Int) × Int × Int))):TRes:=⟨(zci t.1),[],[[(zcs [(.int .u8)] t.2.1),(zci t.2.2.1),(zci t.2.2.2)]],true,[]⟩
def QcX (x0:((List Int) × Int × Int)):Int × (((List Int) × Int × Int)):=Classical.epsilon fun t:Int × (((List Int) × Int × Int))=>(Qe0 x0 t)∧TCon Tryz.prog 182 [(.bx [(.c (.sl [(.int .u8)]) x0.1),(.c TI x0.2.1),(.c TI x0.2.2)])] (Qa7 t)
def Qip:TRow:=Qg 182 [(.b [(.sl [(.int .u8)]),TI,TI])] fun x=>(some (QF x.1),Qa7 (QcX x.1))
def QHI:List TRow:=[QcW,QbT,Qgo]
def QBP:TCode :=
 (zsq [(.reg [zmv 2 (zki 0)]),(zsq [(.reg [zmv 3 0,zca 4 106 [3,(zki 8)]]),(.cond 4 (zsq [(.reg [zmv 5 0,zop 6 (.bsl 3 [TI] [(zki 2147483648),(zki (-2147483648)),(zki 9223372036854775807),(zki (-9223372036854775807))]),zca 7 145 [5,6],zmv 2 7]),.ret]) .skip)]),(.reg [zmv 8 0,zca 9 181 [8],zmv 2 9]),.ret])
def QyR:List (ARv × Md):=[(.t 2,.one .d)]
theorem QID (c:((List Int) × Int × Int)) (h :
 ((Zq c (8:Int))∧(zif ((Q1 c (8:Int)).1) ((YA ((Q1 c (8:Int)).2) ([(2147483648:Int),(-2147483648:Int),(9223372036854775807:Int),(-9223372036854775807:Int)]))∧K (Qa7 ((ZQ ((Q1 c (8:Int)).2) ([(2147483648:Int),(-2147483648:Int),(9223372036854775807:Int),(-9223372036854775807:Int)])).1,((ZQ ((Q1 c (8:Int)).2) ([(2147483648:Int),(-2147483648:Int),(9223372036854775807:Int),(-9223372036854775807:Int)])).2)))) ((QF ((Q1 c (8:Int)).2))∧K (Qa7 ((Ju ((Q1 c (8:Int)).2)).1,((Ju ((Q1 c (8:Int)).2)).2))))))):Hold (tawp QHI (1+0) QBP (TQ 1 0 QyR K) (Qe [(.bx [(.c (.sl [(.int .u8)]) c.1),(.c TI c.2.1),(.c TI c.2.2)])])) :=
 Hold.of (by kernel_rfl) h
theorem Qta (c:((List Int) × Int × Int)) (hp:QF c):∃ t:Int × (((List Int) × Int × Int)),(Qe0 c t)∧TCon Tryz.prog 182 [(.bx [(.c (.sl [(.int .u8)]) c.1),(.c TI c.2.1),(.c TI c.2.2)])] (Qa7 t):=by
 refine YB (tcx (n:=10) (sg:=Qip.sg) Qi (TOk.cons QhG (TOk.cons Qe2 (TOk.cons Qtw TOk.nil))) (by kernel_rfl) (by kernel_rfl) (QID (fun r'=>∃ t,(Qe0 c t)∧r'=Qa7 t) c ?_))
 have b1:=Qcw c 8 hp
 generalize Q1 c 8=r at b1 ⊢
 have hpp:YA r.2 [2147483648,-2147483648,9223372036854775807,-9223372036854775807]:=⟨b1,by simp,by simp⟩
 exact ⟨hp,fun _=>⟨hpp,ZD ((QcO _ _ hpp).2)⟩,fun _=>⟨b1,ZD ((QuH _ b1).2)⟩⟩
theorem QBH (c:((List Int) × Int × Int)) (hp:QF c):Qe0 c (QcX c):=(Classical.epsilon_spec (Qta c hp)).1
theorem QJz (c:((List Int) × Int × Int)) (hp:QF c):TCon Tryz.prog 182 [(.bx [(.c (.sl [(.int .u8)]) c.1),(.c TI c.2.1),(.c TI c.2.2)])] (Qa7 (QcX c)):=(Classical.epsilon_spec (Qta c hp)).2
theorem QBx:Qh Tryz.prog Qip:=Qk fun x h=>QJz x.1 h
def JC (t:(List Int) × (((List Int) × Int × Int))):TRes:=⟨(.r [TI] 0 0 ((t.1).length)),[(.sl 3 [TI] true t.1)],[[(zcs [(.int .u8)] t.2.1),(zci t.2.2.1),(zci t.2.2.2)]],true,[]⟩
def Zi (x0:((List Int) × Int × Int)) (x1:Int):(List Int) × (((List Int) × Int × Int)):=Classical.epsilon fun t:(List Int) × (((List Int) × Int × Int))=>(QaM x0 x1 t)∧TCon Tryz.prog 105 [(.bx [(.c (.sl [(.int .u8)]) x0.1),(.c TI x0.2.1),(.c TI x0.2.2)]),(.c TI x1)] (JC t)
def Qbt:TRow:=Qg 105 [(.b [(.sl [(.int .u8)]),TI,TI]),(.c TI)] fun x=>(some (Yb x.1 x.2.1),JC (Zi x.1 x.2.1))
def Qjm:List TRow:=[Qgo]
def Qua:TCode :=
 (zsq [(zsq [(.reg [zmv 8 6,zmv 9 1,zbi 10 .lss 8 9]),(.cond 10 .skip (.exit 0))]),(.block 1 (.reg [zmv 13 5,zmv 14 0,zca 15 181 [14],zop 16 (.bsl 3 [TI] [15]),zop 17 (.app 13 16 3 [TI]),zmv 5 17])),(.reg [zmv 11 6,zbi 12 .add 11 (zki 1),zmv 6 12])])
def QmV:List (Nat × Md):=[(0,.b [.d,.d,.d]),(1,.one .d),(5,.one .f),(6,.one .d)]
def QlX:TCode :=
 (zsq [(.reg [zmv 18 5,zmv 4 18]),.ret])
def QBc:TCode :=
 (zsq [(.reg [zmv 4 (.k (.n [TI]))]),(.reg [zop 7 (.bsl 3 [TI] []),zmv 5 7]),(zsq [(.reg [zmv 6 (zki 0)]),(.block 0 (.loop QmV Qua))]),QlX])
def Qoh:List (ARv × Md):=[(.t 4,.one (.o 3))]
def QtC:Qc:=TQ 1 0 Qoh K
def QDA:Qc:=Qseq (tawp Qjm 1 QlX (QtC K)) (QtC K)
def QHT:Qc:=Qblk 0 (QDA K)
def Qgp (n:Int) (i:Int) (c0:List Int) (c1:Int) (c2:Int) (out:List Int):Prop:=Loop Qjm 1 QmV Qua (QHT K) ⟨[(0,(.p 0 0 0)),(1,(zci n)),(5,(.r [TI] 1 0 out.length)),(6,(zci i))],[(0,(.box [(zcs [(.int .u8)] c0),(zci c1),(zci c2)])),(1,(.sl 3 [TI] true out))],2⟩
theorem QoZ (n:Int) (i:Int) (c0:List Int) (c1:Int) (c2:Int) (out:List Int) (h :
 (zif (decide (i<n)) (((QF (c0,c1,c2))∧((out.length=out.length∨out.length+1≤out.length)∧out.length+1≤big))∧(Qgp K n (w64 (i+(1:Int))) (((Ju (c0,c1,c2)).2).1) (((Ju (c0,c1,c2)).2).2.1) (((Ju (c0,c1,c2)).2).2.2) (List.take (out.length+1) ((List.take out.length out)++([(Ju (c0,c1,c2)).1]))))) (K (JC ((List.take out.length out),(c0,c1,c2)))))):Qgp K n i c0 c1 c2 out :=
 Loop.of (by kernel_rfl) h
theorem QBd (c:((List Int) × Int × Int)) (n:Int) (h :
 (Qgp K n 0 c.1 c.2.1 c.2.2 ([]:List Int))):Hold (tawp Qjm (1+0) QBc (TQ 1 0 Qoh K) (Qe [(.bx [(.c (.sl [(.int .u8)]) c.1),(.c TI c.2.1),(.c TI c.2.2)]),(.c TI n)])) :=
 Hold.of (by kernel_rfl) h
theorem QuU (c:((List Int) × Int × Int)) (n:Int) (hp:Yb c n):∃ t:(List Int) × (((List Int) × Int × Int)),(QaM c n t)∧TCon Tryz.prog 105 [(.bx [(.c (.sl [(.int .u8)]) c.1),(.c TI c.2.1),(.c TI c.2.2)]),(.c TI n)] (JC t):=by
 refine YB (tcx (n:=19) (sg:=Qbt.sg) Qi (TOk.cons Qtw TOk.nil) (by kernel_rfl) (by kernel_rfl) (QBd (fun r'=>∃ t,(QaM c n t)∧r'=JC t) c n ?_))
 obtain ⟨h1,h2⟩:=hp
 refine Y7 n.toNat (fun k=>∀ (c0:List Int) (c1 c2:Int) (out:List Int),out.length=k→Q8 out=true→QF (c0,c1,c2)→Qgp (fun r'=>∃ t,(QaM c n t)∧r'=JC t) n (k:Int) c0 c1 c2 out) ?_ ?_ c.1 c.2.1 c.2.2 [] rfl rfl h1
 ·intro c0 c1 c2 out hl hf hc
  refine QoZ (fun r'=>∃ t,(QaM c n t)∧r'=JC t) n _ _ _ _ _ ⟨fun h=>by simp at h;omega,fun _=>(ZD ⟨?_,?_,hc⟩)⟩
  ·simp;omega
  ·simp only [List.take_length];exact hf
 ·intro k hk ih c0 c1 c2 out hl hf hc
  have b:=QuH (c0,c1,c2) hc
  refine QoZ (fun r'=>∃ t,(QaM c n t)∧r'=JC t) n _ _ _ _ _ ⟨fun _=>⟨⟨hc,.inl rfl,by rw [ZC];omega⟩,?_⟩,fun h=>by simp at h;omega⟩
  rw [sc1 (by omega),Q9]
  exact ih _ _ _ _ (by simp;omega) (QvU hf b.1) b.2
theorem QaK (c:((List Int) × Int × Int)) (n:Int) (hp:Yb c n):QaM c n (Zi c n):=(Classical.epsilon_spec (QuU c n hp)).1
theorem QJh (c:((List Int) × Int × Int)) (n:Int) (hp:Yb c n):TCon Tryz.prog 105 [(.bx [(.c (.sl [(.int .u8)]) c.1),(.c TI c.2.1),(.c TI c.2.2)]),(.c TI n)] (JC (Zi c n)):=(Classical.epsilon_spec (QuU c n hp)).2
theorem Qgh:Qh Tryz.prog Qbt:=Qk fun x h=>QJh x.1 x.2.1 h
def Qaq (t:(List Int) × (((List Int) × Int × Int))):TRes:=⟨(zcs [TI] t.1),[],[[(zcs [(.int .u8)] t.2.1),(zci t.2.2.1),(zci t.2.2.2)]],true,[]⟩
def Jc (x0:((List Int) × Int × Int)):(List Int) × (((List Int) × Int × Int)):=Classical.epsilon fun t:(List Int) × (((List Int) × Int × Int))=>(QeP x0 t)∧TCon Tryz.prog 107 [(.bx [(.c (.sl [(.int .u8)]) x0.1),(.c TI x0.2.1),(.c TI x0.2.2)])] (Qaq t)
def QeW:TRow:=Qg 107 [(.b [(.sl [(.int .u8)]),TI,TI])] fun x=>(some (QF x.1),Qaq (Jc x.1))
def QAx:List TRow:=[Y6,Qbt,Qip,QbT]
def QGl:TCode :=
 (zsq [(.reg [zmv 2 (.k (.n [TI]))]),(.reg [zmv 4 0,zmv 5 0,zca 6 108 [5,(zki 4)],zbi 7 .add (zki 1) 6,zca 8 105 [4,7],zmv 3 8]),(zsq [(.reg [zmv 9 0,zca 10 108 [9,(zki 16)]]),(.block 0 (zsq [(.reg [zbi 12 .eql 10 (zki 0),zmv 11 12]),(.cond 11 (.reg [zmv 13 3,zmv 14 0,zca 15 182 [14],zia 16 13 (zki 0) [TI],zst 16 15 1]) (zsq [(.reg [zbi 18 .eql 10 (zki 1),zmv 17 18]),(.cond 17 (zsq [(.reg [zmv 19 0,zmv 20 0,zop 21 (.bsl 3 [TI] [(zki 0),(zki 6),(zki 7)]),zca 22 145 [20,21],zca 23 105 [19,22],zmv 2 23]),.ret]) .skip)]))]))]),(.reg [zmv 24 3,zmv 2 24]),.ret])
def Qy7:List (ARv × Md):=[(.t 2,.one .d)]
theorem QwU (c:((List Int) × Int × Int)) (h :
 let z3:=Qm c (4:Int)
 let z1:=Zi (z3.2) (w64 ((1:Int)+(z3.1)))
 let z2:=Qm (z1.2) (16:Int)
 (((Zq c (4:Int))∧(Yb (z3.2) (w64 ((1:Int)+(z3.1)))))∧((Zq (z1.2) (16:Int))∧(zif ((z2.1)==(0:Int)) (((QF (z2.2))∧(((0:Int)≤(0:Int)∧Int.toNat (0:Int)<(z1.1).length)∧((0+(Int.toNat (0:Int)))<(z1.1).length)))∧K (Qaq ((List.take ((z1.1).length) (List.drop 0 ((z1.1).set (0+(Int.toNat (0:Int))) ((QcX (z2.2)).1)))),((QcX (z2.2)).2)))) (zif ((z2.1)==(1:Int)) (((YA (z2.2) ([(0:Int),(6:Int),(7:Int)]))∧(Yb ((ZQ (z2.2) ([(0:Int),(6:Int),(7:Int)])).2) ((ZQ (z2.2) ([(0:Int),(6:Int),(7:Int)])).1)))∧K (Qaq ((List.take (((Zi ((ZQ (z2.2) ([(0:Int),(6:Int),(7:Int)])).2) ((ZQ (z2.2) ([(0:Int),(6:Int),(7:Int)])).1)).1).length) (List.drop 0 ((Zi ((ZQ (z2.2) ([(0:Int),(6:Int),(7:Int)])).2) ((ZQ (z2.2) ([(0:Int),(6:Int),(7:Int)])).1)).1))),((Zi ((ZQ (z2.2) ([(0:Int),(6:Int),(7:Int)])).2) ((ZQ (z2.2) ([(0:Int),(6:Int),(7:Int)])).1)).2)))) (K (Qaq ((List.take ((z1.1).length) (List.drop 0 (z1.1))),(z2.2))))))))):Hold (tawp QAx (1+0) QGl (TQ 1 0 Qy7 K) (Qe [(.bx [(.c (.sl [(.int .u8)]) c.1),(.c TI c.2.1),(.c TI c.2.2)])])) :=
 Hold.of (by kernel_rfl) h
theorem QlY (c:((List Int) × Int × Int)) (hp:QF c):∃ t:(List Int) × (((List Int) × Int × Int)),(QeP c t)∧TCon Tryz.prog 107 [(.bx [(.c (.sl [(.int .u8)]) c.1),(.c TI c.2.1),(.c TI c.2.2)])] (Qaq t):=by
 refine YB (tcx (n:=25) (sg:=QeW.sg) Qi (TOk.cons Jy (TOk.cons Qgh (TOk.cons QBx (TOk.cons Qe2 TOk.nil)))) (by kernel_rfl) (by kernel_rfl) (QwU (fun r'=>∃ t,(QeP c t)∧r'=Qaq t) c ?_))
 conv=>zeta
 have b1:=Yi c 4 hp
 generalize Qm c 4=r1 at b1 ⊢
 have h1:=b1.1
 have h2:=b1.2.1 (by omega)
 rw [Qs (x:=1+r1.1) (by omega) (by omega)]
 have hv:Yb r1.2 (1+r1.1):=⟨b1.2.2.2,by omega⟩
 have b2:=QaK _ _ hv
 generalize Zi r1.2 (1+r1.1)=r2 at b2 ⊢
 have b3:=Yi r2.2 16 b2.2.2
 generalize Qm r2.2 16=r3 at b3 ⊢
 have hc:=b3.2.2.2
 have hl:=b2.1
 have hpk:YA r3.2 [0,6,7]:=⟨hc,by simp,by simp⟩
 have b4:=QcO _ _ hpk
 have b5:=b4.1
 simp only [List.mem_cons,List.not_mem_nil,or_false] at b5
 have hv2:Yb (ZQ r3.2 [0,6,7]).2 (ZQ r3.2 [0,6,7]).1:=⟨b4.2,by omega⟩
 have b6:=QaK _ _ hv2
 have hl2:=b6.1
 refine ⟨⟨hp,hv⟩,b2.2.2,fun _=>⟨⟨hc,⟨by omega,?_⟩,?_⟩,ZD ⟨?_,QBH _ hc⟩⟩,fun _=>⟨fun _=>⟨⟨hpk,hv2⟩,ZD ⟨?_,b6.2.2⟩⟩,fun _=>(ZD ⟨?_,hc⟩)⟩⟩ <;> (simp;omega)
theorem Qqa (c:((List Int) × Int × Int)) (hp:QF c):QeP c (Jc c):=(Classical.epsilon_spec (QlY c hp)).1
theorem QEm (c:((List Int) × Int × Int)) (hp:QF c):TCon Tryz.prog 107 [(.bx [(.c (.sl [(.int .u8)]) c.1),(.c TI c.2.1),(.c TI c.2.2)])] (Qaq (Jc c)):=(Classical.epsilon_spec (QlY c hp)).2
theorem QrN:Qh Tryz.prog QeW:=Qk fun x h=>QEm x.1 h
def JV (t:TOp' × (((List Int) × Int × Int))):TRes:=⟨(.a [(zci t.1.1),(zci t.1.2.1),(zci t.1.2.2.1),(.r [TI] 0 0 ((t.1.2.2.2).length))]),[(.sl 3 [TI] true t.1.2.2.2)],[[(zcs [(.int .u8)] t.2.1),(zci t.2.2.1),(zci t.2.2.2)]],true,[]⟩
def e_op (x0:((List Int) × Int × Int)) (x1:Int):TOp' × (((List Int) × Int × Int)):=Classical.epsilon fun t:TOp' × (((List Int) × Int × Int))=>(q_op x0 x1 t)∧TCon Tryz.prog 223 [(.bx [(.c (.sl [(.int .u8)]) x0.1),(.c TI x0.2.1),(.c TI x0.2.2)]),(.c TI x1)] (JV t)
def QhO:TRow:=Qg 223 [(.b [(.sl [(.int .u8)]),TI,TI]),(.c TI)] fun x=>(some (p_op x.1 x.2.1),JV (e_op x.1 x.2.1))
def QpL:List TRow:=[Y6,Qd5,Qbt]
def Qos:TCode :=
 (zsq [(.reg [zmv 19 0,zLd 20 5 4,zca 21 202 [20],zca 22 105 [19,21],zfa 23 5 3,zst 23 22 1]),(.reg [zLd 24 5 4,zst 4 24 4]),.ret])
def QEN:List (Nat × Md):=[(0,.b [.d,.d,.d]),(4,.b (zds 4)),(5,.b (zds 4))]
def QEE:TCode:=.wk QEN Qos
def QEa:TCode :=
 (zsq [(.reg [zop 4 (.new 69 (z0s ctOp))]),(.reg [zmv 6 0,zca 7 108 [6,(zki 5)],zbi 8 .add (zki 1) 7,zmv 9 1,zmv 10 1,zop 11 (.build (z0s ctOp) [(0,1,8),(1,1,9),(2,1,10)]),zop 5 (.new 69 (z0s ctOp)),zst 5 11 4]),(zsq [(.reg [zfa 12 5 0,zld 13 12 1,zbi 14 .eql 13 (zki 1)]),(.cond 14 (.reg [zmv 15 0,zca 16 108 [15,(zki 3)],zbi 17 .add (zki 1) 16,zfa 18 5 2,zst 18 17 1]) .skip)]),QEE])
def QmG:List (ARv × Md):=[(.l 4 4 true,.b [.d,.d,.d,.o 3])]
def QB9:Qc:=TQ 1 0 QmG K
@[irreducible] def QfP (c:((List Int) × Int × Int)) (inn:Int) (c0:List Int) (c1:Int) (c2:Int) (o2:Int):Prop:=tawp QpL 1 Qos (QB9 K) ⟨[(0,(.p 0 0 0)),(4,(.p 1 0 0)),(5,(.p 2 0 0))],[(0,(.box [(zcs [(.int .u8)] c0),(zci c1),(zci c2)])),(1,(.box (Tup.cells ctOp ((0:Int),(0:Int),(0:Int),[])))),(2,(.box (Tup.cells ctOp (w64 ((1:Int)+((Qm c (5:Int)).1)),inn,o2,[]))))],3⟩
theorem QH8 (c:((List Int) × Int × Int)) (inn:Int) (c0:List Int) (c1:Int) (c2:Int) (o2:Int) (h :
 ((Yb (c0,c1,c2) (ZE (w64 ((1:Int)+((Qm c (5:Int)).1)),inn,o2,[])))∧K (JV ((w64 ((1:Int)+((Qm c (5:Int)).1)),inn,o2,(List.take (((Zi (c0,c1,c2) (ZE (w64 ((1:Int)+((Qm c (5:Int)).1)),inn,o2,[]))).1).length) ((Zi (c0,c1,c2) (ZE (w64 ((1:Int)+((Qm c (5:Int)).1)),inn,o2,[]))).1))),((Zi (c0,c1,c2) (ZE (w64 ((1:Int)+((Qm c (5:Int)).1)),inn,o2,[]))).2))))):Hold (QfP K c inn c0 c1 c2 o2) :=
 Hold.of (by kernel_rfl) h
theorem Qzc (c:((List Int) × Int × Int)) (inn:Int) (h :
 ((Zq c (5:Int))∧(zif ((w64 ((1:Int)+((Qm c (5:Int)).1)))==(1:Int)) ((Zq ((Qm c (5:Int)).2) (3:Int))∧(QfP K c inn (((Qm ((Qm c (5:Int)).2) (3:Int)).2).1) (((Qm ((Qm c (5:Int)).2) (3:Int)).2).2.1) (((Qm ((Qm c (5:Int)).2) (3:Int)).2).2.2) (w64 ((1:Int)+((Qm ((Qm c (5:Int)).2) (3:Int)).1))))) (QfP K c inn (((Qm c (5:Int)).2).1) (((Qm c (5:Int)).2).2.1) (((Qm c (5:Int)).2).2.2) inn)))):Hold (tawp QpL (1+0) QEa (TQ 1 0 QmG K) (Qe [(.bx [(.c (.sl [(.int .u8)]) c.1),(.c TI c.2.1),(.c TI c.2.2)]),(.c TI inn)])) :=
 Hold.of (by kernel_rfl) h
theorem QsG (c:((List Int) × Int × Int)) (inn:Int) (hp:p_op c inn):∃ t:TOp' × (((List Int) × Int × Int)),(q_op c inn t)∧TCon Tryz.prog 223 [(.bx [(.c (.sl [(.int .u8)]) c.1),(.c TI c.2.1),(.c TI c.2.2)]),(.c TI inn)] (JV t):=by
 refine YB (tcx (n:=25) (sg:=QhO.sg) Qi (TOk.cons Jy (TOk.cons QqT (TOk.cons Qgh TOk.nil))) (by kernel_rfl) (by kernel_rfl) (Qzc (fun r'=>∃ t,(q_op c inn t)∧r'=JV t) c inn ?_))
 have b1:=Yi c 5 hp.1
 have h1:=b1.1
 have h2:=b1.2.1 (by omega)
 obtain ⟨_,h3,h4⟩:=hp
 have hw:w64 (1+(Qm c 5).1)=1+(Qm c 5).1:=Qs (by omega) (by omega)
 have key:∀ c0 c1 c2 o2,QF (c0,c1,c2)→1≤o2→o2≤3→(1+(Qm c 5).1=1∨inn=o2)→QfP (fun r'=>∃ t,(q_op c inn t)∧r'=JV t) c inn c0 c1 c2 o2:=by
  intro c0 c1 c2 o2 hc k1 k2 k3
  refine (QH8 (fun r'=>∃ t,(q_op c inn t)∧r'=JV t) c inn c0 c1 c2 o2 ?_).h
  rw [hw]
  have h5:1≤1+(Qm c 5).1:=by omega
  have h6:1+(Qm c 5).1≤5:=by omega
  generalize 1+(Qm c 5).1=o1 at h5 h6 k3 ⊢
  have hs:=Qsh o1 [] h3 h4 k1 k2
  have hv:Yb (c0,c1,c2) (ZE (o1,inn,o2,[])):=⟨hc,by omega⟩
  have b:=QaK _ _ hv
  have hl:=b.1
  refine ⟨hv,ZD ⟨?_,rfl,k1,k2,?_,b.2.2⟩⟩
  ·simp only [List.take_length]
   exact Qxm h5 h6 h3 h4 k1 k2 k3 hl b.2.1
  ·simp;omega
 have b2:=Yi (Qm c 5).2 3 b1.2.2.2
 have h7:=b2.1
 have h8:=b2.2.1 (by omega)
 rw [hw] at *
 refine ⟨‹QF c›,fun h=>⟨b1.2.2.2,?_⟩,fun _=>key _ _ _ _ b1.2.2.2 h3 h4 (.inr rfl)⟩
 rw [Qs (x:=1+(Qm (Qm c 5).2 3).1) (by omega) (by omega)]
 exact key _ _ _ _ b2.2.2.2 (by omega) (by omega) (.inl (by simpa using h))
theorem QCy (c:((List Int) × Int × Int)) (inn:Int) (hp:p_op c inn):q_op c inn (e_op c inn):=(Classical.epsilon_spec (QsG c inn hp)).1
theorem Qy4 (c:((List Int) × Int × Int)) (inn:Int) (hp:p_op c inn):TCon Tryz.prog 223 [(.bx [(.c (.sl [(.int .u8)]) c.1),(.c TI c.2.1),(.c TI c.2.2)]),(.c TI inn)] (JV (e_op c inn)):=(Classical.epsilon_spec (QsG c inn hp)).2
theorem QFA:Qh Tryz.prog QhO:=Qk fun x h=>Qy4 x.1 x.2.1 h
def JD (t:(List TOp') × (((List Int) × Int × Int))):TRes:=⟨(.a [(.r ctOp 0 0 ((t.1).length))]),[(.sl 69 ctOp true t.1)],[[(zcs [(.int .u8)] t.2.1),(zci t.2.2.1),(zci t.2.2.2)]],true,[]⟩
def QR (x0:((List Int) × Int × Int)):(List TOp') × (((List Int) × Int × Int)):=Classical.epsilon fun t:(List TOp') × (((List Int) × Int × Int))=>(Qay x0 t)∧TCon Tryz.prog 198 [(.bx [(.c (.sl [(.int .u8)]) x0.1),(.c TI x0.2.1),(.c TI x0.2.2)])] (JD t)
def Qh1:TRow:=Qg 198 [(.b [(.sl [(.int .u8)]),TI,TI])] fun x=>(some (QF x.1),JD (QR x.1))
def Qk1:List TRow:=[Y6,QhO]
def Qnc:TCode :=
 (zsq [(zsq [(.reg [zmv 14 5,zbi 15 .gtr 14 (zki 0)]),(.cond 15 .skip (.exit 0))]),(.block 1 (zsq [(.reg [zmv 18 0,zmv 19 4,zca 20 223 [18,19],zop 6 (.new 69 (z0s ctOp)),zst 6 20 4]),(.reg [zfa 21 3 0,zld 22 21 1,zLd 23 6 4,zop 24 (.bsl 69 ctOp [23]),zop 25 (.app 22 24 69 ctOp),zfa 26 3 0,zst 26 25 1]),(.reg [zfa 27 6 2,zld 28 27 1,zmv 4 28])])),(.reg [zmv 16 5,zbi 17 .sub 16 (zki 1),zmv 5 17])])
def Qml:List (Nat × Md):=[(0,.b [.d,.d,.d]),(2,.b [.d]),(3,.b [.o 69]),(4,.one .d),(5,.one .d)]
def QtG:TCode :=
 (zsq [(.reg [zLd 29 3 1,zst 2 29 1]),.ret])
def QCA:TCode :=
 (zsq [(.reg [zop 2 (.new 26 [(.n ctOp)])]),(.reg [zop 7 (.build [(.n ctOp)] []),zop 3 (.new 26 [(.n ctOp)]),zst 3 7 1]),(.reg [zmv 8 0,zca 9 108 [8,(zki 3)],zbi 10 .add (zki 1) 9,zmv 4 10]),(zsq [(.reg [zmv 11 0,zca 12 108 [11,(zki 6)],zbi 13 .add (zki 1) 12,zmv 5 13]),(.block 0 (.loop Qml Qnc))]),QtG])
def QuN:List (ARv × Md):=[(.l 2 1 true,.b [.o 69])]
def Qpo:Qc:=TQ 1 0 QuN K
def Qvc:Qc:=Qseq (tawp Qk1 1 QtG (Qpo K)) (Qpo K)
def QwJ:Qc:=Qblk 0 (Qvc K)
def QdD (inn:Int) (n:Int) (c0:List Int) (c1:Int) (c2:Int) (m0:List TOp'):Prop:=Loop Qk1 1 Qml Qnc (QwJ K) ⟨[(0,(.p 0 0 0)),(2,(.p 1 0 0)),(3,(.p 3 0 0)),(4,(zci inn)),(5,(zci n))],[(0,(.box [(zcs [(.int .u8)] c0),(zci c1),(zci c2)])),(1,(.box [(zcs ctOp ([]))])),(2,(.sl 69 ctOp true m0)),(3,(.box [(.r ctOp 2 0 m0.length)]))],4⟩
theorem Qrn (inn:Int) (n:Int) (c0:List Int) (c1:Int) (c2:Int) (m0:List TOp') (h :
 (zif (decide (n>(0:Int))) ((p_op (c0,c1,c2) inn)∧(((m0.length=m0.length∨m0.length+1≤m0.length)∧m0.length+1≤big)∧(QdD K (((e_op (c0,c1,c2) inn).1).2.2.1) (w64 (n-(1:Int))) (((e_op (c0,c1,c2) inn).2).1) (((e_op (c0,c1,c2) inn).2).2.1) (((e_op (c0,c1,c2) inn).2).2.2) (List.take (m0.length+1) ((List.take m0.length m0)++([(((e_op (c0,c1,c2) inn).1).1,((e_op (c0,c1,c2) inn).1).2.1,((e_op (c0,c1,c2) inn).1).2.2.1,(List.take ((((e_op (c0,c1,c2) inn).1).2.2.2).length) (List.drop 0 (((e_op (c0,c1,c2) inn).1).2.2.2))))])))))) (K (JD ((List.take m0.length m0),(c0,c1,c2)))))):QdD K inn n c0 c1 c2 m0 :=
 Loop.of (by kernel_rfl) h
theorem QDy (c:((List Int) × Int × Int)) (h :
 ((Zq c (3:Int))∧((Zq ((Qm c (3:Int)).2) (6:Int))∧(QdD K (w64 ((1:Int)+((Qm c (3:Int)).1))) (w64 ((1:Int)+((Qm ((Qm c (3:Int)).2) (6:Int)).1))) (((Qm ((Qm c (3:Int)).2) (6:Int)).2).1) (((Qm ((Qm c (3:Int)).2) (6:Int)).2).2.1) (((Qm ((Qm c (3:Int)).2) (6:Int)).2).2.2) ([]:List TOp'))))):Hold (tawp Qk1 (1+0) QCA (TQ 1 0 QuN K) (Qe [(.bx [(.c (.sl [(.int .u8)]) c.1),(.c TI c.2.1),(.c TI c.2.2)])])) :=
 Hold.of (by kernel_rfl) h
theorem QmK (c:((List Int) × Int × Int)) (hp:QF c):∃ t:(List TOp') × (((List Int) × Int × Int)),(Qay c t)∧TCon Tryz.prog 198 [(.bx [(.c (.sl [(.int .u8)]) c.1),(.c TI c.2.1),(.c TI c.2.2)])] (JD t):=by
 refine YB (tcx (n:=30) (sg:=Qh1.sg) Qi (TOk.cons Jy (TOk.cons QFA TOk.nil)) (by kernel_rfl) (by kernel_rfl) (QDy (fun r'=>∃ t,(Qay c t)∧r'=JD t) c ?_))
 have b1:=Yi c 3 hp
 generalize Qm c 3=r1 at b1 ⊢
 have b2:=Yi r1.2 6 b1.2.2.2
 generalize Qm r1.2 6=r2 at b2 ⊢
 have h1:=b1.1
 have h2:=b1.2.1 (by omega)
 have h3:=b2.1
 have h4:=b2.2.1 (by omega)
 rw [Qs (x:=1+r1.1) (by omega) (by omega),Qs (x:=1+r2.1) (by omega) (by omega)]
 refine ⟨hp,b1.2.2.2,?_⟩
 have key:∀ (k:Nat) (inn c1 c2:Int) (c0:List Int) (m0:Q6),QF (c0,c1,c2)→1≤inn→inn≤3→m0.length+k≤6→1≤m0.length+k→ZO none m0=true→Qdr none m0 inn=true→QdD (fun r'=>∃ t,(Qay c t)∧r'=JD t) inn (k:Int) c0 c1 c2 m0:=by
  intro k
  induction k with
  | zero =>
   intro inn c1 c2 c0 m0 hc k1 k2 k3 k4 k5 k6
   refine Qrn (fun r'=>∃ t,(Qay c t)∧r'=JD t) _ _ _ _ _ _ ⟨fun h=>by simp at h,fun _=>(ZD ⟨?_,?_,hc⟩)⟩
   ·simp only [List.take_length,QC,Bool.and_eq_true,Zh]
    exact ⟨by omega,k5⟩
   ·simp only [List.take_length];omega
  | succ k ih =>
   intro inn c1 c2 c0 m0 hc k1 k2 k3 k4 k5 k6
   have ho:p_op (c0,c1,c2) inn:=⟨hc,k1,k2⟩
   have b:=QCy _ _ ho
   refine Qrn (fun r'=>∃ t,(Qay c t)∧r'=JD t) _ _ _ _ _ _ ⟨fun _=>⟨ho,⟨.inl rfl,by rw [ZC];omega⟩,?_⟩,fun h=>by simp at h <;> omega⟩
   rw [Q9,Qs (x:=((k+1:Nat):Int)-1) (by omega) (by omega),show ((k+1:Nat):Int)-1=k by omega]
   refine ih _ _ _ _ _ b.2.2.2.2.2 b.2.2.1 b.2.2.2.1 (by simp;omega) (by simp;omega) (QnF _ _ _ k5 ?_ ?_) ?_
   ·simp only [List.drop_zero,List.take_length];exact b.1
   ·rw [show (((e_op (c0,c1,c2) inn).1.1,(e_op (c0,c1,c2) inn).1.2.1,(e_op (c0,c1,c2) inn).1.2.2.1,List.take (e_op (c0,c1,c2) inn).1.2.2.2.length (List.drop 0 (e_op (c0,c1,c2) inn).1.2.2.2)):TOp').2.1=inn from b.2.1]
    exact k6
   ·exact QrB _ _ _
 have h:=key (1+r2.1).toNat (1+r1.1) r2.2.2.1 r2.2.2.2 r2.2.1 [] b2.2.2.2 (by omega) (by omega) (by simp;omega) (by simp;omega) rfl rfl
 rw [Int.toNat_of_nonneg (by omega)] at h
 exact h
theorem QAR (c:((List Int) × Int × Int)) (hp:QF c):Qay c (QR c):=(Classical.epsilon_spec (QmK c hp)).1
theorem QHk (c:((List Int) × Int × Int)) (hp:QF c):TCon Tryz.prog 198 [(.bx [(.c (.sl [(.int .u8)]) c.1),(.c TI c.2.1),(.c TI c.2.2)])] (JD (QR c)):=(Classical.epsilon_spec (QmK c hp)).2
theorem QET:Qh Tryz.prog Qh1:=Qk fun x h=>QHk x.1 h
end
end Go.Proofs.YtjbdljkhbglnhaaGreat.Am

