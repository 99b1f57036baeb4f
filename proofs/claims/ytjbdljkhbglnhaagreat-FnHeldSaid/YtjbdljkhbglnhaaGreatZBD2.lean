/- -/
import Derived.Test.YtjbdljkhbglnhaaGreatZBD1
import Derived.Test.YtjbdljkhbglnhaaGreatZBP4
namespace Go.Proofs.YtjbdljkhbglnhaaGreat.Am
open Go Go.RowKit Go.Proofs.YtjbdljkhbglnhaaGreat
set_option linter.all false
set_option maxHeartbeats 2000000
noncomputable section
variable (K:TRes→Prop)
def Qbj (t:Int × (((List Int) × Int × Int))):TRes:=⟨(zci t.1),[],[[(zcs [(.int .u8)] t.2.1),(zci t.2.2.1),(zci t.2.2.2)]],true,[]⟩
def Qa1 (x0:((List Int) × Int × Int)):Int × (((List Int) × Int × Int)):=Classical.epsilon fun t:Int × (((List Int) × Int × Int))=>(Qii x0 t)∧TCon Tryz.prog 181 [(.bx [(.c (.sl [(.int .u8)]) x0.1),(.c TI x0.2.1),(.c TI x0.2.2)])] (Qbj t)
def Qhd:TRow:=Qi 181 [(.b [(.sl [(.int .u8)]),TI,TI])] fun x=>(some (Qy x.1),Qbj (Qa1 x.1))
def QOC:List TRow:=[Jq,QbO]
def QL4:TCode :=
 (zsq [(.reg [zmv 2 (zki 0)]),(zsq [(.reg [zmv 3 0,zca 4 108 [3,(zki 12)]]),(.block 0 (zsq [(.reg [zbi 6 .eql 4 (zki 0),zmv 5 6]),(.cond 5 (zsq [(.reg [zmv 7 0,zop 8 (.bsl 3 [TI] [(zki 2147483647),(zki (-2147483647)),(zki 2147483646),(zki 1),(zki (-1)),(zki 0)]),zca 9 145 [7,8],zmv 2 9]),.ret]) (zsq [(.reg [zbi 11 .eql 4 (zki 1),zmv 10 11]),(.cond 10 (zsq [(.reg [zmv 12 0,zca 13 108 [12,(zki 4000)],zbi 14 .sub 13 (zki 2000),zbi 15 .mul 14 (zki 997),zmv 2 15]),.ret]) (zsq [(.reg [zbi 17 .eql 4 (zki 2),zmv 16 17]),(.cond 16 (zsq [(.reg [zmv 18 0,zca 19 108 [18,(zki 9)],zbi 20 .sub 19 (zki 4),zmv 2 20]),.ret]) .skip)]))]))]))]),(.reg [zmv 21 0,zca 22 108 [21,(zki 17)],zbi 23 .sub 22 (zki 8),zbi 24 .mul 23 (zki 65536),zmv 25 0,zop 26 (.bsl 3 [TI] [(zki 1),(zki 1),(zki 2),(zki 4),(zki 3)]),zca 27 145 [25,26],zbi 28 .quo 24 27,zmv 2 28]),.ret])
def QJU:List (ARv × Md):=[(.t 2,.one .d)]
theorem QBW (c:((List Int) × Int × Int)) (h :
 ((Q9 c (12:Int))∧(zif (((Qe c (12:Int)).1)==(0:Int)) ((YU ((Qe c (12:Int)).2) ([(2147483647:Int),(-2147483647:Int),(2147483646:Int),(1:Int),(-1:Int),(0:Int)]))∧K (Qbj ((Zu ((Qe c (12:Int)).2) ([(2147483647:Int),(-2147483647:Int),(2147483646:Int),(1:Int),(-1:Int),(0:Int)])).1,((Zu ((Qe c (12:Int)).2) ([(2147483647:Int),(-2147483647:Int),(2147483646:Int),(1:Int),(-1:Int),(0:Int)])).2)))) (zif (((Qe c (12:Int)).1)==(1:Int)) ((Q9 ((Qe c (12:Int)).2) (4000:Int))∧K (Qbj (w64 ((w64 (((Qe ((Qe c (12:Int)).2) (4000:Int)).1)-(2000:Int)))*(997:Int)),((Qe ((Qe c (12:Int)).2) (4000:Int)).2)))) (zif (((Qe c (12:Int)).1)==(2:Int)) ((Q9 ((Qe c (12:Int)).2) (9:Int))∧K (Qbj (w64 (((Qe ((Qe c (12:Int)).2) (9:Int)).1)-(4:Int)),((Qe ((Qe c (12:Int)).2) (9:Int)).2)))) (((Q9 ((Qe c (12:Int)).2) (17:Int))∧((YU ((Qe ((Qe c (12:Int)).2) (17:Int)).2) ([(1:Int),(1:Int),(2:Int),(4:Int),(3:Int)]))∧(¬ ((Zu ((Qe ((Qe c (12:Int)).2) (17:Int)).2) ([(1:Int),(1:Int),(2:Int),(4:Int),(3:Int)])).1:Int)=0)))∧K (Qbj (w64 (Int.tdiv (w64 ((w64 (((Qe ((Qe c (12:Int)).2) (17:Int)).1)-(8:Int)))*(65536:Int))) ((Zu ((Qe ((Qe c (12:Int)).2) (17:Int)).2) ([(1:Int),(1:Int),(2:Int),(4:Int),(3:Int)])).1)),((Zu ((Qe ((Qe c (12:Int)).2) (17:Int)).2) ([(1:Int),(1:Int),(2:Int),(4:Int),(3:Int)])).2))))))))):Hold (tawp QOC (1+0) QL4 (TQ 1 0 QJU K) (Qf [(.bx [(.c (.sl [(.int .u8)]) c.1),(.c TI c.2.1),(.c TI c.2.2)])])) :=
 Hold.of (by kernel_rfl) h
theorem QtX (c:((List Int) × Int × Int)) (hp:Qy c):∃ t:Int × (((List Int) × Int × Int)),(Qii c t)∧TCon Tryz.prog 181 [(.bx [(.c (.sl [(.int .u8)]) c.1),(.c TI c.2.1),(.c TI c.2.2)])] (Qbj t):=by
 refine YE (tcx (n:=29) (sg:=Qhd.sg) Qk (TOk.cons JW (TOk.cons Qdj TOk.nil)) (by kernel_rfl) (by kernel_rfl) (QBW (fun r'=>∃ t,(Qii c t)∧r'=Qbj t) c ?_))
 have b1:=Z5 c 12 hp
 generalize Qe c 12=r at b1 ⊢
 have hc:Qy r.2:=b1.2.2.2
 refine ⟨hp,fun _=>?_,fun _=>⟨fun _=>?_,fun _=>⟨fun _=>?_,fun _=>?_⟩⟩⟩
 ·have hpp:YU r.2 [2147483647,-2147483647,2147483646,1,-1,0]:=⟨hc,by simp,by simp⟩
  have b2:=QdD _ _ hpp
  refine ⟨hpp,Q0 ⟨?_,b2.2⟩⟩
  have b3:=b2.1
  simp only [List.mem_cons,List.not_mem_nil,or_false] at b3
  simp only [Q5,Bool.and_eq_true,decide_eq_true_eq]
  omega
 ·have b2:=Z5 r.2 4000 hc
  refine ⟨hc,Q0 ⟨?_,b2.2.2.2⟩⟩
  have h1:=b2.1
  have h2:=b2.2.1 (by omega)
  rw [Qp (x:=_-2000) (by omega) (by omega),Qp (by omega) (by omega)]
  simp only [Q5,Bool.and_eq_true,decide_eq_true_eq]
  omega
 ·have b2:=Z5 r.2 9 hc
  refine ⟨hc,Q0 ⟨?_,b2.2.2.2⟩⟩
  have h1:=b2.1
  have h2:=b2.2.1 (by omega)
  rw [Qp (by omega) (by omega)]
  simp only [Q5,Bool.and_eq_true,decide_eq_true_eq]
  omega
 ·have b2:=Z5 r.2 17 hc
  have hpp:YU (Qe r.2 17).2 [1,1,2,4,3]:=⟨b2.2.2.2,by simp,by simp⟩
  have b3:=QdD _ _ hpp
  have b4:=b3.1
  simp only [List.mem_cons,List.not_mem_nil,or_false] at b4
  have h1:=b2.1
  have h2:=b2.2.1 (by omega)
  refine ⟨⟨hc,hpp,by omega⟩,Q0 ⟨?_,b3.2⟩⟩
  have h3:=QBR (a:=((Qe r.2 17).1-8)*65536) (b:=(Zu (Qe r.2 17).2 [1,1,2,4,3]).1) (B:=1000000) (by omega) (by omega) (by omega)
  rw [Qp (x:=_-8) (by omega) (by omega),Qp (x:=_*65536) (by omega) (by omega),Qp (by omega) (by omega)]
  simp only [Q5,Bool.and_eq_true,decide_eq_true_eq]
  omega
theorem Qt6 (c:((List Int) × Int × Int)) (hp:Qy c):Qii c (Qa1 c):=(Classical.epsilon_spec (QtX c hp)).1
theorem QAE (c:((List Int) × Int × Int)) (hp:Qy c):TCon Tryz.prog 181 [(.bx [(.c (.sl [(.int .u8)]) c.1),(.c TI c.2.1),(.c TI c.2.2)])] (Qbj (Qa1 c)):=(Classical.epsilon_spec (QtX c hp)).2
theorem QyY:Qj Tryz.prog Qhd:=Qm fun x h=>QAE x.1 h
def QcR (t:Int × (((List Int) × Int × Int))):TRes:=⟨(zci t.1),[],[[(zcs [(.int .u8)] t.2.1),(zci t.2.2.1),(zci t.2.2.2)]],true,[]⟩
def Qcl (x0:((List Int) × Int × Int)):Int × (((List Int) × Int × Int)):=Classical.epsilon fun t:Int × (((List Int) × Int × Int))=>(QiH x0 t)∧TCon Tryz.prog 182 [(.bx [(.c (.sl [(.int .u8)]) x0.1),(.c TI x0.2.1),(.c TI x0.2.2)])] (QcR t)
def Qgb:TRow:=Qi 182 [(.b [(.sl [(.int .u8)]),TI,TI])] fun x=>(some (Qy x.1),QcR (Qcl x.1))
def QKD:List TRow:=[Qfo,QbO,Qhd]
def QOJ:TCode :=
 (zsq [(.reg [zmv 2 (zki 0)]),(zsq [(.reg [zmv 3 0,zca 4 106 [3,(zki 8)]]),(.cond 4 (zsq [(.reg [zmv 5 0,zop 6 (.bsl 3 [TI] [(zki 2147483648),(zki (-2147483648)),(zki 9223372036854775807),(zki (-9223372036854775807))]),zca 7 145 [5,6],zmv 2 7]),.ret]) .skip)]),(.reg [zmv 8 0,zca 9 181 [8],zmv 2 9]),.ret])
def QIm:List (ARv × Md):=[(.t 2,.one .d)]
theorem QOB (c:((List Int) × Int × Int)) (h :
 ((Q9 c (8:Int))∧(zif ((ZD c (8:Int)).1) ((YU ((ZD c (8:Int)).2) ([(2147483648:Int),(-2147483648:Int),(9223372036854775807:Int),(-9223372036854775807:Int)]))∧K (QcR ((Zu ((ZD c (8:Int)).2) ([(2147483648:Int),(-2147483648:Int),(9223372036854775807:Int),(-9223372036854775807:Int)])).1,((Zu ((ZD c (8:Int)).2) ([(2147483648:Int),(-2147483648:Int),(9223372036854775807:Int),(-9223372036854775807:Int)])).2)))) ((Qy ((ZD c (8:Int)).2))∧K (QcR ((Qa1 ((ZD c (8:Int)).2)).1,((Qa1 ((ZD c (8:Int)).2)).2))))))):Hold (tawp QKD (1+0) QOJ (TQ 1 0 QIm K) (Qf [(.bx [(.c (.sl [(.int .u8)]) c.1),(.c TI c.2.1),(.c TI c.2.2)])])) :=
 Hold.of (by kernel_rfl) h
theorem QsM (c:((List Int) × Int × Int)) (hp:Qy c):∃ t:Int × (((List Int) × Int × Int)),(QiH c t)∧TCon Tryz.prog 182 [(.bx [(.c (.sl [(.int .u8)]) c.1),(.c TI c.2.1),(.c TI c.2.2)])] (QcR t):=by
 refine YE (tcx (n:=10) (sg:=Qgb.sg) Qk (TOk.cons Ql7 (TOk.cons Qdj (TOk.cons QyY TOk.nil))) (by kernel_rfl) (by kernel_rfl) (QOB (fun r'=>∃ t,(QiH c t)∧r'=QcR t) c ?_))
 have b1:=QlW c 8 hp
 generalize ZD c 8=r at b1 ⊢
 have hpp:YU r.2 [2147483648,-2147483648,9223372036854775807,-9223372036854775807]:=⟨b1,by simp,by simp⟩
 exact ⟨hp,fun _=>⟨hpp,Q0 ((QdD _ _ hpp).2)⟩,fun _=>⟨b1,Q0 ((Qt6 _ b1).2)⟩⟩
theorem QuA (c:((List Int) × Int × Int)) (hp:Qy c):QiH c (Qcl c):=(Classical.epsilon_spec (QsM c hp)).1
theorem QCv (c:((List Int) × Int × Int)) (hp:Qy c):TCon Tryz.prog 182 [(.bx [(.c (.sl [(.int .u8)]) c.1),(.c TI c.2.1),(.c TI c.2.2)])] (QcR (Qcl c)):=(Classical.epsilon_spec (QsM c hp)).2
theorem Qy7:Qj Tryz.prog Qgb:=Qm fun x h=>QCv x.1 h
def Qa4 (t:(List Int) × (((List Int) × Int × Int))):TRes:=⟨(.r [TI] 0 0 ((t.1).length)),[(.sl 3 [TI] true t.1)],[[(zcs [(.int .u8)] t.2.1),(zci t.2.2.1),(zci t.2.2.2)]],true,[]⟩
def Yd (x0:((List Int) × Int × Int)) (x1:Int):(List Int) × (((List Int) × Int × Int)):=Classical.epsilon fun t:(List Int) × (((List Int) × Int × Int))=>(QcQ x0 x1 t)∧TCon Tryz.prog 105 [(.bx [(.c (.sl [(.int .u8)]) x0.1),(.c TI x0.2.1),(.c TI x0.2.2)]),(.c TI x1)] (Qa4 t)
def Qe5:TRow:=Qi 105 [(.b [(.sl [(.int .u8)]),TI,TI]),(.c TI)] fun x=>(some (Jx x.1 x.2.1),Qa4 (Yd x.1 x.2.1))
def Ql9:List TRow:=[Qhd]
def Qrj:TCode :=
 (zsq [(zsq [(.reg [zmv 8 6,zmv 9 1,zbi 10 .lss 8 9]),(.cond 10 .skip (.exit 0))]),(.block 1 (.reg [zmv 13 5,zmv 14 0,zca 15 181 [14],zop 16 (.bsl 3 [TI] [15]),zop 17 (.app 13 16 3 [TI]),zmv 5 17])),(.reg [zmv 11 6,zbi 12 .add 11 (zki 1),zmv 6 12])])
def Qv7:List (Nat × Md):=[(0,.b [.d,.d,.d]),(1,.one .d),(5,.one .f),(6,.one .d)]
def QsZ:TCode :=
 (zsq [(.reg [zmv 18 5,zmv 4 18]),.ret])
def QDf:TCode :=
 (zsq [(.reg [zmv 4 (.k (.n [TI]))]),(.reg [zop 7 (.bsl 3 [TI] []),zmv 5 7]),(zsq [(.reg [zmv 6 (zki 0)]),(.block 0 (.loop Qv7 Qrj))]),QsZ])
def Qqk:List (ARv × Md):=[(.t 4,.one (.o 3))]
def QoG:Qb:=TQ 1 0 Qqk K
def QMY:Qb:=Qseq (tawp Ql9 1 QsZ (QoG K)) (QoG K)
def QLl:Qb:=Qblk 0 (QMY K)
def Qf5 (n:Int) (i:Int) (c0:List Int) (c1:Int) (c2:Int) (out:List Int):Prop:=Loop Ql9 1 Qv7 Qrj (QLl K) ⟨[(0,(.p 0 0 0)),(1,(zci n)),(5,(.r [TI] 1 0 out.length)),(6,(zci i))],[(0,(.box [(zcs [(.int .u8)] c0),(zci c1),(zci c2)])),(1,(.sl 3 [TI] true out))],2⟩
theorem QwJ (n:Int) (i:Int) (c0:List Int) (c1:Int) (c2:Int) (out:List Int) (h :
 (zif (decide (i<n)) (((Qy (c0,c1,c2))∧((out.length=out.length∨out.length+1≤out.length)∧out.length+1≤big))∧(Qf5 K n (w64 (i+(1:Int))) (((Qa1 (c0,c1,c2)).2).1) (((Qa1 (c0,c1,c2)).2).2.1) (((Qa1 (c0,c1,c2)).2).2.2) (List.take (out.length+1) ((List.take out.length out)++([(Qa1 (c0,c1,c2)).1]))))) (K (Qa4 ((List.take out.length out),(c0,c1,c2)))))):Qf5 K n i c0 c1 c2 out :=
 Loop.of (by kernel_rfl) h
theorem QMq (c:((List Int) × Int × Int)) (n:Int) (h :
 (Qf5 K n 0 c.1 c.2.1 c.2.2 ([]:List Int))):Hold (tawp Ql9 (1+0) QDf (TQ 1 0 Qqk K) (Qf [(.bx [(.c (.sl [(.int .u8)]) c.1),(.c TI c.2.1),(.c TI c.2.2)]),(.c TI n)])) :=
 Hold.of (by kernel_rfl) h
theorem Qwn (c:((List Int) × Int × Int)) (n:Int) (hp:Jx c n):∃ t:(List Int) × (((List Int) × Int × Int)),(QcQ c n t)∧TCon Tryz.prog 105 [(.bx [(.c (.sl [(.int .u8)]) c.1),(.c TI c.2.1),(.c TI c.2.2)]),(.c TI n)] (Qa4 t):=by
 refine YE (tcx (n:=19) (sg:=Qe5.sg) Qk (TOk.cons QyY TOk.nil) (by kernel_rfl) (by kernel_rfl) (QMq (fun r'=>∃ t,(QcQ c n t)∧r'=Qa4 t) c n ?_))
 obtain ⟨h1,h2⟩:=hp
 refine Qap n.toNat (fun k=>∀ (c0:List Int) (c1 c2:Int) (out:List Int),out.length=k→Zo out=true→Qy (c0,c1,c2)→Qf5 (fun r'=>∃ t,(QcQ c n t)∧r'=Qa4 t) n (k:Int) c0 c1 c2 out) ?_ ?_ c.1 c.2.1 c.2.2 [] rfl rfl h1
 ·intro c0 c1 c2 out hl hf hc
  refine QwJ (fun r'=>∃ t,(QcQ c n t)∧r'=Qa4 t) n _ _ _ _ _ ⟨fun h=>by simp at h;omega,fun _=>(Q0 ⟨?_,?_,hc⟩)⟩
  ·simp;omega
  ·simp only [List.take_length];exact hf
 ·intro k hk ih c0 c1 c2 out hl hf hc
  have b:=Qt6 (c0,c1,c2) hc
  refine QwJ (fun r'=>∃ t,(QcQ c n t)∧r'=Qa4 t) n _ _ _ _ _ ⟨fun _=>⟨⟨hc,.inl rfl,by rw [Zv];omega⟩,?_⟩,fun h=>by simp at h;omega⟩
  rw [sc1 (by omega),Zn]
  exact ih _ _ _ _ (by simp;omega) (QPl hf b.1) b.2
theorem Qff (c:((List Int) × Int × Int)) (n:Int) (hp:Jx c n):QcQ c n (Yd c n):=(Classical.epsilon_spec (Qwn c n hp)).1
theorem QzL (c:((List Int) × Int × Int)) (n:Int) (hp:Jx c n):TCon Tryz.prog 105 [(.bx [(.c (.sl [(.int .u8)]) c.1),(.c TI c.2.1),(.c TI c.2.2)]),(.c TI n)] (Qa4 (Yd c n)):=(Classical.epsilon_spec (Qwn c n hp)).2
theorem QkX:Qj Tryz.prog Qe5:=Qm fun x h=>QzL x.1 x.2.1 h
def QbS (t:(List Int) × (((List Int) × Int × Int))):TRes:=⟨(zcs [TI] t.1),[],[[(zcs [(.int .u8)] t.2.1),(zci t.2.2.1),(zci t.2.2.2)]],true,[]⟩
def QeG (x0:((List Int) × Int × Int)):(List Int) × (((List Int) × Int × Int)):=Classical.epsilon fun t:(List Int) × (((List Int) × Int × Int))=>(QhE x0 t)∧TCon Tryz.prog 107 [(.bx [(.c (.sl [(.int .u8)]) x0.1),(.c TI x0.2.1),(.c TI x0.2.2)])] (QbS t)
def QnN:TRow:=Qi 107 [(.b [(.sl [(.int .u8)]),TI,TI])] fun x=>(some (Qy x.1),QbS (QeG x.1))
def QK2:List TRow:=[Jq,Qe5,Qgb,QbO]
def QER:TCode :=
 (zsq [(.reg [zmv 2 (.k (.n [TI]))]),(.reg [zmv 4 0,zmv 5 0,zca 6 108 [5,(zki 4)],zbi 7 .add (zki 1) 6,zca 8 105 [4,7],zmv 3 8]),(zsq [(.reg [zmv 9 0,zca 10 108 [9,(zki 16)]]),(.block 0 (zsq [(.reg [zbi 12 .eql 10 (zki 0),zmv 11 12]),(.cond 11 (.reg [zmv 13 3,zmv 14 0,zca 15 182 [14],zia 16 13 (zki 0) [TI],zst 16 15 1]) (zsq [(.reg [zbi 18 .eql 10 (zki 1),zmv 17 18]),(.cond 17 (zsq [(.reg [zmv 19 0,zmv 20 0,zop 21 (.bsl 3 [TI] [(zki 0),(zki 6),(zki 7)]),zca 22 145 [20,21],zca 23 105 [19,22],zmv 2 23]),.ret]) .skip)]))]))]),(.reg [zmv 24 3,zmv 2 24]),.ret])
def QJj:List (ARv × Md):=[(.t 2,.one .d)]
theorem QC9 (c:((List Int) × Int × Int)) (h :
 let z3:=Qe c (4:Int)
 let z1:=Yd (z3.2) (w64 ((1:Int)+(z3.1)))
 let z2:=Qe (z1.2) (16:Int)
 (((Q9 c (4:Int))∧(Jx (z3.2) (w64 ((1:Int)+(z3.1)))))∧((Q9 (z1.2) (16:Int))∧(zif ((z2.1)==(0:Int)) (((Qy (z2.2))∧(((0:Int)≤(0:Int)∧Int.toNat (0:Int)<(z1.1).length)∧((0+(Int.toNat (0:Int)))<(z1.1).length)))∧K (QbS ((List.take ((z1.1).length) (List.drop 0 ((z1.1).set (0+(Int.toNat (0:Int))) ((Qcl (z2.2)).1)))),((Qcl (z2.2)).2)))) (zif ((z2.1)==(1:Int)) (((YU (z2.2) ([(0:Int),(6:Int),(7:Int)]))∧(Jx ((Zu (z2.2) ([(0:Int),(6:Int),(7:Int)])).2) ((Zu (z2.2) ([(0:Int),(6:Int),(7:Int)])).1)))∧K (QbS ((List.take (((Yd ((Zu (z2.2) ([(0:Int),(6:Int),(7:Int)])).2) ((Zu (z2.2) ([(0:Int),(6:Int),(7:Int)])).1)).1).length) (List.drop 0 ((Yd ((Zu (z2.2) ([(0:Int),(6:Int),(7:Int)])).2) ((Zu (z2.2) ([(0:Int),(6:Int),(7:Int)])).1)).1))),((Yd ((Zu (z2.2) ([(0:Int),(6:Int),(7:Int)])).2) ((Zu (z2.2) ([(0:Int),(6:Int),(7:Int)])).1)).2)))) (K (QbS ((List.take ((z1.1).length) (List.drop 0 (z1.1))),(z2.2))))))))):Hold (tawp QK2 (1+0) QER (TQ 1 0 QJj K) (Qf [(.bx [(.c (.sl [(.int .u8)]) c.1),(.c TI c.2.1),(.c TI c.2.2)])])) :=
 Hold.of (by kernel_rfl) h
theorem QoJ (c:((List Int) × Int × Int)) (hp:Qy c):∃ t:(List Int) × (((List Int) × Int × Int)),(QhE c t)∧TCon Tryz.prog 107 [(.bx [(.c (.sl [(.int .u8)]) c.1),(.c TI c.2.1),(.c TI c.2.2)])] (QbS t):=by
 refine YE (tcx (n:=25) (sg:=QnN.sg) Qk (TOk.cons JW (TOk.cons QkX (TOk.cons Qy7 (TOk.cons Qdj TOk.nil)))) (by kernel_rfl) (by kernel_rfl) (QC9 (fun r'=>∃ t,(QhE c t)∧r'=QbS t) c ?_))
 conv=>zeta
 have b1:=Z5 c 4 hp
 generalize Qe c 4=r1 at b1 ⊢
 have h1:=b1.1
 have h2:=b1.2.1 (by omega)
 rw [Qp (x:=1+r1.1) (by omega) (by omega)]
 have hv:Jx r1.2 (1+r1.1):=⟨b1.2.2.2,by omega⟩
 have b2:=Qff _ _ hv
 generalize Yd r1.2 (1+r1.1)=r2 at b2 ⊢
 have b3:=Z5 r2.2 16 b2.2.2
 generalize Qe r2.2 16=r3 at b3 ⊢
 have hc:=b3.2.2.2
 have hl:=b2.1
 have hpk:YU r3.2 [0,6,7]:=⟨hc,by simp,by simp⟩
 have b4:=QdD _ _ hpk
 have b5:=b4.1
 simp only [List.mem_cons,List.not_mem_nil,or_false] at b5
 have hv2:Jx (Zu r3.2 [0,6,7]).2 (Zu r3.2 [0,6,7]).1:=⟨b4.2,by omega⟩
 have b6:=Qff _ _ hv2
 have hl2:=b6.1
 refine ⟨⟨hp,hv⟩,b2.2.2,fun _=>⟨⟨hc,⟨by omega,?_⟩,?_⟩,Q0 ⟨?_,QuA _ hc⟩⟩,fun _=>⟨fun _=>⟨⟨hpk,hv2⟩,Q0 ⟨?_,b6.2.2⟩⟩,fun _=>(Q0 ⟨?_,hc⟩)⟩⟩ <;> (simp;omega)
theorem QMd (c:((List Int) × Int × Int)) (hp:Qy c):QhE c (QeG c):=(Classical.epsilon_spec (QoJ c hp)).1
theorem QBN (c:((List Int) × Int × Int)) (hp:Qy c):TCon Tryz.prog 107 [(.bx [(.c (.sl [(.int .u8)]) c.1),(.c TI c.2.1),(.c TI c.2.2)])] (QbS (QeG c)):=(Classical.epsilon_spec (QoJ c hp)).2
theorem QJC:Qj Tryz.prog QnN:=Qm fun x h=>QBN x.1 h
def Qbt (t:TOp' × (((List Int) × Int × Int))):TRes:=⟨(.a [(zci t.1.1),(zci t.1.2.1),(zci t.1.2.2.1),(.r [TI] 0 0 ((t.1.2.2.2).length))]),[(.sl 3 [TI] true t.1.2.2.2)],[[(zcs [(.int .u8)] t.2.1),(zci t.2.2.1),(zci t.2.2.2)]],true,[]⟩
def e_op (x0:((List Int) × Int × Int)) (x1:Int):TOp' × (((List Int) × Int × Int)):=Classical.epsilon fun t:TOp' × (((List Int) × Int × Int))=>(q_op x0 x1 t)∧TCon Tryz.prog 223 [(.bx [(.c (.sl [(.int .u8)]) x0.1),(.c TI x0.2.1),(.c TI x0.2.2)]),(.c TI x1)] (Qbt t)
def QfR:TRow:=Qi 223 [(.b [(.sl [(.int .u8)]),TI,TI]),(.c TI)] fun x=>(some (p_op x.1 x.2.1),Qbt (e_op x.1 x.2.1))
def QpD:List TRow:=[Jq,QhP,Qe5]
def QyV:TCode :=
 (zsq [(.reg [zmv 19 0,zLd 20 5 4,zca 21 202 [20],zca 22 105 [19,21],zfa 23 5 3,zst 23 22 1]),(.reg [zLd 24 5 4,zst 4 24 4]),.ret])
def QI7:List (Nat × Md):=[(0,.b [.d,.d,.d]),(4,.b (zds 4)),(5,.b (zds 4))]
def QIS:TCode:=.wk QI7 QyV
def QNT:TCode :=
 (zsq [(.reg [zop 4 (.new 69 (z0s ctOp))]),(.reg [zmv 6 0,zca 7 108 [6,(zki 5)],zbi 8 .add (zki 1) 7,zmv 9 1,zmv 10 1,zop 11 (.build (z0s ctOp) [(0,1,8),(1,1,9),(2,1,10)]),zop 5 (.new 69 (z0s ctOp)),zst 5 11 4]),(zsq [(.reg [zfa 12 5 0,zld 13 12 1,zbi 14 .eql 13 (zki 1)]),(.cond 14 (.reg [zmv 15 0,zca 16 108 [15,(zki 3)],zbi 17 .add (zki 1) 16,zfa 18 5 2,zst 18 17 1]) .skip)]),QIS])
def QsL:List (ARv × Md):=[(.l 4 4 true,.b [.d,.d,.d,.o 3])]
def Qz4:Qb:=TQ 1 0 QsL K
def Qh7 (c:((List Int) × Int × Int)) (inn:Int) (c0:List Int) (c1:Int) (c2:Int) (o2:Int):Prop:=tawp QpD 1 QyV (Qz4 K) ⟨[(0,(.p 0 0 0)),(4,(.p 1 0 0)),(5,(.p 2 0 0))],[(0,(.box [(zcs [(.int .u8)] c0),(zci c1),(zci c2)])),(1,(.box (Tup.cells ctOp ((0:Int),(0:Int),(0:Int),[])))),(2,(.box (Tup.cells ctOp (w64 ((1:Int)+((Qe c (5:Int)).1)),inn,o2,[]))))],3⟩
theorem QPZ (c:((List Int) × Int × Int)) (inn:Int) (c0:List Int) (c1:Int) (c2:Int) (o2:Int) (h :
 ((Jx (c0,c1,c2) (Z1 (w64 ((1:Int)+((Qe c (5:Int)).1)),inn,o2,[])))∧K (Qbt ((w64 ((1:Int)+((Qe c (5:Int)).1)),inn,o2,(List.take (((Yd (c0,c1,c2) (Z1 (w64 ((1:Int)+((Qe c (5:Int)).1)),inn,o2,[]))).1).length) ((Yd (c0,c1,c2) (Z1 (w64 ((1:Int)+((Qe c (5:Int)).1)),inn,o2,[]))).1))),((Yd (c0,c1,c2) (Z1 (w64 ((1:Int)+((Qe c (5:Int)).1)),inn,o2,[]))).2))))):Hold (Qh7 K c inn c0 c1 c2 o2) :=
 Hold.of (by kernel_rfl) h
theorem QIn (c:((List Int) × Int × Int)) (inn:Int) (h :
 ((Q9 c (5:Int))∧(zif ((w64 ((1:Int)+((Qe c (5:Int)).1)))==(1:Int)) ((Q9 ((Qe c (5:Int)).2) (3:Int))∧(Qh7 K c inn (((Qe ((Qe c (5:Int)).2) (3:Int)).2).1) (((Qe ((Qe c (5:Int)).2) (3:Int)).2).2.1) (((Qe ((Qe c (5:Int)).2) (3:Int)).2).2.2) (w64 ((1:Int)+((Qe ((Qe c (5:Int)).2) (3:Int)).1))))) (Qh7 K c inn (((Qe c (5:Int)).2).1) (((Qe c (5:Int)).2).2.1) (((Qe c (5:Int)).2).2.2) inn)))):Hold (tawp QpD (1+0) QNT (TQ 1 0 QsL K) (Qf [(.bx [(.c (.sl [(.int .u8)]) c.1),(.c TI c.2.1),(.c TI c.2.2)]),(.c TI inn)])) :=
 Hold.of (by kernel_rfl) h
theorem Qrp (c:((List Int) × Int × Int)) (inn:Int) (hp:p_op c inn):∃ t:TOp' × (((List Int) × Int × Int)),(q_op c inn t)∧TCon Tryz.prog 223 [(.bx [(.c (.sl [(.int .u8)]) c.1),(.c TI c.2.1),(.c TI c.2.2)]),(.c TI inn)] (Qbt t):=by
 refine YE (tcx (n:=25) (sg:=QfR.sg) Qk (TOk.cons JW (TOk.cons Qu2 (TOk.cons QkX TOk.nil))) (by kernel_rfl) (by kernel_rfl) (QIn (fun r'=>∃ t,(q_op c inn t)∧r'=Qbt t) c inn ?_))
 have b1:=Z5 c 5 hp.1
 have h1:=b1.1
 have h2:=b1.2.1 (by omega)
 obtain ⟨_,h3,h4⟩:=hp
 have hw:w64 (1+(Qe c 5).1)=1+(Qe c 5).1:=Qp (by omega) (by omega)
 have key:∀ c0 c1 c2 o2,Qy (c0,c1,c2)→1≤o2→o2≤3→(1+(Qe c 5).1=1∨inn=o2)→Qh7 (fun r'=>∃ t,(q_op c inn t)∧r'=Qbt t) c inn c0 c1 c2 o2:=by
  intro c0 c1 c2 o2 hc k1 k2 k3
  refine (QPZ (fun r'=>∃ t,(q_op c inn t)∧r'=Qbt t) c inn c0 c1 c2 o2 ?_).h
  rw [hw]
  have h5:1≤1+(Qe c 5).1:=by omega
  have h6:1+(Qe c 5).1≤5:=by omega
  generalize 1+(Qe c 5).1=o1 at h5 h6 k3 ⊢
  have hs:=Qrr o1 [] h3 h4 k1 k2
  have hv:Jx (c0,c1,c2) (Z1 (o1,inn,o2,[])):=⟨hc,by omega⟩
  have b:=Qff _ _ hv
  have hl:=b.1
  refine ⟨hv,Q0 ⟨?_,rfl,k1,k2,?_,b.2.2⟩⟩
  ·simp only [List.take_length]
   exact QOc h5 h6 h3 h4 k1 k2 k3 hl b.2.1
  ·simp;omega
 have b2:=Z5 (Qe c 5).2 3 b1.2.2.2
 have h7:=b2.1
 have h8:=b2.2.1 (by omega)
 rw [hw] at *
 refine ⟨‹Qy c›,fun h=>⟨b1.2.2.2,?_⟩,fun _=>key _ _ _ _ b1.2.2.2 h3 h4 (.inr rfl)⟩
 rw [Qp (x:=1+(Qe (Qe c 5).2 3).1) (by omega) (by omega)]
 exact key _ _ _ _ b2.2.2.2 (by omega) (by omega) (.inl (by simpa using h))
theorem QwW (c:((List Int) × Int × Int)) (inn:Int) (hp:p_op c inn):q_op c inn (e_op c inn):=(Classical.epsilon_spec (Qrp c inn hp)).1
theorem QLR (c:((List Int) × Int × Int)) (inn:Int) (hp:p_op c inn):TCon Tryz.prog 223 [(.bx [(.c (.sl [(.int .u8)]) c.1),(.c TI c.2.1),(.c TI c.2.2)]),(.c TI inn)] (Qbt (e_op c inn)):=(Classical.epsilon_spec (Qrp c inn hp)).2
theorem Qtc:Qj Tryz.prog QfR:=Qm fun x h=>QLR x.1 x.2.1 h
def Qam (t:TOp' × (((List Int) × Int × Int))):TRes:=⟨(.a (Tup.cells ctOp t.1)),[],[[(zcs [(.int .u8)] t.2.1),(zci t.2.2.1),(zci t.2.2.2)]],true,[]⟩
def QeR (x0:((List Int) × Int × Int)):TOp' × (((List Int) × Int × Int)):=Classical.epsilon fun t:TOp' × (((List Int) × Int × Int))=>(Qho x0 t)∧TCon Tryz.prog 201 [(.bx [(.c (.sl [(.int .u8)]) x0.1),(.c TI x0.2.1),(.c TI x0.2.2)])] (Qam t)
def Qjg:TRow:=Qi 201 [(.b [(.sl [(.int .u8)]),TI,TI])] fun x=>(some (Qy x.1),Qam (QeR x.1))
def QJf:List TRow:=[Jq,QfR,QbO,Qgb]
def QLh:TCode :=
 (zsq [(.reg [zop 2 (.new 69 (z0s ctOp))]),(.reg [zmv 4 0,zmv 5 0,zca 6 108 [5,(zki 3)],zbi 7 .add (zki 1) 6,zca 8 223 [4,7],zop 3 (.new 69 (z0s ctOp)),zst 3 8 4]),(zsq [(.reg [zmv 9 0,zca 10 108 [9,(zki 14)]]),(.block 0 (zsq [(.reg [zbi 12 .eql 10 (zki 0),zmv 11 12]),(.cond 11 (.reg [zmv 13 0,zca 14 108 [13,(zki 8)],zbi 15 .sub 14 (zki 1),zfa 16 3 0,zst 16 15 1]) (zsq [(.reg [zbi 18 .eql 10 (zki 1),zmv 17 18]),(.cond 17 (.reg [zmv 19 0,zfa 20 3 1,zld 21 20 1,zbi 22 .add 21 (zki 1),zop 23 (.bsl 3 [TI] [(zki 0),(zki 7),22]),zca 24 145 [19,23],zfa 25 3 1,zst 25 24 1]) (zsq [(.reg [zbi 27 .eql 10 (zki 2),zmv 26 27]),(.cond 26 (.reg [zfa 28 3 3,zld 29 28 1,zop 30 (.bsl 3 [TI] [(zki 0)]),zop 31 (.app 29 30 3 [TI]),zfa 32 3 3,zst 32 31 1]) (zsq [(.reg [zbi 34 .eql 10 (zki 3),zmv 33 34]),(.cond 33 (zsq [(.reg [zfa 35 3 3,zld 36 35 1,zle 37 36,zbi 38 .gtr 37 (zki 0)]),(.cond 38 (.draw [zfa 39 3 3,zld 40 39 1,zmv 41 0,zca 42 182 [41],zia 43 40 (zki 0) [TI],zst 43 42 1] [(0,3),(1,3)]) .skip)]) .skip)]))]))]))]))]),(.reg [zLd 44 3 4,zst 2 44 4]),.ret])
def QHk:List (ARv × Md):=[(.l 2 4 true,.b (zds 4))]
theorem QFu (c:((List Int) × Int × Int)) (h :
 let z4:=Qe c (3:Int)
 let z1:=e_op (z4.2) (w64 ((1:Int)+(z4.1)))
 let z2:=Qe (z1.2) (14:Int)
 let z3:=List.take (((z1.1).2.2.2).length) (List.drop 0 ((z1.1).2.2.2))
 (((Q9 c (3:Int))∧(p_op (z4.2) (w64 ((1:Int)+(z4.1)))))∧((Q9 (z1.2) (14:Int))∧(zif ((z2.1)==(0:Int)) ((Q9 (z2.2) (8:Int))∧K (Qam ((w64 (((Qe (z2.2) (8:Int)).1)-(1:Int)),(z1.1).2.1,(z1.1).2.2.1,z3),((Qe (z2.2) (8:Int)).2)))) (zif ((z2.1)==(1:Int)) ((YU (z2.2) ([(0:Int),(7:Int),w64 (((z1.1).2.1)+(1:Int))]))∧K (Qam (((z1.1).1,(Zu (z2.2) ([(0:Int),(7:Int),w64 (((z1.1).2.1)+(1:Int))])).1,(z1.1).2.2.1,z3),((Zu (z2.2) ([(0:Int),(7:Int),w64 (((z1.1).2.1)+(1:Int))])).2)))) (zif ((z2.1)==(2:Int)) (((((z1.1).2.2.2).length=((z1.1).2.2.2).length∨((z1.1).2.2.2).length+1≤((z1.1).2.2.2).length)∧((z1.1).2.2.2).length+1≤big)∧K (Qam (((z1.1).1,(z1.1).2.1,(z1.1).2.2.1,(List.take (((z1.1).2.2.2).length+1) (List.drop 0 ((List.take (((z1.1).2.2.2).length) ((z1.1).2.2.2))++([(0:Int)]))))),(z2.2)))) (zif ((z2.1)==(3:Int)) (zif (decide (((((z1.1).2.2.2).length:Nat):Int)>(0:Int))) (((Qy (z2.2))∧(((0:Int)≤(0:Int)∧Int.toNat (0:Int)<((z1.1).2.2.2).length)∧((0+(Int.toNat (0:Int)))<((z1.1).2.2.2).length)))∧K (Qam (((z1.1).1,(z1.1).2.1,(z1.1).2.2.1,(List.take (((z1.1).2.2.2).length) (List.drop 0 (((z1.1).2.2.2).set (0+(Int.toNat (0:Int))) ((Qcl (z2.2)).1))))),((Qcl (z2.2)).2)))) (K (Qam (((z1.1).1,(z1.1).2.1,(z1.1).2.2.1,z3),(z2.2))))) (K (Qam (((z1.1).1,(z1.1).2.1,(z1.1).2.2.1,z3),(z2.2))))))))))):Hold (tawp QJf (1+0) QLh (TQ 1 0 QHk K) (Qf [(.bx [(.c (.sl [(.int .u8)]) c.1),(.c TI c.2.1),(.c TI c.2.2)])])) :=
 Hold.of (by kernel_rfl) h
theorem Qzj (c:((List Int) × Int × Int)) (hp:Qy c):∃ t:TOp' × (((List Int) × Int × Int)),(Qho c t)∧TCon Tryz.prog 201 [(.bx [(.c (.sl [(.int .u8)]) c.1),(.c TI c.2.1),(.c TI c.2.2)])] (Qam t):=by
 refine YE (tcx (n:=45) (sg:=Qjg.sg) Qk (TOk.cons JW (TOk.cons Qtc (TOk.cons Qdj (TOk.cons Qy7 TOk.nil)))) (by kernel_rfl) (by kernel_rfl) (QFu (fun r'=>∃ t,(Qho c t)∧r'=Qam t) c ?_))
 conv=>zeta
 have b1:=Z5 c 3 hp
 generalize Qe c 3=r1 at b1 ⊢
 have h1:=b1.1
 have h2:=b1.2.1 (by omega)
 rw [Qp (x:=1+r1.1) (by omega) (by omega)]
 have ho:p_op r1.2 (1+r1.1):=⟨b1.2.2.2,by omega,by omega⟩
 have b2:=QwW _ _ ho
 generalize e_op r1.2 (1+r1.1)=r2 at b2 ⊢
 have hl:=b2.2.2.2.2.1
 have hc2:=b2.2.2.2.2.2
 have b3:=(Z5 r2.2 14 hc2).2.2.2
 generalize Qe r2.2 14=r3 at b3 ⊢
 refine ⟨⟨hp,ho⟩,hc2,fun _=>⟨b3,Q0 ⟨?_,(Z5 _ _ b3).2.2.2⟩⟩,fun _=>⟨fun _=>⟨⟨b3,by simp,by simp⟩,Q0 ⟨?_,(QdD _ _ ⟨b3,by simp,by simp⟩).2⟩⟩,fun _=>⟨fun _=>⟨⟨.inl rfl,by rw [Zv];omega⟩,Q0 ⟨?_,b3⟩⟩,fun _=>⟨fun _=>⟨fun hh=>⟨⟨b3,⟨by omega,by simpa using hh⟩,by simpa using hh⟩,Q0 ⟨?_,QuA _ b3⟩⟩,fun _=>(Q0 ⟨?_,b3⟩)⟩,fun _=>(Q0 ⟨?_,b3⟩)⟩⟩⟩⟩
 all_goals first
  | (simp;omega)
  | omega
  | skip
theorem QNf (c:((List Int) × Int × Int)) (hp:Qy c):Qho c (QeR c):=(Classical.epsilon_spec (Qzj c hp)).1
theorem Qz1 (c:((List Int) × Int × Int)) (hp:Qy c):TCon Tryz.prog 201 [(.bx [(.c (.sl [(.int .u8)]) c.1),(.c TI c.2.1),(.c TI c.2.2)])] (Qam (QeR c)):=(Classical.epsilon_spec (Qzj c hp)).2
theorem QIG:Qj Tryz.prog Qjg:=Qm fun x h=>Qz1 x.1 h
def QaZ (t:(List TOp') × (((List Int) × Int × Int))):TRes:=⟨(.a [(.r ctOp 0 0 ((t.1).length))]),[(.sl 69 ctOp true t.1)],[[(zcs [(.int .u8)] t.2.1),(zci t.2.2.1),(zci t.2.2.2)]],true,[]⟩
def Zm (x0:((List Int) × Int × Int)):(List TOp') × (((List Int) × Int × Int)):=Classical.epsilon fun t:(List TOp') × (((List Int) × Int × Int))=>(QcL x0 t)∧TCon Tryz.prog 198 [(.bx [(.c (.sl [(.int .u8)]) x0.1),(.c TI x0.2.1),(.c TI x0.2.2)])] (QaZ t)
def QgW:TRow:=Qi 198 [(.b [(.sl [(.int .u8)]),TI,TI])] fun x=>(some (Qy x.1),QaZ (Zm x.1))
def QlB:List TRow:=[Jq,QfR]
def QyU:TCode :=
 (zsq [(zsq [(.reg [zmv 14 5,zbi 15 .gtr 14 (zki 0)]),(.cond 15 .skip (.exit 0))]),(.block 1 (zsq [(.reg [zmv 18 0,zmv 19 4,zca 20 223 [18,19],zop 6 (.new 69 (z0s ctOp)),zst 6 20 4]),(.reg [zfa 21 3 0,zld 22 21 1,zLd 23 6 4,zop 24 (.bsl 69 ctOp [23]),zop 25 (.app 22 24 69 ctOp),zfa 26 3 0,zst 26 25 1]),(.reg [zfa 27 6 2,zld 28 27 1,zmv 4 28])])),(.reg [zmv 16 5,zbi 17 .sub 16 (zki 1),zmv 5 17])])
def Qt2:List (Nat × Md):=[(0,.b [.d,.d,.d]),(2,.b [.d]),(3,.b [.o 69]),(4,.one .d),(5,.one .d)]
def QyX:TCode :=
 (zsq [(.reg [zLd 29 3 1,zst 2 29 1]),.ret])
def QNr:TCode :=
 (zsq [(.reg [zop 2 (.new 26 [(.n ctOp)])]),(.reg [zop 7 (.build [(.n ctOp)] []),zop 3 (.new 26 [(.n ctOp)]),zst 3 7 1]),(.reg [zmv 8 0,zca 9 108 [8,(zki 3)],zbi 10 .add (zki 1) 9,zmv 4 10]),(zsq [(.reg [zmv 11 0,zca 12 108 [11,(zki 6)],zbi 13 .add (zki 1) 12,zmv 5 13]),(.block 0 (.loop Qt2 QyU))]),QyX])
def QwM:List (ARv × Md):=[(.l 2 1 true,.b [.o 69])]
def Qwr:Qb:=TQ 1 0 QwM K
def QNN:Qb:=Qseq (tawp QlB 1 QyX (Qwr K)) (Qwr K)
def QOs:Qb:=Qblk 0 (QNN K)
def QiT (inn:Int) (n:Int) (c0:List Int) (c1:Int) (c2:Int) (m0:List TOp'):Prop:=Loop QlB 1 Qt2 QyU (QOs K) ⟨[(0,(.p 0 0 0)),(2,(.p 1 0 0)),(3,(.p 3 0 0)),(4,(zci inn)),(5,(zci n))],[(0,(.box [(zcs [(.int .u8)] c0),(zci c1),(zci c2)])),(1,(.box [(zcs ctOp ([]))])),(2,(.sl 69 ctOp true m0)),(3,(.box [(.r ctOp 2 0 m0.length)]))],4⟩
theorem QsW (inn:Int) (n:Int) (c0:List Int) (c1:Int) (c2:Int) (m0:List TOp') (h :
 (zif (decide (n>(0:Int))) ((p_op (c0,c1,c2) inn)∧(((m0.length=m0.length∨m0.length+1≤m0.length)∧m0.length+1≤big)∧(QiT K (((e_op (c0,c1,c2) inn).1).2.2.1) (w64 (n-(1:Int))) (((e_op (c0,c1,c2) inn).2).1) (((e_op (c0,c1,c2) inn).2).2.1) (((e_op (c0,c1,c2) inn).2).2.2) (List.take (m0.length+1) ((List.take m0.length m0)++([(((e_op (c0,c1,c2) inn).1).1,((e_op (c0,c1,c2) inn).1).2.1,((e_op (c0,c1,c2) inn).1).2.2.1,(List.take ((((e_op (c0,c1,c2) inn).1).2.2.2).length) (List.drop 0 (((e_op (c0,c1,c2) inn).1).2.2.2))))])))))) (K (QaZ ((List.take m0.length m0),(c0,c1,c2)))))):QiT K inn n c0 c1 c2 m0 :=
 Loop.of (by kernel_rfl) h
theorem QIo (c:((List Int) × Int × Int)) (h :
 ((Q9 c (3:Int))∧((Q9 ((Qe c (3:Int)).2) (6:Int))∧(QiT K (w64 ((1:Int)+((Qe c (3:Int)).1))) (w64 ((1:Int)+((Qe ((Qe c (3:Int)).2) (6:Int)).1))) (((Qe ((Qe c (3:Int)).2) (6:Int)).2).1) (((Qe ((Qe c (3:Int)).2) (6:Int)).2).2.1) (((Qe ((Qe c (3:Int)).2) (6:Int)).2).2.2) ([]:List TOp'))))):Hold (tawp QlB (1+0) QNr (TQ 1 0 QwM K) (Qf [(.bx [(.c (.sl [(.int .u8)]) c.1),(.c TI c.2.1),(.c TI c.2.2)])])) :=
 Hold.of (by kernel_rfl) h
theorem QvE (c:((List Int) × Int × Int)) (hp:Qy c):∃ t:(List TOp') × (((List Int) × Int × Int)),(QcL c t)∧TCon Tryz.prog 198 [(.bx [(.c (.sl [(.int .u8)]) c.1),(.c TI c.2.1),(.c TI c.2.2)])] (QaZ t):=by
 refine YE (tcx (n:=30) (sg:=QgW.sg) Qk (TOk.cons JW (TOk.cons Qtc TOk.nil)) (by kernel_rfl) (by kernel_rfl) (QIo (fun r'=>∃ t,(QcL c t)∧r'=QaZ t) c ?_))
 have b1:=Z5 c 3 hp
 generalize Qe c 3=r1 at b1 ⊢
 have b2:=Z5 r1.2 6 b1.2.2.2
 generalize Qe r1.2 6=r2 at b2 ⊢
 have h1:=b1.1
 have h2:=b1.2.1 (by omega)
 have h3:=b2.1
 have h4:=b2.2.1 (by omega)
 rw [Qp (x:=1+r1.1) (by omega) (by omega),Qp (x:=1+r2.1) (by omega) (by omega)]
 refine ⟨hp,b1.2.2.2,?_⟩
 have key:∀ (k:Nat) (inn c1 c2:Int) (c0:List Int) (m0:Q6),Qy (c0,c1,c2)→1≤inn→inn≤3→m0.length+k≤6→1≤m0.length+k→Yk none m0=true→QgO none m0 inn=true→QiT (fun r'=>∃ t,(QcL c t)∧r'=QaZ t) inn (k:Int) c0 c1 c2 m0:=by
  intro k
  induction k with
  | zero =>
   intro inn c1 c2 c0 m0 hc k1 k2 k3 k4 k5 k6
   refine QsW (fun r'=>∃ t,(QcL c t)∧r'=QaZ t) _ _ _ _ _ _ ⟨fun h=>by simp at h,fun _=>(Q0 ⟨?_,?_,hc⟩)⟩
   ·simp only [List.take_length,QN,Bool.and_eq_true,QS]
    exact ⟨by omega,k5⟩
   ·simp only [List.take_length];omega
  | succ k ih =>
   intro inn c1 c2 c0 m0 hc k1 k2 k3 k4 k5 k6
   have ho:p_op (c0,c1,c2) inn:=⟨hc,k1,k2⟩
   have b:=QwW _ _ ho
   refine QsW (fun r'=>∃ t,(QcL c t)∧r'=QaZ t) _ _ _ _ _ _ ⟨fun _=>⟨ho,⟨.inl rfl,by rw [Zv];omega⟩,?_⟩,fun h=>by simp at h <;> omega⟩
   rw [Zn,Qp (x:=((k+1:Nat):Int)-1) (by omega) (by omega),show ((k+1:Nat):Int)-1=k by omega]
   refine ih _ _ _ _ _ b.2.2.2.2.2 b.2.2.1 b.2.2.2.1 (by simp;omega) (by simp;omega) (Qtm _ _ _ k5 ?_ ?_) ?_
   ·simp only [List.drop_zero,List.take_length];exact b.1
   ·rw [show (((e_op (c0,c1,c2) inn).1.1,(e_op (c0,c1,c2) inn).1.2.1,(e_op (c0,c1,c2) inn).1.2.2.1,List.take (e_op (c0,c1,c2) inn).1.2.2.2.length (List.drop 0 (e_op (c0,c1,c2) inn).1.2.2.2)):TOp').2.1=inn from b.2.1]
    exact k6
   ·exact Qyo _ _ _
 have h:=key (1+r2.1).toNat (1+r1.1) r2.2.2.1 r2.2.2.2 r2.2.1 [] b2.2.2.2 (by omega) (by omega) (by simp;omega) (by simp;omega) rfl rfl
 rw [Int.toNat_of_nonneg (by omega)] at h
 exact h
theorem Qus (c:((List Int) × Int × Int)) (hp:Qy c):QcL c (Zm c):=(Classical.epsilon_spec (QvE c hp)).1
theorem QHa (c:((List Int) × Int × Int)) (hp:Qy c):TCon Tryz.prog 198 [(.bx [(.c (.sl [(.int .u8)]) c.1),(.c TI c.2.1),(.c TI c.2.2)])] (QaZ (Zm c)):=(Classical.epsilon_spec (QvE c hp)).2
theorem Qyz:Qj Tryz.prog QgW:=Qm fun x h=>QHa x.1 h
def JP (t:(List TOp') × (((List Int) × Int × Int))):TRes:=⟨(.a [(zcs ctOp t.1)]),[],[[(zcs [(.int .u8)] t.2.1),(zci t.2.2.1),(zci t.2.2.2)]],true,[]⟩
def QhV (x0:((List Int) × Int × Int)):(List TOp') × (((List Int) × Int × Int)):=Classical.epsilon fun t:(List TOp') × (((List Int) × Int × Int))=>(Qd6 x0 t)∧TCon Tryz.prog 144 [(.bx [(.c (.sl [(.int .u8)]) x0.1),(.c TI x0.2.1),(.c TI x0.2.2)])] (JP t)
def Qnt:TRow:=Qi 144 [(.b [(.sl [(.int .u8)]),TI,TI])] fun x=>(some (Qy x.1),JP (QhV x.1))
def QjV:List TRow:=[QgW,Jq,Qjg]
def Qsy:TCode :=
 (zsq [(zsq [(.draw [zfa 31 3 0,zld 32 31 1,zle 33 32,zmv 34 0,zca 35 108 [34,(zki 2)],zbi 36 .add (zki 8) 35,zbi 37 .lss 33 36] [(0,4),(1,4),(2,4)]),(.cond 37 .skip (.exit 1))]),(.block 2 (.draw [zfa 38 3 0,zld 39 38 1,zfa 40 3 0,zld 41 40 1,zfa 42 3 0,zld 43 42 1,zle 44 43,zbi 45 .sub 44 (zki 1),zia 46 41 45 ctOp,zfa 47 46 2,zld 48 47 1,zfa 49 3 0,zld 50 49 1,zfa 51 3 0,zld 52 51 1,zle 53 52,zbi 54 .sub 53 (zki 1),zia 55 50 54 ctOp,zfa 56 55 2,zld 57 56 1,zop 58 (.build (z0s ctOp) [(0,1,(zki 3)),(1,1,48),(2,1,57)]),zop 59 (.bsl 69 ctOp [58]),zop 60 (.app 39 59 69 ctOp),zfa 61 3 0,zst 61 60 1] [(0,21),(1,21)]))])
def Qqq:List (Nat × Md):=[(0,.b [.d,.d,.d]),(2,.b [.d]),(3,.b [.f])]
def Qoa:TCode :=
 (zsq [(.reg [zLd 62 3 1,zst 2 62 1]),.ret])
def QMx:TCode :=
 (zsq [(.reg [zop 2 (.new 26 [(.n ctOp)])]),(.reg [zmv 5 0,zca 6 198 [5],zop 3 (.new 26 [(.n ctOp)]),zst 3 6 1]),(.reg [zmv 7 0,zfa 8 3 0,zld 9 8 1,zle 10 9,zca 11 108 [7,10],zmv 4 11]),(zsq [(.reg [zmv 12 0,zca 13 108 [12,(zki 16)]]),(.block 0 (zsq [(.reg [zbi 15 .eql 13 (zki 0),zmv 14 15]),(.cond 14 (.draw [zfa 16 3 0,zld 17 16 1,zmv 18 4,zmv 19 0,zca 20 201 [19],zia 21 17 18 ctOp,zst 21 20 4] [(0,4),(1,4)]) (zsq [(.reg [zbi 23 .eql 13 (zki 1),zmv 22 23]),(.cond 22 (.reg [zfa 24 3 0,zld 25 24 1,zmv 26 4,zop 27 (.slc 25 none (some 26) ctOp),zfa 28 3 0,zst 28 27 1]) (zsq [(.reg [zbi 30 .eql 13 (zki 2),zmv 29 30]),(.cond 29 (.block 1 (.loop Qqq Qsy)) .skip)]))]))]))]),Qoa])
def QvO:List (ARv × Md):=[(.l 2 1 true,.b [.d])]
def Qzd:Qb:=TQ 1 0 QvO K
def QIX:Qb:=Qseq (tawp QjV 1 Qoa (Qzd K)) (Qzd K)
def QJg:Qb:=Qblk 0 (QIX K)
def QHS:Qb:=Qblk 1 (QJg K)
def Qh0 (c0:List Int) (c1:Int) (c2:Int) (m0:List TOp'):Prop:=Loop QjV 1 Qqq Qsy (QHS K) ⟨[(0,(.p 0 0 0)),(2,(.p 1 0 0)),(3,(.p 3 0 0))],[(0,(.box [(zcs [(.int .u8)] c0),(zci c1),(zci c2)])),(1,(.box [(zcs ctOp ([]))])),(2,(.sl 69 ctOp true m0)),(3,(.box [(.r ctOp 2 0 m0.length)]))],4⟩
theorem Qr3 (c0:List Int) (c1:Int) (c2:Int) (m0:List TOp') (h :
 ((Q9 (c0,c1,c2) (2:Int))∧(zif (decide (((m0.length:Nat):Int)<(w64 ((8:Int)+((Qe (c0,c1,c2) (2:Int)).1))))) ((((0:Int)≤w64 (((m0.length:Nat):Int)-(1:Int))∧Int.toNat (w64 (((m0.length:Nat):Int)-(1:Int)))<m0.length)∧(((0+(Int.toNat (w64 (((m0.length:Nat):Int)-(1:Int)))))<m0.length)∧(((0:Int)≤w64 (((m0.length:Nat):Int)-(1:Int))∧Int.toNat (w64 (((m0.length:Nat):Int)-(1:Int)))<m0.length)∧(((0+(Int.toNat (w64 (((m0.length:Nat):Int)-(1:Int)))))<m0.length)∧((m0.length=m0.length∨m0.length+1≤m0.length)∧m0.length+1≤big)))))∧(Qh0 K (((Qe (c0,c1,c2) (2:Int)).2).1) (((Qe (c0,c1,c2) (2:Int)).2).2.1) (((Qe (c0,c1,c2) (2:Int)).2).2.2) (List.take (m0.length+1) ((List.take m0.length m0)++([((3:Int),(gtd dOp m0 (0+(Int.toNat (w64 (((m0.length:Nat):Int)-(1:Int)))))).2.2.1,(gtd dOp m0 (0+(Int.toNat (w64 (((m0.length:Nat):Int)-(1:Int)))))).2.2.1,[])]))))) (K (JP ((List.take m0.length (List.drop 0 m0)),((Qe (c0,c1,c2) (2:Int)).2))))))):Qh0 K c0 c1 c2 m0 :=
 Loop.of (by kernel_rfl) h
theorem QHn (c:((List Int) × Int × Int)) (h :
 let z1:=Qe ((Zm c).2) ((((Zm c).1).length:Nat):Int)
 let z2:=Qe (z1.2) (16:Int)
 ((Qy c)∧((Q9 ((Zm c).2) ((((Zm c).1).length:Nat):Int))∧((Q9 (z1.2) (16:Int))∧(zif ((z2.1)==(0:Int)) (((Qy (z2.2))∧(((0:Int)≤z1.1∧Int.toNat (z1.1)<((Zm c).1).length)∧((0+(Int.toNat (z1.1)))<((Zm c).1).length)))∧K (JP ((List.take (((Zm c).1).length) (List.drop 0 (((Zm c).1).set (0+(Int.toNat (z1.1))) ((QeR (z2.2)).1)))),((QeR (z2.2)).2)))) (zif ((z2.1)==(1:Int)) (((0:Int)≤(0:Int)∧(0:Int)≤z1.1∧z1.1≤((((Zm c).1).length:Nat):Int))∧K (JP ((List.take (Int.toNat (z1.1)-Int.toNat (0:Int)) (List.drop 0 ((Zm c).1))),(z2.2)))) (zif ((z2.1)==(2:Int)) (Qh0 K ((z2.2).1) ((z2.2).2.1) ((z2.2).2.2) (List.take (((Zm c).1).length) ((Zm c).1))) (K (JP ((List.take (((Zm c).1).length) (List.drop 0 ((Zm c).1))),(z2.2))))))))))):Hold (tawp QjV (1+0) QMx (TQ 1 0 QvO K) (Qf [(.bx [(.c (.sl [(.int .u8)]) c.1),(.c TI c.2.1),(.c TI c.2.2)])])) :=
 Hold.of (by kernel_rfl) h
theorem QEY (c:((List Int) × Int × Int)) (hp:Qy c):∃ t:(List TOp') × (((List Int) × Int × Int)),(Qd6 c t)∧TCon Tryz.prog 144 [(.bx [(.c (.sl [(.int .u8)]) c.1),(.c TI c.2.1),(.c TI c.2.2)])] (JP t):=by
 refine YE (tcx (n:=63) (sg:=Qnt.sg) Qk (TOk.cons Qyz (TOk.cons JW (TOk.cons QIG TOk.nil))) (by kernel_rfl) (by kernel_rfl) (QHn (fun r'=>∃ t,(Qd6 c t)∧r'=JP t) c ?_))
 conv=>zeta
 have b1:=Qus c hp
 generalize Zm c=r1 at b1 ⊢
 obtain ⟨k1,k2,k3⟩:=b1
 have k4:1≤r1.1.length:=by
  simp only [QN,Bool.and_eq_true,QS] at k1
  omega
 have b2:=Z5 r1.2 r1.1.length k3
 generalize Qe r1.2 r1.1.length=r2 at b2 ⊢
 have h1:=b2.1
 have h2:=b2.2.1 (by omega)
 have b3:=(Z5 r2.2 16 b2.2.2.2).2.2.2
 generalize Qe r2.2 16=r3 at b3 ⊢
 refine ⟨hp,k3,b2.2.2.2,fun _=>⟨⟨b3,⟨h1,by omega⟩,by omega⟩,Q0 ⟨?_,(QNf _ b3).2⟩⟩,fun _=>⟨fun _=>⟨⟨by omega,by omega,by omega⟩,Q0 ⟨?_,b3⟩⟩,fun _=>⟨fun _=>?_,fun _=>(Q0 ⟨?_,b3⟩)⟩⟩⟩
 ·simp;omega
 ·simp;omega
 ·rw [List.take_length]
  have key:∀ (k:Nat) (c1 c2:Int) (c0:List Int) (m0:Q6),Qy (c0,c1,c2)→1≤m0.length→m0.length+k=9→Qh0 (fun r'=>∃ t,(Qd6 c t)∧r'=JP t) c0 c1 c2 m0:=by
   intro k
   induction k with
   | zero =>
    intro c1 c2 c0 m0 hc q1 q2
    have b:=Z5 (c0,c1,c2) 2 hc
    have q3:=b.1
    have q4:=b.2.1 (by omega)
    refine Qr3 (fun r'=>∃ t,(Qd6 c t)∧r'=JP t) _ _ _ _ ⟨hc,fun h=>?_,fun _=>(Q0 ⟨?_,b.2.2.2⟩)⟩
    ·rw [Qp (x:=8+_) (by omega) (by omega)] at h
     simp at h;omega
    ·simp;omega
   | succ k ih =>
    intro c1 c2 c0 m0 hc q1 q2
    have b:=Z5 (c0,c1,c2) 2 hc
    refine Qr3 (fun r'=>∃ t,(Qd6 c t)∧r'=JP t) _ _ _ _ ⟨hc,fun _=>?_,fun _=>(Q0 ⟨?_,b.2.2.2⟩)⟩
    ·rw [Qp (x:=(m0.length:Int)-1) (by omega) (by omega)]
     refine ⟨⟨⟨by omega,by omega⟩,by omega,⟨by omega,by omega⟩,by omega,.inl rfl,by rw [Zv];omega⟩,?_⟩
     rw [Zn]
     exact ih _ _ _ _ b.2.2.2 (by simp) (by simp;omega)
    ·simp;omega
  exact key (9-r1.1.length) _ _ _ _ b3 k4 (by omega)
 ·simp;omega
theorem QJN (c:((List Int) × Int × Int)) (hp:Qy c):TCon Tryz.prog 144 [(.bx [(.c (.sl [(.int .u8)]) c.1),(.c TI c.2.1),(.c TI c.2.2)])] (JP (QhV c)):=(Classical.epsilon_spec (QEY c hp)).2
theorem QFn:Qj Tryz.prog Qnt:=Qm fun x h=>QJN x.1 h
end
end Go.Proofs.YtjbdljkhbglnhaaGreat.Am

