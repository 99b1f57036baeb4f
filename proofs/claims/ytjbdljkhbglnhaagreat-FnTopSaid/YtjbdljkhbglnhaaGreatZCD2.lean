/- -/
import Derived.Test.YtjbdljkhbglnhaaGreatZCD1
import Derived.Test.YtjbdljkhbglnhaaGreatZCP4
namespace Go.Proofs.YtjbdljkhbglnhaaGreat.Am
open Go Go.RowKit Go.Proofs.YtjbdljkhbglnhaaGreat
set_option linter.all false
set_option maxHeartbeats 2000000
noncomputable section
variable (K:TRes→Prop)
def Qbc (t:Int × (((List Int) × Int × Int))):TRes:=⟨(zci t.1),[],[[(zcs [(.int .u8)] t.2.1),(zci t.2.2.1),(zci t.2.2.2)]],true,[]⟩
def Qby (x0:((List Int) × Int × Int)):Int × (((List Int) × Int × Int)):=Classical.epsilon fun t:Int × (((List Int) × Int × Int))=>(Qjy x0 t)∧TCon Tryz.prog 181 [(.bx [(.c (.sl [(.int .u8)]) x0.1),(.c TI x0.2.1),(.c TI x0.2.2)])] (Qbc t)
def Qgz:TRow:=Qf 181 [(.b [(.sl [(.int .u8)]),TI,TI])] fun x=>(some (QF x.1),Qbc (Qby x.1))
def QUo:List TRow:=[JB,Qb2]
def QOh:TCode :=
 (zsq [(.reg [zmv 2 (zki 0)]),(zsq [(.reg [zmv 3 0,zca 4 108 [3,(zki 12)]]),(.block 0 (zsq [(.reg [zbi 6 .eql 4 (zki 0),zmv 5 6]),(.cond 5 (zsq [(.reg [zmv 7 0,zop 8 (.bsl 3 [TI] [(zki 2147483647),(zki (-2147483647)),(zki 2147483646),(zki 1),(zki (-1)),(zki 0)]),zca 9 145 [7,8],zmv 2 9]),.ret]) (zsq [(.reg [zbi 11 .eql 4 (zki 1),zmv 10 11]),(.cond 10 (zsq [(.reg [zmv 12 0,zca 13 108 [12,(zki 4000)],zbi 14 .sub 13 (zki 2000),zbi 15 .mul 14 (zki 997),zmv 2 15]),.ret]) (zsq [(.reg [zbi 17 .eql 4 (zki 2),zmv 16 17]),(.cond 16 (zsq [(.reg [zmv 18 0,zca 19 108 [18,(zki 9)],zbi 20 .sub 19 (zki 4),zmv 2 20]),.ret]) .skip)]))]))]))]),(.reg [zmv 21 0,zca 22 108 [21,(zki 17)],zbi 23 .sub 22 (zki 8),zbi 24 .mul 23 (zki 65536),zmv 25 0,zop 26 (.bsl 3 [TI] [(zki 1),(zki 1),(zki 2),(zki 4),(zki 3)]),zca 27 145 [25,26],zbi 28 .quo 24 27,zmv 2 28]),.ret])
def QQL:List (ARv × Md):=[(.t 2,.one .d)]
theorem QMS (c:((List Int) × Int × Int)) (h :
 ((Zr c (12:Int))∧(zif (((Ql c (12:Int)).1)==(0:Int)) ((Y9 ((Ql c (12:Int)).2) ([(2147483647:Int),(-2147483647:Int),(2147483646:Int),(1:Int),(-1:Int),(0:Int)]))∧K (Qbc ((ZN ((Ql c (12:Int)).2) ([(2147483647:Int),(-2147483647:Int),(2147483646:Int),(1:Int),(-1:Int),(0:Int)])).1,((ZN ((Ql c (12:Int)).2) ([(2147483647:Int),(-2147483647:Int),(2147483646:Int),(1:Int),(-1:Int),(0:Int)])).2)))) (zif (((Ql c (12:Int)).1)==(1:Int)) ((Zr ((Ql c (12:Int)).2) (4000:Int))∧K (Qbc (w64 ((w64 (((Ql ((Ql c (12:Int)).2) (4000:Int)).1)-(2000:Int)))*(997:Int)),((Ql ((Ql c (12:Int)).2) (4000:Int)).2)))) (zif (((Ql c (12:Int)).1)==(2:Int)) ((Zr ((Ql c (12:Int)).2) (9:Int))∧K (Qbc (w64 (((Ql ((Ql c (12:Int)).2) (9:Int)).1)-(4:Int)),((Ql ((Ql c (12:Int)).2) (9:Int)).2)))) (((Zr ((Ql c (12:Int)).2) (17:Int))∧((Y9 ((Ql ((Ql c (12:Int)).2) (17:Int)).2) ([(1:Int),(1:Int),(2:Int),(4:Int),(3:Int)]))∧(¬ ((ZN ((Ql ((Ql c (12:Int)).2) (17:Int)).2) ([(1:Int),(1:Int),(2:Int),(4:Int),(3:Int)])).1:Int)=0)))∧K (Qbc (w64 (Int.tdiv (w64 ((w64 (((Ql ((Ql c (12:Int)).2) (17:Int)).1)-(8:Int)))*(65536:Int))) ((ZN ((Ql ((Ql c (12:Int)).2) (17:Int)).2) ([(1:Int),(1:Int),(2:Int),(4:Int),(3:Int)])).1)),((ZN ((Ql ((Ql c (12:Int)).2) (17:Int)).2) ([(1:Int),(1:Int),(2:Int),(4:Int),(3:Int)])).2))))))))):Hold (tawp QUo (1+0) QOh (TQ 1 0 QQL K) (Qd [(.bx [(.c (.sl [(.int .u8)]) c.1),(.c TI c.2.1),(.c TI c.2.2)])])) :=
 Hold.of (by kernel_rfl) h
theorem QDF (c:((List Int) × Int × Int)) (hp:QF c):∃ t:Int × (((List Int) × Int × Int)),(Qjy c t)∧TCon Tryz.prog 181 [(.bx [(.c (.sl [(.int .u8)]) c.1),(.c TI c.2.1),(.c TI c.2.2)])] (Qbc t):=by
 refine YV (tcx (n:=29) (sg:=Qgz.sg) Qg (TOk.cons J2 (TOk.cons Qej TOk.nil)) (by kernel_rfl) (by kernel_rfl) (QMS (fun r'=>∃ t,(Qjy c t)∧r'=Qbc t) c ?_))
 have b1:=Yh c 12 hp
 generalize Ql c 12=r at b1 ⊢
 have hc:QF r.2:=b1.2.2.2
 refine ⟨hp,fun _=>?_,fun _=>⟨fun _=>?_,fun _=>⟨fun _=>?_,fun _=>?_⟩⟩⟩
 ·have hpp:Y9 r.2 [2147483647,-2147483647,2147483646,1,-1,0]:=⟨hc,by simp,by simp⟩
  have b2:=Qd9 _ _ hpp
  refine ⟨hpp,Ze ⟨?_,b2.2⟩⟩
  have b3:=b2.1
  simp only [List.mem_cons,List.not_mem_nil,or_false] at b3
  simp only [Q8,Bool.and_eq_true,decide_eq_true_eq]
  omega
 ·have b2:=Yh r.2 4000 hc
  refine ⟨hc,Ze ⟨?_,b2.2.2.2⟩⟩
  have h1:=b2.1
  have h2:=b2.2.1 (by omega)
  rw [Qq (x:=_-2000) (by omega) (by omega),Qq (by omega) (by omega)]
  simp only [Q8,Bool.and_eq_true,decide_eq_true_eq]
  omega
 ·have b2:=Yh r.2 9 hc
  refine ⟨hc,Ze ⟨?_,b2.2.2.2⟩⟩
  have h1:=b2.1
  have h2:=b2.2.1 (by omega)
  rw [Qq (by omega) (by omega)]
  simp only [Q8,Bool.and_eq_true,decide_eq_true_eq]
  omega
 ·have b2:=Yh r.2 17 hc
  have hpp:Y9 (Ql r.2 17).2 [1,1,2,4,3]:=⟨b2.2.2.2,by simp,by simp⟩
  have b3:=Qd9 _ _ hpp
  have b4:=b3.1
  simp only [List.mem_cons,List.not_mem_nil,or_false] at b4
  have h1:=b2.1
  have h2:=b2.2.1 (by omega)
  refine ⟨⟨hc,hpp,by omega⟩,Ze ⟨?_,b3.2⟩⟩
  have h3:=QGQ (a:=((Ql r.2 17).1-8)*65536) (b:=(ZN (Ql r.2 17).2 [1,1,2,4,3]).1) (B:=1000000) (by omega) (by omega) (by omega)
  rw [Qq (x:=_-8) (by omega) (by omega),Qq (x:=_*65536) (by omega) (by omega),Qq (by omega) (by omega)]
  simp only [Q8,Bool.and_eq_true,decide_eq_true_eq]
  omega
theorem Qxa (c:((List Int) × Int × Int)) (hp:QF c):Qjy c (Qby c):=(Classical.epsilon_spec (QDF c hp)).1
theorem QXl (c:((List Int) × Int × Int)) (hp:QF c):TCon Tryz.prog 181 [(.bx [(.c (.sl [(.int .u8)]) c.1),(.c TI c.2.1),(.c TI c.2.2)])] (Qbc (Qby c)):=(Classical.epsilon_spec (QDF c hp)).2
theorem Qu6:Qe Tryz.prog Qgz:=Qh fun x h=>QXl x.1 h
def Qdo (t:Int × (((List Int) × Int × Int))):TRes:=⟨(zci t.1),[],[[(zcs [(.int .u8)] t.2.1),(zci t.2.2.1),(zci t.2.2.2)]],true,[]⟩
def Qdu (x0:((List Int) × Int × Int)):Int × (((List Int) × Int × Int)):=Classical.epsilon fun t:Int × (((List Int) × Int × Int))=>(Qix x0 t)∧TCon Tryz.prog 182 [(.bx [(.c (.sl [(.int .u8)]) x0.1),(.c TI x0.2.1),(.c TI x0.2.2)])] (Qdo t)
def Qkt:TRow:=Qf 182 [(.b [(.sl [(.int .u8)]),TI,TI])] fun x=>(some (QF x.1),Qdo (Qdu x.1))
def QLV:List TRow:=[QfX,Qb2,Qgz]
def QWQ:TCode :=
 (zsq [(.reg [zmv 2 (zki 0)]),(zsq [(.reg [zmv 3 0,zca 4 106 [3,(zki 8)]]),(.cond 4 (zsq [(.reg [zmv 5 0,zop 6 (.bsl 3 [TI] [(zki 2147483648),(zki (-2147483648)),(zki 9223372036854775807),(zki (-9223372036854775807))]),zca 7 145 [5,6],zmv 2 7]),.ret]) .skip)]),(.reg [zmv 8 0,zca 9 181 [8],zmv 2 9]),.ret])
def QF5:List (ARv × Md):=[(.t 2,.one .d)]
theorem QIA (c:((List Int) × Int × Int)) (h :
 ((Zr c (8:Int))∧(zif ((ZW c (8:Int)).1) ((Y9 ((ZW c (8:Int)).2) ([(2147483648:Int),(-2147483648:Int),(9223372036854775807:Int),(-9223372036854775807:Int)]))∧K (Qdo ((ZN ((ZW c (8:Int)).2) ([(2147483648:Int),(-2147483648:Int),(9223372036854775807:Int),(-9223372036854775807:Int)])).1,((ZN ((ZW c (8:Int)).2) ([(2147483648:Int),(-2147483648:Int),(9223372036854775807:Int),(-9223372036854775807:Int)])).2)))) ((QF ((ZW c (8:Int)).2))∧K (Qdo ((Qby ((ZW c (8:Int)).2)).1,((Qby ((ZW c (8:Int)).2)).2))))))):Hold (tawp QLV (1+0) QWQ (TQ 1 0 QF5 K) (Qd [(.bx [(.c (.sl [(.int .u8)]) c.1),(.c TI c.2.1),(.c TI c.2.2)])])) :=
 Hold.of (by kernel_rfl) h
theorem Qta (c:((List Int) × Int × Int)) (hp:QF c):∃ t:Int × (((List Int) × Int × Int)),(Qix c t)∧TCon Tryz.prog 182 [(.bx [(.c (.sl [(.int .u8)]) c.1),(.c TI c.2.1),(.c TI c.2.2)])] (Qdo t):=by
 refine YV (tcx (n:=10) (sg:=Qkt.sg) Qg (TOk.cons QpF (TOk.cons Qej (TOk.cons Qu6 TOk.nil))) (by kernel_rfl) (by kernel_rfl) (QIA (fun r'=>∃ t,(Qix c t)∧r'=Qdo t) c ?_))
 have b1:=QpU c 8 hp
 generalize ZW c 8=r at b1 ⊢
 have hpp:Y9 r.2 [2147483648,-2147483648,9223372036854775807,-9223372036854775807]:=⟨b1,by simp,by simp⟩
 exact ⟨hp,fun _=>⟨hpp,Ze ((Qd9 _ _ hpp).2)⟩,fun _=>⟨b1,Ze ((Qxa _ b1).2)⟩⟩
theorem Qtk (c:((List Int) × Int × Int)) (hp:QF c):Qix c (Qdu c):=(Classical.epsilon_spec (Qta c hp)).1
theorem QFJ (c:((List Int) × Int × Int)) (hp:QF c):TCon Tryz.prog 182 [(.bx [(.c (.sl [(.int .u8)]) c.1),(.c TI c.2.1),(.c TI c.2.2)])] (Qdo (Qdu c)):=(Classical.epsilon_spec (Qta c hp)).2
theorem Qu2:Qe Tryz.prog Qkt:=Qh fun x h=>QFJ x.1 h
def Qbf (t:(List Int) × (((List Int) × Int × Int))):TRes:=⟨(.r [TI] 0 0 ((t.1).length)),[(.sl 3 [TI] true t.1)],[[(zcs [(.int .u8)] t.2.1),(zci t.2.2.1),(zci t.2.2.2)]],true,[]⟩
def Yq (x0:((List Int) × Int × Int)) (x1:Int):(List Int) × (((List Int) × Int × Int)):=Classical.epsilon fun t:(List Int) × (((List Int) × Int × Int))=>(QcN x0 x1 t)∧TCon Tryz.prog 105 [(.bx [(.c (.sl [(.int .u8)]) x0.1),(.c TI x0.2.1),(.c TI x0.2.2)]),(.c TI x1)] (Qbf t)
def QeU:TRow:=Qf 105 [(.b [(.sl [(.int .u8)]),TI,TI]),(.c TI)] fun x=>(some (JD x.1 x.2.1),Qbf (Yq x.1 x.2.1))
def QmQ:List TRow:=[Qgz]
def Qs6:TCode :=
 (zsq [(zsq [(.reg [zmv 8 6,zmv 9 1,zbi 10 .lss 8 9]),(.cond 10 .skip (.exit 0))]),(.block 1 (.reg [zmv 13 5,zmv 14 0,zca 15 181 [14],zop 16 (.bsl 3 [TI] [15]),zop 17 (.app 13 16 3 [TI]),zmv 5 17])),(.reg [zmv 11 6,zbi 12 .add 11 (zki 1),zmv 6 12])])
def QuZ:List (Nat × Md):=[(0,.b [.d,.d,.d]),(1,.one .d),(5,.one .f),(6,.one .d)]
def QCP:TCode :=
 (zsq [(.reg [zmv 18 5,zmv 4 18]),.ret])
def QKa:TCode :=
 (zsq [(.reg [zmv 4 (.k (.n [TI]))]),(.reg [zop 7 (.bsl 3 [TI] []),zmv 5 7]),(zsq [(.reg [zmv 6 (zki 0)]),(.block 0 (.loop QuZ Qs6))]),QCP])
def Qt4:List (ARv × Md):=[(.t 4,.one (.o 3))]
def Qti:Qb:=TQ 1 0 Qt4 K
def QFg:Qb:=Qseq (tawp QmQ 1 QCP (Qti K)) (Qti K)
def QWz:Qb:=Qblk 0 (QFg K)
def Qh7 (n:Int) (i:Int) (c0:List Int) (c1:Int) (c2:Int) (out:List Int):Prop:=Loop QmQ 1 QuZ Qs6 (QWz K) ⟨[(0,(.p 0 0 0)),(1,(zci n)),(5,(.r [TI] 1 0 out.length)),(6,(zci i))],[(0,(.box [(zcs [(.int .u8)] c0),(zci c1),(zci c2)])),(1,(.sl 3 [TI] true out))],2⟩
theorem Qw8 (n:Int) (i:Int) (c0:List Int) (c1:Int) (c2:Int) (out:List Int) (h :
 (zif (decide (i<n)) (((QF (c0,c1,c2))∧((out.length=out.length∨out.length+1≤out.length)∧out.length+1≤big))∧(Qh7 K n (w64 (i+(1:Int))) (((Qby (c0,c1,c2)).2).1) (((Qby (c0,c1,c2)).2).2.1) (((Qby (c0,c1,c2)).2).2.2) (List.take (out.length+1) ((List.take out.length out)++([(Qby (c0,c1,c2)).1]))))) (K (Qbf ((List.take out.length out),(c0,c1,c2)))))):Qh7 K n i c0 c1 c2 out :=
 Loop.of (by kernel_rfl) h
theorem QR8 (c:((List Int) × Int × Int)) (n:Int) (h :
 (Qh7 K n 0 c.1 c.2.1 c.2.2 ([]:List Int))):Hold (tawp QmQ (1+0) QKa (TQ 1 0 Qt4 K) (Qd [(.bx [(.c (.sl [(.int .u8)]) c.1),(.c TI c.2.1),(.c TI c.2.2)]),(.c TI n)])) :=
 Hold.of (by kernel_rfl) h
theorem Qsy (c:((List Int) × Int × Int)) (n:Int) (hp:JD c n):∃ t:(List Int) × (((List Int) × Int × Int)),(QcN c n t)∧TCon Tryz.prog 105 [(.bx [(.c (.sl [(.int .u8)]) c.1),(.c TI c.2.1),(.c TI c.2.2)]),(.c TI n)] (Qbf t):=by
 refine YV (tcx (n:=19) (sg:=QeU.sg) Qg (TOk.cons Qu6 TOk.nil) (by kernel_rfl) (by kernel_rfl) (QR8 (fun r'=>∃ t,(QcN c n t)∧r'=Qbf t) c n ?_))
 obtain ⟨h1,h2⟩:=hp
 refine Jb n.toNat (fun k=>∀ (c0:List Int) (c1 c2:Int) (out:List Int),out.length=k→ZD out=true→QF (c0,c1,c2)→Qh7 (fun r'=>∃ t,(QcN c n t)∧r'=Qbf t) n (k:Int) c0 c1 c2 out) ?_ ?_ c.1 c.2.1 c.2.2 [] rfl rfl h1
 ·intro c0 c1 c2 out hl hf hc
  refine Qw8 (fun r'=>∃ t,(QcN c n t)∧r'=Qbf t) n _ _ _ _ _ ⟨fun h=>by simp at h;omega,fun _=>(Ze ⟨?_,?_,hc⟩)⟩
  ·simp;omega
  ·simp only [List.take_length];exact hf
 ·intro k hk ih c0 c1 c2 out hl hf hc
  have b:=Qxa (c0,c1,c2) hc
  refine Qw8 (fun r'=>∃ t,(QcN c n t)∧r'=Qbf t) n _ _ _ _ _ ⟨fun _=>⟨⟨hc,.inl rfl,by rw [Zu];omega⟩,?_⟩,fun h=>by simp at h;omega⟩
  rw [sc1 (by omega),Zf]
  exact ih _ _ _ _ (by simp;omega) (QNU hf b.1) b.2
theorem Qe3 (c:((List Int) × Int × Int)) (n:Int) (hp:JD c n):QcN c n (Yq c n):=(Classical.epsilon_spec (Qsy c n hp)).1
theorem QTM (c:((List Int) × Int × Int)) (n:Int) (hp:JD c n):TCon Tryz.prog 105 [(.bx [(.c (.sl [(.int .u8)]) c.1),(.c TI c.2.1),(.c TI c.2.2)]),(.c TI n)] (Qbf (Yq c n)):=(Classical.epsilon_spec (Qsy c n hp)).2
theorem Qmu:Qe Tryz.prog QeU:=Qh fun x h=>QTM x.1 x.2.1 h
def Qb7 (t:(List Int) × (((List Int) × Int × Int))):TRes:=⟨(zcs [TI] t.1),[],[[(zcs [(.int .u8)] t.2.1),(zci t.2.2.1),(zci t.2.2.2)]],true,[]⟩
def Qgq (x0:((List Int) × Int × Int)):(List Int) × (((List Int) × Int × Int)):=Classical.epsilon fun t:(List Int) × (((List Int) × Int × Int))=>(QiB x0 t)∧TCon Tryz.prog 107 [(.bx [(.c (.sl [(.int .u8)]) x0.1),(.c TI x0.2.1),(.c TI x0.2.2)])] (Qb7 t)
def Qmo:TRow:=Qf 107 [(.b [(.sl [(.int .u8)]),TI,TI])] fun x=>(some (QF x.1),Qb7 (Qgq x.1))
def QIX:List TRow:=[JB,QeU,Qkt,Qb2]
def QNn:TCode :=
 (zsq [(.reg [zmv 2 (.k (.n [TI]))]),(.reg [zmv 4 0,zmv 5 0,zca 6 108 [5,(zki 4)],zbi 7 .add (zki 1) 6,zca 8 105 [4,7],zmv 3 8]),(zsq [(.reg [zmv 9 0,zca 10 108 [9,(zki 16)]]),(.block 0 (zsq [(.reg [zbi 12 .eql 10 (zki 0),zmv 11 12]),(.cond 11 (.reg [zmv 13 3,zmv 14 0,zca 15 182 [14],zia 16 13 (zki 0) [TI],zst 16 15 1]) (zsq [(.reg [zbi 18 .eql 10 (zki 1),zmv 17 18]),(.cond 17 (zsq [(.reg [zmv 19 0,zmv 20 0,zop 21 (.bsl 3 [TI] [(zki 0),(zki 6),(zki 7)]),zca 22 145 [20,21],zca 23 105 [19,22],zmv 2 23]),.ret]) .skip)]))]))]),(.reg [zmv 24 3,zmv 2 24]),.ret])
def QJx:List (ARv × Md):=[(.t 2,.one .d)]
theorem QU9 (c:((List Int) × Int × Int)) (h :
 let z3:=Ql c (4:Int)
 let z1:=Yq (z3.2) (w64 ((1:Int)+(z3.1)))
 let z2:=Ql (z1.2) (16:Int)
 (((Zr c (4:Int))∧(JD (z3.2) (w64 ((1:Int)+(z3.1)))))∧((Zr (z1.2) (16:Int))∧(zif ((z2.1)==(0:Int)) (((QF (z2.2))∧(((0:Int)≤(0:Int)∧Int.toNat (0:Int)<(z1.1).length)∧((0+(Int.toNat (0:Int)))<(z1.1).length)))∧K (Qb7 ((List.take ((z1.1).length) (List.drop 0 ((z1.1).set (0+(Int.toNat (0:Int))) ((Qdu (z2.2)).1)))),((Qdu (z2.2)).2)))) (zif ((z2.1)==(1:Int)) (((Y9 (z2.2) ([(0:Int),(6:Int),(7:Int)]))∧(JD ((ZN (z2.2) ([(0:Int),(6:Int),(7:Int)])).2) ((ZN (z2.2) ([(0:Int),(6:Int),(7:Int)])).1)))∧K (Qb7 ((List.take (((Yq ((ZN (z2.2) ([(0:Int),(6:Int),(7:Int)])).2) ((ZN (z2.2) ([(0:Int),(6:Int),(7:Int)])).1)).1).length) (List.drop 0 ((Yq ((ZN (z2.2) ([(0:Int),(6:Int),(7:Int)])).2) ((ZN (z2.2) ([(0:Int),(6:Int),(7:Int)])).1)).1))),((Yq ((ZN (z2.2) ([(0:Int),(6:Int),(7:Int)])).2) ((ZN (z2.2) ([(0:Int),(6:Int),(7:Int)])).1)).2)))) (K (Qb7 ((List.take ((z1.1).length) (List.drop 0 (z1.1))),(z2.2))))))))):Hold (tawp QIX (1+0) QNn (TQ 1 0 QJx K) (Qd [(.bx [(.c (.sl [(.int .u8)]) c.1),(.c TI c.2.1),(.c TI c.2.2)])])) :=
 Hold.of (by kernel_rfl) h
theorem QAS (c:((List Int) × Int × Int)) (hp:QF c):∃ t:(List Int) × (((List Int) × Int × Int)),(QiB c t)∧TCon Tryz.prog 107 [(.bx [(.c (.sl [(.int .u8)]) c.1),(.c TI c.2.1),(.c TI c.2.2)])] (Qb7 t):=by
 refine YV (tcx (n:=25) (sg:=Qmo.sg) Qg (TOk.cons J2 (TOk.cons Qmu (TOk.cons Qu2 (TOk.cons Qej TOk.nil)))) (by kernel_rfl) (by kernel_rfl) (QU9 (fun r'=>∃ t,(QiB c t)∧r'=Qb7 t) c ?_))
 conv=>zeta
 have b1:=Yh c 4 hp
 generalize Ql c 4=r1 at b1 ⊢
 have h1:=b1.1
 have h2:=b1.2.1 (by omega)
 rw [Qq (x:=1+r1.1) (by omega) (by omega)]
 have hv:JD r1.2 (1+r1.1):=⟨b1.2.2.2,by omega⟩
 have b2:=Qe3 _ _ hv
 generalize Yq r1.2 (1+r1.1)=r2 at b2 ⊢
 have b3:=Yh r2.2 16 b2.2.2
 generalize Ql r2.2 16=r3 at b3 ⊢
 have hc:=b3.2.2.2
 have hl:=b2.1
 have hpk:Y9 r3.2 [0,6,7]:=⟨hc,by simp,by simp⟩
 have b4:=Qd9 _ _ hpk
 have b5:=b4.1
 simp only [List.mem_cons,List.not_mem_nil,or_false] at b5
 have hv2:JD (ZN r3.2 [0,6,7]).2 (ZN r3.2 [0,6,7]).1:=⟨b4.2,by omega⟩
 have b6:=Qe3 _ _ hv2
 have hl2:=b6.1
 refine ⟨⟨hp,hv⟩,b2.2.2,fun _=>⟨⟨hc,⟨by omega,?_⟩,?_⟩,Ze ⟨?_,Qtk _ hc⟩⟩,fun _=>⟨fun _=>⟨⟨hpk,hv2⟩,Ze ⟨?_,b6.2.2⟩⟩,fun _=>(Ze ⟨?_,hc⟩)⟩⟩ <;> (simp;omega)
theorem QFq (c:((List Int) × Int × Int)) (hp:QF c):QiB c (Qgq c):=(Classical.epsilon_spec (QAS c hp)).1
theorem QPT (c:((List Int) × Int × Int)) (hp:QF c):TCon Tryz.prog 107 [(.bx [(.c (.sl [(.int .u8)]) c.1),(.c TI c.2.1),(.c TI c.2.2)])] (Qb7 (Qgq c)):=(Classical.epsilon_spec (QAS c hp)).2
theorem QH8:Qe Tryz.prog Qmo:=Qh fun x h=>QPT x.1 h
def Qb9 (t:TOp' × (((List Int) × Int × Int))):TRes:=⟨(.a [(zci t.1.1),(zci t.1.2.1),(zci t.1.2.2.1),(.r [TI] 0 0 ((t.1.2.2.2).length))]),[(.sl 3 [TI] true t.1.2.2.2)],[[(zcs [(.int .u8)] t.2.1),(zci t.2.2.1),(zci t.2.2.2)]],true,[]⟩
def e_op (x0:((List Int) × Int × Int)) (x1:Int):TOp' × (((List Int) × Int × Int)):=Classical.epsilon fun t:TOp' × (((List Int) × Int × Int))=>(q_op x0 x1 t)∧TCon Tryz.prog 223 [(.bx [(.c (.sl [(.int .u8)]) x0.1),(.c TI x0.2.1),(.c TI x0.2.2)]),(.c TI x1)] (Qb9 t)
def Qh8:TRow:=Qf 223 [(.b [(.sl [(.int .u8)]),TI,TI]),(.c TI)] fun x=>(some (p_op x.1 x.2.1),Qb9 (e_op x.1 x.2.1))
def QsS:List TRow:=[JB,Qin,QeU]
def QCK:TCode :=
 (zsq [(.reg [zmv 19 0,zLd 20 5 4,zca 21 202 [20],zca 22 105 [19,21],zfa 23 5 3,zst 23 22 1]),(.reg [zLd 24 5 4,zst 4 24 4]),.ret])
def QWX:List (Nat × Md):=[(0,.b [.d,.d,.d]),(4,.b (zds 4)),(5,.b (zds 4))]
def QEI:TCode:=.wk QWX QCK
def QNE:TCode :=
 (zsq [(.reg [zop 4 (.new 69 (z0s ctOp))]),(.reg [zmv 6 0,zca 7 108 [6,(zki 5)],zbi 8 .add (zki 1) 7,zmv 9 1,zmv 10 1,zop 11 (.build (z0s ctOp) [(0,1,8),(1,1,9),(2,1,10)]),zop 5 (.new 69 (z0s ctOp)),zst 5 11 4]),(zsq [(.reg [zfa 12 5 0,zld 13 12 1,zbi 14 .eql 13 (zki 1)]),(.cond 14 (.reg [zmv 15 0,zca 16 108 [15,(zki 3)],zbi 17 .add (zki 1) 16,zfa 18 5 2,zst 18 17 1]) .skip)]),QEI])
def Qv8:List (ARv × Md):=[(.l 4 4 true,.b [.d,.d,.d,.o 3])]
def QQz:Qb:=TQ 1 0 Qv8 K
def Qj9 (c:((List Int) × Int × Int)) (inn:Int) (c0:List Int) (c1:Int) (c2:Int) (o2:Int):Prop:=tawp QsS 1 QCK (QQz K) ⟨[(0,(.p 0 0 0)),(4,(.p 1 0 0)),(5,(.p 2 0 0))],[(0,(.box [(zcs [(.int .u8)] c0),(zci c1),(zci c2)])),(1,(.box (Tup.cells ctOp ((0:Int),(0:Int),(0:Int),[])))),(2,(.box (Tup.cells ctOp (w64 ((1:Int)+((Ql c (5:Int)).1)),inn,o2,[]))))],3⟩
theorem QOE (c:((List Int) × Int × Int)) (inn:Int) (c0:List Int) (c1:Int) (c2:Int) (o2:Int) (h :
 ((JD (c0,c1,c2) (Ya (w64 ((1:Int)+((Ql c (5:Int)).1)),inn,o2,[])))∧K (Qb9 ((w64 ((1:Int)+((Ql c (5:Int)).1)),inn,o2,(List.take (((Yq (c0,c1,c2) (Ya (w64 ((1:Int)+((Ql c (5:Int)).1)),inn,o2,[]))).1).length) ((Yq (c0,c1,c2) (Ya (w64 ((1:Int)+((Ql c (5:Int)).1)),inn,o2,[]))).1))),((Yq (c0,c1,c2) (Ya (w64 ((1:Int)+((Ql c (5:Int)).1)),inn,o2,[]))).2))))):Hold (Qj9 K c inn c0 c1 c2 o2) :=
 Hold.of (by kernel_rfl) h
theorem QN8 (c:((List Int) × Int × Int)) (inn:Int) (h :
 ((Zr c (5:Int))∧(zif ((w64 ((1:Int)+((Ql c (5:Int)).1)))==(1:Int)) ((Zr ((Ql c (5:Int)).2) (3:Int))∧(Qj9 K c inn (((Ql ((Ql c (5:Int)).2) (3:Int)).2).1) (((Ql ((Ql c (5:Int)).2) (3:Int)).2).2.1) (((Ql ((Ql c (5:Int)).2) (3:Int)).2).2.2) (w64 ((1:Int)+((Ql ((Ql c (5:Int)).2) (3:Int)).1))))) (Qj9 K c inn (((Ql c (5:Int)).2).1) (((Ql c (5:Int)).2).2.1) (((Ql c (5:Int)).2).2.2) inn)))):Hold (tawp QsS (1+0) QNE (TQ 1 0 Qv8 K) (Qd [(.bx [(.c (.sl [(.int .u8)]) c.1),(.c TI c.2.1),(.c TI c.2.2)]),(.c TI inn)])) :=
 Hold.of (by kernel_rfl) h
theorem Qza (c:((List Int) × Int × Int)) (inn:Int) (hp:p_op c inn):∃ t:TOp' × (((List Int) × Int × Int)),(q_op c inn t)∧TCon Tryz.prog 223 [(.bx [(.c (.sl [(.int .u8)]) c.1),(.c TI c.2.1),(.c TI c.2.2)]),(.c TI inn)] (Qb9 t):=by
 refine YV (tcx (n:=25) (sg:=Qh8.sg) Qg (TOk.cons J2 (TOk.cons QBM (TOk.cons Qmu TOk.nil))) (by kernel_rfl) (by kernel_rfl) (QN8 (fun r'=>∃ t,(q_op c inn t)∧r'=Qb9 t) c inn ?_))
 have b1:=Yh c 5 hp.1
 have h1:=b1.1
 have h2:=b1.2.1 (by omega)
 obtain ⟨_,h3,h4⟩:=hp
 have hw:w64 (1+(Ql c 5).1)=1+(Ql c 5).1:=Qq (by omega) (by omega)
 have key:∀ c0 c1 c2 o2,QF (c0,c1,c2)→1≤o2→o2≤3→(1+(Ql c 5).1=1∨inn=o2)→Qj9 (fun r'=>∃ t,(q_op c inn t)∧r'=Qb9 t) c inn c0 c1 c2 o2:=by
  intro c0 c1 c2 o2 hc k1 k2 k3
  refine (QOE (fun r'=>∃ t,(q_op c inn t)∧r'=Qb9 t) c inn c0 c1 c2 o2 ?_).h
  rw [hw]
  have h5:1≤1+(Ql c 5).1:=by omega
  have h6:1+(Ql c 5).1≤5:=by omega
  generalize 1+(Ql c 5).1=o1 at h5 h6 k3 ⊢
  have hs:=Qyk o1 [] h3 h4 k1 k2
  have hv:JD (c0,c1,c2) (Ya (o1,inn,o2,[])):=⟨hc,by omega⟩
  have b:=Qe3 _ _ hv
  have hl:=b.1
  refine ⟨hv,Ze ⟨?_,rfl,k1,k2,?_,b.2.2⟩⟩
  ·simp only [List.take_length]
   exact QUi h5 h6 h3 h4 k1 k2 k3 hl b.2.1
  ·simp;omega
 have b2:=Yh (Ql c 5).2 3 b1.2.2.2
 have h7:=b2.1
 have h8:=b2.2.1 (by omega)
 rw [hw] at *
 refine ⟨‹QF c›,fun h=>⟨b1.2.2.2,?_⟩,fun _=>key _ _ _ _ b1.2.2.2 h3 h4 (.inr rfl)⟩
 rw [Qq (x:=1+(Ql (Ql c 5).2 3).1) (by omega) (by omega)]
 exact key _ _ _ _ b2.2.2.2 (by omega) (by omega) (.inl (by simpa using h))
theorem QAp (c:((List Int) × Int × Int)) (inn:Int) (hp:p_op c inn):q_op c inn (e_op c inn):=(Classical.epsilon_spec (Qza c inn hp)).1
theorem QWh (c:((List Int) × Int × Int)) (inn:Int) (hp:p_op c inn):TCon Tryz.prog 223 [(.bx [(.c (.sl [(.int .u8)]) c.1),(.c TI c.2.1),(.c TI c.2.2)]),(.c TI inn)] (Qb9 (e_op c inn)):=(Classical.epsilon_spec (Qza c inn hp)).2
theorem QBx:Qe Tryz.prog Qh8:=Qh fun x h=>QWh x.1 x.2.1 h
def Qan (t:TOp' × (((List Int) × Int × Int))):TRes:=⟨(.a (Tup.cells ctOp t.1)),[],[[(zcs [(.int .u8)] t.2.1),(zci t.2.2.1),(zci t.2.2.2)]],true,[]⟩
def Qe8 (x0:((List Int) × Int × Int)):TOp' × (((List Int) × Int × Int)):=Classical.epsilon fun t:TOp' × (((List Int) × Int × Int))=>(QhM x0 t)∧TCon Tryz.prog 201 [(.bx [(.c (.sl [(.int .u8)]) x0.1),(.c TI x0.2.1),(.c TI x0.2.2)])] (Qan t)
def QpR:TRow:=Qf 201 [(.b [(.sl [(.int .u8)]),TI,TI])] fun x=>(some (QF x.1),Qan (Qe8 x.1))
def QQd:List TRow:=[JB,Qh8,Qb2,Qkt]
def QUI:TCode :=
 (zsq [(.reg [zop 2 (.new 69 (z0s ctOp))]),(.reg [zmv 4 0,zmv 5 0,zca 6 108 [5,(zki 3)],zbi 7 .add (zki 1) 6,zca 8 223 [4,7],zop 3 (.new 69 (z0s ctOp)),zst 3 8 4]),(zsq [(.reg [zmv 9 0,zca 10 108 [9,(zki 14)]]),(.block 0 (zsq [(.reg [zbi 12 .eql 10 (zki 0),zmv 11 12]),(.cond 11 (.reg [zmv 13 0,zca 14 108 [13,(zki 8)],zbi 15 .sub 14 (zki 1),zfa 16 3 0,zst 16 15 1]) (zsq [(.reg [zbi 18 .eql 10 (zki 1),zmv 17 18]),(.cond 17 (.reg [zmv 19 0,zfa 20 3 1,zld 21 20 1,zbi 22 .add 21 (zki 1),zop 23 (.bsl 3 [TI] [(zki 0),(zki 7),22]),zca 24 145 [19,23],zfa 25 3 1,zst 25 24 1]) (zsq [(.reg [zbi 27 .eql 10 (zki 2),zmv 26 27]),(.cond 26 (.reg [zfa 28 3 3,zld 29 28 1,zop 30 (.bsl 3 [TI] [(zki 0)]),zop 31 (.app 29 30 3 [TI]),zfa 32 3 3,zst 32 31 1]) (zsq [(.reg [zbi 34 .eql 10 (zki 3),zmv 33 34]),(.cond 33 (zsq [(.reg [zfa 35 3 3,zld 36 35 1,zle 37 36,zbi 38 .gtr 37 (zki 0)]),(.cond 38 (.draw [zfa 39 3 3,zld 40 39 1,zmv 41 0,zca 42 182 [41],zia 43 40 (zki 0) [TI],zst 43 42 1] [(0,3),(1,3)]) .skip)]) .skip)]))]))]))]))]),(.reg [zLd 44 3 4,zst 2 44 4]),.ret])
def QT2:List (ARv × Md):=[(.l 2 4 true,.b (zds 4))]
theorem QFm (c:((List Int) × Int × Int)) (h :
 let z4:=Ql c (3:Int)
 let z1:=e_op (z4.2) (w64 ((1:Int)+(z4.1)))
 let z2:=Ql (z1.2) (14:Int)
 let z3:=List.take (((z1.1).2.2.2).length) (List.drop 0 ((z1.1).2.2.2))
 (((Zr c (3:Int))∧(p_op (z4.2) (w64 ((1:Int)+(z4.1)))))∧((Zr (z1.2) (14:Int))∧(zif ((z2.1)==(0:Int)) ((Zr (z2.2) (8:Int))∧K (Qan ((w64 (((Ql (z2.2) (8:Int)).1)-(1:Int)),(z1.1).2.1,(z1.1).2.2.1,z3),((Ql (z2.2) (8:Int)).2)))) (zif ((z2.1)==(1:Int)) ((Y9 (z2.2) ([(0:Int),(7:Int),w64 (((z1.1).2.1)+(1:Int))]))∧K (Qan (((z1.1).1,(ZN (z2.2) ([(0:Int),(7:Int),w64 (((z1.1).2.1)+(1:Int))])).1,(z1.1).2.2.1,z3),((ZN (z2.2) ([(0:Int),(7:Int),w64 (((z1.1).2.1)+(1:Int))])).2)))) (zif ((z2.1)==(2:Int)) (((((z1.1).2.2.2).length=((z1.1).2.2.2).length∨((z1.1).2.2.2).length+1≤((z1.1).2.2.2).length)∧((z1.1).2.2.2).length+1≤big)∧K (Qan (((z1.1).1,(z1.1).2.1,(z1.1).2.2.1,(List.take (((z1.1).2.2.2).length+1) (List.drop 0 ((List.take (((z1.1).2.2.2).length) ((z1.1).2.2.2))++([(0:Int)]))))),(z2.2)))) (zif ((z2.1)==(3:Int)) (zif (decide (((((z1.1).2.2.2).length:Nat):Int)>(0:Int))) (((QF (z2.2))∧(((0:Int)≤(0:Int)∧Int.toNat (0:Int)<((z1.1).2.2.2).length)∧((0+(Int.toNat (0:Int)))<((z1.1).2.2.2).length)))∧K (Qan (((z1.1).1,(z1.1).2.1,(z1.1).2.2.1,(List.take (((z1.1).2.2.2).length) (List.drop 0 (((z1.1).2.2.2).set (0+(Int.toNat (0:Int))) ((Qdu (z2.2)).1))))),((Qdu (z2.2)).2)))) (K (Qan (((z1.1).1,(z1.1).2.1,(z1.1).2.2.1,z3),(z2.2))))) (K (Qan (((z1.1).1,(z1.1).2.1,(z1.1).2.2.1,z3),(z2.2))))))))))):Hold (tawp QQd (1+0) QUI (TQ 1 0 QT2 K) (Qd [(.bx [(.c (.sl [(.int .u8)]) c.1),(.c TI c.2.1),(.c TI c.2.2)])])) :=
 Hold.of (by kernel_rfl) h
theorem QDO (c:((List Int) × Int × Int)) (hp:QF c):∃ t:TOp' × (((List Int) × Int × Int)),(QhM c t)∧TCon Tryz.prog 201 [(.bx [(.c (.sl [(.int .u8)]) c.1),(.c TI c.2.1),(.c TI c.2.2)])] (Qan t):=by
 refine YV (tcx (n:=45) (sg:=QpR.sg) Qg (TOk.cons J2 (TOk.cons QBx (TOk.cons Qej (TOk.cons Qu2 TOk.nil)))) (by kernel_rfl) (by kernel_rfl) (QFm (fun r'=>∃ t,(QhM c t)∧r'=Qan t) c ?_))
 conv=>zeta
 have b1:=Yh c 3 hp
 generalize Ql c 3=r1 at b1 ⊢
 have h1:=b1.1
 have h2:=b1.2.1 (by omega)
 rw [Qq (x:=1+r1.1) (by omega) (by omega)]
 have ho:p_op r1.2 (1+r1.1):=⟨b1.2.2.2,by omega,by omega⟩
 have b2:=QAp _ _ ho
 generalize e_op r1.2 (1+r1.1)=r2 at b2 ⊢
 have hl:=b2.2.2.2.2.1
 have hc2:=b2.2.2.2.2.2
 have b3:=(Yh r2.2 14 hc2).2.2.2
 generalize Ql r2.2 14=r3 at b3 ⊢
 refine ⟨⟨hp,ho⟩,hc2,fun _=>⟨b3,Ze ⟨?_,(Yh _ _ b3).2.2.2⟩⟩,fun _=>⟨fun _=>⟨⟨b3,by simp,by simp⟩,Ze ⟨?_,(Qd9 _ _ ⟨b3,by simp,by simp⟩).2⟩⟩,fun _=>⟨fun _=>⟨⟨.inl rfl,by rw [Zu];omega⟩,Ze ⟨?_,b3⟩⟩,fun _=>⟨fun _=>⟨fun hh=>⟨⟨b3,⟨by omega,by simpa using hh⟩,by simpa using hh⟩,Ze ⟨?_,Qtk _ b3⟩⟩,fun _=>(Ze ⟨?_,b3⟩)⟩,fun _=>(Ze ⟨?_,b3⟩)⟩⟩⟩⟩
 all_goals first
  | (simp;omega)
  | omega
  | skip
theorem QXn (c:((List Int) × Int × Int)) (hp:QF c):QhM c (Qe8 c):=(Classical.epsilon_spec (QDO c hp)).1
theorem QMQ (c:((List Int) × Int × Int)) (hp:QF c):TCon Tryz.prog 201 [(.bx [(.c (.sl [(.int .u8)]) c.1),(.c TI c.2.1),(.c TI c.2.2)])] (Qan (Qe8 c)):=(Classical.epsilon_spec (QDO c hp)).2
theorem QUp:Qe Tryz.prog QpR:=Qh fun x h=>QMQ x.1 h
def Qba (t:(List TOp') × (((List Int) × Int × Int))):TRes:=⟨(.a [(.r ctOp 0 0 ((t.1).length))]),[(.sl 69 ctOp true t.1)],[[(zcs [(.int .u8)] t.2.1),(zci t.2.2.1),(zci t.2.2.2)]],true,[]⟩
def ZB (x0:((List Int) × Int × Int)):(List TOp') × (((List Int) × Int × Int)):=Classical.epsilon fun t:(List TOp') × (((List Int) × Int × Int))=>(QcG x0 t)∧TCon Tryz.prog 198 [(.bx [(.c (.sl [(.int .u8)]) x0.1),(.c TI x0.2.1),(.c TI x0.2.2)])] (Qba t)
def QgT:TRow:=Qf 198 [(.b [(.sl [(.int .u8)]),TI,TI])] fun x=>(some (QF x.1),Qba (ZB x.1))
def Qk2:List TRow:=[JB,Qh8]
def QAo:TCode :=
 (zsq [(zsq [(.reg [zmv 14 5,zbi 15 .gtr 14 (zki 0)]),(.cond 15 .skip (.exit 0))]),(.block 1 (zsq [(.reg [zmv 18 0,zmv 19 4,zca 20 223 [18,19],zop 6 (.new 69 (z0s ctOp)),zst 6 20 4]),(.reg [zfa 21 3 0,zld 22 21 1,zLd 23 6 4,zop 24 (.bsl 69 ctOp [23]),zop 25 (.app 22 24 69 ctOp),zfa 26 3 0,zst 26 25 1]),(.reg [zfa 27 6 2,zld 28 27 1,zmv 4 28])])),(.reg [zmv 16 5,zbi 17 .sub 16 (zki 1),zmv 5 17])])
def QD9:List (Nat × Md):=[(0,.b [.d,.d,.d]),(2,.b [.d]),(3,.b [.o 69]),(4,.one .d),(5,.one .d)]
def Qrk:TCode :=
 (zsq [(.reg [zLd 29 3 1,zst 2 29 1]),.ret])
def QE2:TCode :=
 (zsq [(.reg [zop 2 (.new 26 [(.n ctOp)])]),(.reg [zop 7 (.build [(.n ctOp)] []),zop 3 (.new 26 [(.n ctOp)]),zst 3 7 1]),(.reg [zmv 8 0,zca 9 108 [8,(zki 3)],zbi 10 .add (zki 1) 9,zmv 4 10]),(zsq [(.reg [zmv 11 0,zca 12 108 [11,(zki 6)],zbi 13 .add (zki 1) 12,zmv 5 13]),(.block 0 (.loop QD9 QAo))]),Qrk])
def QsT:List (ARv × Md):=[(.l 2 1 true,.b [.o 69])]
def Qzu:Qb:=TQ 1 0 QsT K
def QPn:Qb:=Qseq (tawp Qk2 1 Qrk (Qzu K)) (Qzu K)
def QMC:Qb:=Qblk 0 (QPn K)
def QiW (inn:Int) (n:Int) (c0:List Int) (c1:Int) (c2:Int) (m0:List TOp'):Prop:=Loop Qk2 1 QD9 QAo (QMC K) ⟨[(0,(.p 0 0 0)),(2,(.p 1 0 0)),(3,(.p 3 0 0)),(4,(zci inn)),(5,(zci n))],[(0,(.box [(zcs [(.int .u8)] c0),(zci c1),(zci c2)])),(1,(.box [(zcs ctOp ([]))])),(2,(.sl 69 ctOp true m0)),(3,(.box [(.r ctOp 2 0 m0.length)]))],4⟩
theorem Qvk (inn:Int) (n:Int) (c0:List Int) (c1:Int) (c2:Int) (m0:List TOp') (h :
 (zif (decide (n>(0:Int))) ((p_op (c0,c1,c2) inn)∧(((m0.length=m0.length∨m0.length+1≤m0.length)∧m0.length+1≤big)∧(QiW K (((e_op (c0,c1,c2) inn).1).2.2.1) (w64 (n-(1:Int))) (((e_op (c0,c1,c2) inn).2).1) (((e_op (c0,c1,c2) inn).2).2.1) (((e_op (c0,c1,c2) inn).2).2.2) (List.take (m0.length+1) ((List.take m0.length m0)++([(((e_op (c0,c1,c2) inn).1).1,((e_op (c0,c1,c2) inn).1).2.1,((e_op (c0,c1,c2) inn).1).2.2.1,(List.take ((((e_op (c0,c1,c2) inn).1).2.2.2).length) (List.drop 0 (((e_op (c0,c1,c2) inn).1).2.2.2))))])))))) (K (Qba ((List.take m0.length m0),(c0,c1,c2)))))):QiW K inn n c0 c1 c2 m0 :=
 Loop.of (by kernel_rfl) h
theorem QTb (c:((List Int) × Int × Int)) (h :
 ((Zr c (3:Int))∧((Zr ((Ql c (3:Int)).2) (6:Int))∧(QiW K (w64 ((1:Int)+((Ql c (3:Int)).1))) (w64 ((1:Int)+((Ql ((Ql c (3:Int)).2) (6:Int)).1))) (((Ql ((Ql c (3:Int)).2) (6:Int)).2).1) (((Ql ((Ql c (3:Int)).2) (6:Int)).2).2.1) (((Ql ((Ql c (3:Int)).2) (6:Int)).2).2.2) ([]:List TOp'))))):Hold (tawp Qk2 (1+0) QE2 (TQ 1 0 QsT K) (Qd [(.bx [(.c (.sl [(.int .u8)]) c.1),(.c TI c.2.1),(.c TI c.2.2)])])) :=
 Hold.of (by kernel_rfl) h
theorem Qtt (c:((List Int) × Int × Int)) (hp:QF c):∃ t:(List TOp') × (((List Int) × Int × Int)),(QcG c t)∧TCon Tryz.prog 198 [(.bx [(.c (.sl [(.int .u8)]) c.1),(.c TI c.2.1),(.c TI c.2.2)])] (Qba t):=by
 refine YV (tcx (n:=30) (sg:=QgT.sg) Qg (TOk.cons J2 (TOk.cons QBx TOk.nil)) (by kernel_rfl) (by kernel_rfl) (QTb (fun r'=>∃ t,(QcG c t)∧r'=Qba t) c ?_))
 have b1:=Yh c 3 hp
 generalize Ql c 3=r1 at b1 ⊢
 have b2:=Yh r1.2 6 b1.2.2.2
 generalize Ql r1.2 6=r2 at b2 ⊢
 have h1:=b1.1
 have h2:=b1.2.1 (by omega)
 have h3:=b2.1
 have h4:=b2.2.1 (by omega)
 rw [Qq (x:=1+r1.1) (by omega) (by omega),Qq (x:=1+r2.1) (by omega) (by omega)]
 refine ⟨hp,b1.2.2.2,?_⟩
 have key:∀ (k:Nat) (inn c1 c2:Int) (c0:List Int) (m0:Q9),QF (c0,c1,c2)→1≤inn→inn≤3→m0.length+k≤6→1≤m0.length+k→Yv none m0=true→QjS none m0 inn=true→QiW (fun r'=>∃ t,(QcG c t)∧r'=Qba t) inn (k:Int) c0 c1 c2 m0:=by
  intro k
  induction k with
  | zero =>
   intro inn c1 c2 c0 m0 hc k1 k2 k3 k4 k5 k6
   refine Qvk (fun r'=>∃ t,(QcG c t)∧r'=Qba t) _ _ _ _ _ _ ⟨fun h=>by simp at h,fun _=>(Ze ⟨?_,?_,hc⟩)⟩
   ·simp only [List.take_length,QN,Bool.and_eq_true,QR]
    exact ⟨by omega,k5⟩
   ·simp only [List.take_length];omega
  | succ k ih =>
   intro inn c1 c2 c0 m0 hc k1 k2 k3 k4 k5 k6
   have ho:p_op (c0,c1,c2) inn:=⟨hc,k1,k2⟩
   have b:=QAp _ _ ho
   refine Qvk (fun r'=>∃ t,(QcG c t)∧r'=Qba t) _ _ _ _ _ _ ⟨fun _=>⟨ho,⟨.inl rfl,by rw [Zu];omega⟩,?_⟩,fun h=>by simp at h <;> omega⟩
   rw [Zf,Qq (x:=((k+1:Nat):Int)-1) (by omega) (by omega),show ((k+1:Nat):Int)-1=k by omega]
   refine ih _ _ _ _ _ b.2.2.2.2.2 b.2.2.1 b.2.2.2.1 (by simp;omega) (by simp;omega) (QrJ _ _ _ k5 ?_ ?_) ?_
   ·simp only [List.drop_zero,List.take_length];exact b.1
   ·rw [show (((e_op (c0,c1,c2) inn).1.1,(e_op (c0,c1,c2) inn).1.2.1,(e_op (c0,c1,c2) inn).1.2.2.1,List.take (e_op (c0,c1,c2) inn).1.2.2.2.length (List.drop 0 (e_op (c0,c1,c2) inn).1.2.2.2)):TOp').2.1=inn from b.2.1]
    exact k6
   ·exact QBL _ _ _
 have h:=key (1+r2.1).toNat (1+r1.1) r2.2.2.1 r2.2.2.2 r2.2.1 [] b2.2.2.2 (by omega) (by omega) (by simp;omega) (by simp;omega) rfl rfl
 rw [Int.toNat_of_nonneg (by omega)] at h
 exact h
theorem Qwb (c:((List Int) × Int × Int)) (hp:QF c):QcG c (ZB c):=(Classical.epsilon_spec (Qtt c hp)).1
theorem QXk (c:((List Int) × Int × Int)) (hp:QF c):TCon Tryz.prog 198 [(.bx [(.c (.sl [(.int .u8)]) c.1),(.c TI c.2.1),(.c TI c.2.2)])] (Qba (ZB c)):=(Classical.epsilon_spec (Qtt c hp)).2
theorem QBS:Qe Tryz.prog QgT:=Qh fun x h=>QXk x.1 h
def J0 (t:(List TOp') × (((List Int) × Int × Int))):TRes:=⟨(.a [(zcs ctOp t.1)]),[],[[(zcs [(.int .u8)] t.2.1),(zci t.2.2.1),(zci t.2.2.2)]],true,[]⟩
def Qgw (x0:((List Int) × Int × Int)):(List TOp') × (((List Int) × Int × Int)):=Classical.epsilon fun t:(List TOp') × (((List Int) × Int × Int))=>(Qel x0 t)∧TCon Tryz.prog 144 [(.bx [(.c (.sl [(.int .u8)]) x0.1),(.c TI x0.2.1),(.c TI x0.2.2)])] (J0 t)
def Qnq:TRow:=Qf 144 [(.b [(.sl [(.int .u8)]),TI,TI])] fun x=>(some (QF x.1),J0 (Qgw x.1))
def Qmf:List TRow:=[QgT,JB,QpR]
def Quj:TCode :=
 (zsq [(zsq [(.draw [zfa 31 3 0,zld 32 31 1,zle 33 32,zmv 34 0,zca 35 108 [34,(zki 2)],zbi 36 .add (zki 8) 35,zbi 37 .lss 33 36] [(0,4),(1,4),(2,4)]),(.cond 37 .skip (.exit 1))]),(.block 2 (.draw [zfa 38 3 0,zld 39 38 1,zfa 40 3 0,zld 41 40 1,zfa 42 3 0,zld 43 42 1,zle 44 43,zbi 45 .sub 44 (zki 1),zia 46 41 45 ctOp,zfa 47 46 2,zld 48 47 1,zfa 49 3 0,zld 50 49 1,zfa 51 3 0,zld 52 51 1,zle 53 52,zbi 54 .sub 53 (zki 1),zia 55 50 54 ctOp,zfa 56 55 2,zld 57 56 1,zop 58 (.build (z0s ctOp) [(0,1,(zki 3)),(1,1,48),(2,1,57)]),zop 59 (.bsl 69 ctOp [58]),zop 60 (.app 39 59 69 ctOp),zfa 61 3 0,zst 61 60 1] [(0,21),(1,21)]))])
def Qx7:List (Nat × Md):=[(0,.b [.d,.d,.d]),(2,.b [.d]),(3,.b [.f])]
def Qv5:TCode :=
 (zsq [(.reg [zLd 62 3 1,zst 2 62 1]),.ret])
def QOV:TCode :=
 (zsq [(.reg [zop 2 (.new 26 [(.n ctOp)])]),(.reg [zmv 5 0,zca 6 198 [5],zop 3 (.new 26 [(.n ctOp)]),zst 3 6 1]),(.reg [zmv 7 0,zfa 8 3 0,zld 9 8 1,zle 10 9,zca 11 108 [7,10],zmv 4 11]),(zsq [(.reg [zmv 12 0,zca 13 108 [12,(zki 16)]]),(.block 0 (zsq [(.reg [zbi 15 .eql 13 (zki 0),zmv 14 15]),(.cond 14 (.draw [zfa 16 3 0,zld 17 16 1,zmv 18 4,zmv 19 0,zca 20 201 [19],zia 21 17 18 ctOp,zst 21 20 4] [(0,4),(1,4)]) (zsq [(.reg [zbi 23 .eql 13 (zki 1),zmv 22 23]),(.cond 22 (.reg [zfa 24 3 0,zld 25 24 1,zmv 26 4,zop 27 (.slc 25 none (some 26) ctOp),zfa 28 3 0,zst 28 27 1]) (zsq [(.reg [zbi 30 .eql 13 (zki 2),zmv 29 30]),(.cond 29 (.block 1 (.loop Qx7 Quj)) .skip)]))]))]))]),Qv5])
def Qt2:List (ARv × Md):=[(.l 2 1 true,.b [.d])]
def QrB:Qb:=TQ 1 0 Qt2 K
def QKd:Qb:=Qseq (tawp Qmf 1 Qv5 (QrB K)) (QrB K)
def QSA:Qb:=Qblk 0 (QKd K)
def QNK:Qb:=Qblk 1 (QSA K)
def Qhe (c0:List Int) (c1:Int) (c2:Int) (m0:List TOp'):Prop:=Loop Qmf 1 Qx7 Quj (QNK K) ⟨[(0,(.p 0 0 0)),(2,(.p 1 0 0)),(3,(.p 3 0 0))],[(0,(.box [(zcs [(.int .u8)] c0),(zci c1),(zci c2)])),(1,(.box [(zcs ctOp ([]))])),(2,(.sl 69 ctOp true m0)),(3,(.box [(.r ctOp 2 0 m0.length)]))],4⟩
theorem QB1 (c0:List Int) (c1:Int) (c2:Int) (m0:List TOp') (h :
 ((Zr (c0,c1,c2) (2:Int))∧(zif (decide (((m0.length:Nat):Int)<(w64 ((8:Int)+((Ql (c0,c1,c2) (2:Int)).1))))) ((((0:Int)≤w64 (((m0.length:Nat):Int)-(1:Int))∧Int.toNat (w64 (((m0.length:Nat):Int)-(1:Int)))<m0.length)∧(((0+(Int.toNat (w64 (((m0.length:Nat):Int)-(1:Int)))))<m0.length)∧(((0:Int)≤w64 (((m0.length:Nat):Int)-(1:Int))∧Int.toNat (w64 (((m0.length:Nat):Int)-(1:Int)))<m0.length)∧(((0+(Int.toNat (w64 (((m0.length:Nat):Int)-(1:Int)))))<m0.length)∧((m0.length=m0.length∨m0.length+1≤m0.length)∧m0.length+1≤big)))))∧(Qhe K (((Ql (c0,c1,c2) (2:Int)).2).1) (((Ql (c0,c1,c2) (2:Int)).2).2.1) (((Ql (c0,c1,c2) (2:Int)).2).2.2) (List.take (m0.length+1) ((List.take m0.length m0)++([((3:Int),(gtd dOp m0 (0+(Int.toNat (w64 (((m0.length:Nat):Int)-(1:Int)))))).2.2.1,(gtd dOp m0 (0+(Int.toNat (w64 (((m0.length:Nat):Int)-(1:Int)))))).2.2.1,[])]))))) (K (J0 ((List.take m0.length (List.drop 0 m0)),((Ql (c0,c1,c2) (2:Int)).2))))))):Qhe K c0 c1 c2 m0 :=
 Loop.of (by kernel_rfl) h
theorem QHV (c:((List Int) × Int × Int)) (h :
 let z1:=Ql ((ZB c).2) ((((ZB c).1).length:Nat):Int)
 let z2:=Ql (z1.2) (16:Int)
 ((QF c)∧((Zr ((ZB c).2) ((((ZB c).1).length:Nat):Int))∧((Zr (z1.2) (16:Int))∧(zif ((z2.1)==(0:Int)) (((QF (z2.2))∧(((0:Int)≤z1.1∧Int.toNat (z1.1)<((ZB c).1).length)∧((0+(Int.toNat (z1.1)))<((ZB c).1).length)))∧K (J0 ((List.take (((ZB c).1).length) (List.drop 0 (((ZB c).1).set (0+(Int.toNat (z1.1))) ((Qe8 (z2.2)).1)))),((Qe8 (z2.2)).2)))) (zif ((z2.1)==(1:Int)) (((0:Int)≤(0:Int)∧(0:Int)≤z1.1∧z1.1≤((((ZB c).1).length:Nat):Int))∧K (J0 ((List.take (Int.toNat (z1.1)-Int.toNat (0:Int)) (List.drop 0 ((ZB c).1))),(z2.2)))) (zif ((z2.1)==(2:Int)) (Qhe K ((z2.2).1) ((z2.2).2.1) ((z2.2).2.2) (List.take (((ZB c).1).length) ((ZB c).1))) (K (J0 ((List.take (((ZB c).1).length) (List.drop 0 ((ZB c).1))),(z2.2))))))))))):Hold (tawp Qmf (1+0) QOV (TQ 1 0 Qt2 K) (Qd [(.bx [(.c (.sl [(.int .u8)]) c.1),(.c TI c.2.1),(.c TI c.2.2)])])) :=
 Hold.of (by kernel_rfl) h
theorem QJN (c:((List Int) × Int × Int)) (hp:QF c):∃ t:(List TOp') × (((List Int) × Int × Int)),(Qel c t)∧TCon Tryz.prog 144 [(.bx [(.c (.sl [(.int .u8)]) c.1),(.c TI c.2.1),(.c TI c.2.2)])] (J0 t):=by
 refine YV (tcx (n:=63) (sg:=Qnq.sg) Qg (TOk.cons QBS (TOk.cons J2 (TOk.cons QUp TOk.nil))) (by kernel_rfl) (by kernel_rfl) (QHV (fun r'=>∃ t,(Qel c t)∧r'=J0 t) c ?_))
 conv=>zeta
 have b1:=Qwb c hp
 generalize ZB c=r1 at b1 ⊢
 obtain ⟨k1,k2,k3⟩:=b1
 have k4:1≤r1.1.length:=by
  simp only [QN,Bool.and_eq_true,QR] at k1
  omega
 have b2:=Yh r1.2 r1.1.length k3
 generalize Ql r1.2 r1.1.length=r2 at b2 ⊢
 have h1:=b2.1
 have h2:=b2.2.1 (by omega)
 have b3:=(Yh r2.2 16 b2.2.2.2).2.2.2
 generalize Ql r2.2 16=r3 at b3 ⊢
 refine ⟨hp,k3,b2.2.2.2,fun _=>⟨⟨b3,⟨h1,by omega⟩,by omega⟩,Ze ⟨?_,(QXn _ b3).2⟩⟩,fun _=>⟨fun _=>⟨⟨by omega,by omega,by omega⟩,Ze ⟨?_,b3⟩⟩,fun _=>⟨fun _=>?_,fun _=>(Ze ⟨?_,b3⟩)⟩⟩⟩
 ·simp;omega
 ·simp;omega
 ·rw [List.take_length]
  have key:∀ (k:Nat) (c1 c2:Int) (c0:List Int) (m0:Q9),QF (c0,c1,c2)→1≤m0.length→m0.length+k=9→Qhe (fun r'=>∃ t,(Qel c t)∧r'=J0 t) c0 c1 c2 m0:=by
   intro k
   induction k with
   | zero =>
    intro c1 c2 c0 m0 hc q1 q2
    have b:=Yh (c0,c1,c2) 2 hc
    have q3:=b.1
    have q4:=b.2.1 (by omega)
    refine QB1 (fun r'=>∃ t,(Qel c t)∧r'=J0 t) _ _ _ _ ⟨hc,fun h=>?_,fun _=>(Ze ⟨?_,b.2.2.2⟩)⟩
    ·rw [Qq (x:=8+_) (by omega) (by omega)] at h
     simp at h;omega
    ·simp;omega
   | succ k ih =>
    intro c1 c2 c0 m0 hc q1 q2
    have b:=Yh (c0,c1,c2) 2 hc
    refine QB1 (fun r'=>∃ t,(Qel c t)∧r'=J0 t) _ _ _ _ ⟨hc,fun _=>?_,fun _=>(Ze ⟨?_,b.2.2.2⟩)⟩
    ·rw [Qq (x:=(m0.length:Int)-1) (by omega) (by omega)]
     refine ⟨⟨⟨by omega,by omega⟩,by omega,⟨by omega,by omega⟩,by omega,.inl rfl,by rw [Zu];omega⟩,?_⟩
     rw [Zf]
     exact ih _ _ _ _ b.2.2.2 (by simp) (by simp;omega)
    ·simp;omega
  exact key (9-r1.1.length) _ _ _ _ b3 k4 (by omega)
 ·simp;omega
theorem QSZ (c:((List Int) × Int × Int)) (hp:QF c):TCon Tryz.prog 144 [(.bx [(.c (.sl [(.int .u8)]) c.1),(.c TI c.2.1),(.c TI c.2.2)])] (J0 (Qgw c)):=(Classical.epsilon_spec (QJN c hp)).2
theorem QMR:Qe Tryz.prog Qnq:=Qh fun x h=>QSZ x.1 h
end
end Go.Proofs.YtjbdljkhbglnhaaGreat.Am

