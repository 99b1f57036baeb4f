/- -/
import Derived.Test.YtjbdljkhbglnhaaGreatZDD1
import Derived.Test.YtjbdljkhbglnhaaGreatZDP4
namespace Go.Proofs.YtjbdljkhbglnhaaGreat.Am
open Go Go.RowKit Go.Proofs.YtjbdljkhbglnhaaGreat
set_option linter.all false
set_option maxHeartbeats 2000000
noncomputable section
variable (K:TRes→Prop)
def Qa3 (t:Int × (((List Int) × Int × Int))):TRes:=⟨(zci t.1),[],[[(zcs [(.int .u8)] t.2.1),(zci t.2.2.1),(zci t.2.2.2)]],true,[]⟩
def Qa1 (x0:((List Int) × Int × Int)):Int × (((List Int) × Int × Int)):=Classical.epsilon fun t:Int × (((List Int) × Int × Int))=>(QhW x0 t)∧TCon Tryz.prog 181 [(.bx [(.c (.sl [(.int .u8)]) x0.1),(.c TI x0.2.1),(.c TI x0.2.2)])] (Qa3 t)
def QiG:TRow:=Qj 181 [(.b [(.sl [(.int .u8)]),TI,TI])] fun x=>(some (QN x.1),Qa3 (Qa1 x.1))
def QXQ:List TRow:=[JH,Qb8]
def QGI:TCode :=
 (zsq [(.reg [zmv 2 (zki 0)]),(zsq [(.reg [zmv 3 0,zca 4 108 [3,(zki 12)]]),(.block 0 (zsq [(.reg [zbi 6 .eql 4 (zki 0),zmv 5 6]),(.cond 5 (zsq [(.reg [zmv 7 0,zop 8 (.bsl 3 [TI] [(zki 2147483647),(zki (-2147483647)),(zki 2147483646),(zki 1),(zki (-1)),(zki 0)]),zca 9 145 [7,8],zmv 2 9]),.ret]) (zsq [(.reg [zbi 11 .eql 4 (zki 1),zmv 10 11]),(.cond 10 (zsq [(.reg [zmv 12 0,zca 13 108 [12,(zki 4000)],zbi 14 .sub 13 (zki 2000),zbi 15 .mul 14 (zki 997),zmv 2 15]),.ret]) (zsq [(.reg [zbi 17 .eql 4 (zki 2),zmv 16 17]),(.cond 16 (zsq [(.reg [zmv 18 0,zca 19 108 [18,(zki 9)],zbi 20 .sub 19 (zki 4),zmv 2 20]),.ret]) .skip)]))]))]))]),(.reg [zmv 21 0,zca 22 108 [21,(zki 17)],zbi 23 .sub 22 (zki 8),zbi 24 .mul 23 (zki 65536),zmv 25 0,zop 26 (.bsl 3 [TI] [(zki 1),(zki 1),(zki 2),(zki 4),(zki 3)]),zca 27 145 [25,26],zbi 28 .quo 24 27,zmv 2 28]),.ret])
def QMA:List (ARv × Md):=[(.t 2,.one .d)]
theorem QNG (c:((List Int) × Int × Int)) (h :
 ((Zo c (12:Int))∧(zif (((Qp c (12:Int)).1)==(0:Int)) ((Y8 ((Qp c (12:Int)).2) ([(2147483647:Int),(-2147483647:Int),(2147483646:Int),(1:Int),(-1:Int),(0:Int)]))∧K (Qa3 ((ZM ((Qp c (12:Int)).2) ([(2147483647:Int),(-2147483647:Int),(2147483646:Int),(1:Int),(-1:Int),(0:Int)])).1,((ZM ((Qp c (12:Int)).2) ([(2147483647:Int),(-2147483647:Int),(2147483646:Int),(1:Int),(-1:Int),(0:Int)])).2)))) (zif (((Qp c (12:Int)).1)==(1:Int)) ((Zo ((Qp c (12:Int)).2) (4000:Int))∧K (Qa3 (w64 ((w64 (((Qp ((Qp c (12:Int)).2) (4000:Int)).1)-(2000:Int)))*(997:Int)),((Qp ((Qp c (12:Int)).2) (4000:Int)).2)))) (zif (((Qp c (12:Int)).1)==(2:Int)) ((Zo ((Qp c (12:Int)).2) (9:Int))∧K (Qa3 (w64 (((Qp ((Qp c (12:Int)).2) (9:Int)).1)-(4:Int)),((Qp ((Qp c (12:Int)).2) (9:Int)).2)))) (((Zo ((Qp c (12:Int)).2) (17:Int))∧((Y8 ((Qp ((Qp c (12:Int)).2) (17:Int)).2) ([(1:Int),(1:Int),(2:Int),(4:Int),(3:Int)]))∧(¬ ((ZM ((Qp ((Qp c (12:Int)).2) (17:Int)).2) ([(1:Int),(1:Int),(2:Int),(4:Int),(3:Int)])).1:Int)=0)))∧K (Qa3 (w64 (Int.tdiv (w64 ((w64 (((Qp ((Qp c (12:Int)).2) (17:Int)).1)-(8:Int)))*(65536:Int))) ((ZM ((Qp ((Qp c (12:Int)).2) (17:Int)).2) ([(1:Int),(1:Int),(2:Int),(4:Int),(3:Int)])).1)),((ZM ((Qp ((Qp c (12:Int)).2) (17:Int)).2) ([(1:Int),(1:Int),(2:Int),(4:Int),(3:Int)])).2))))))))):Hold (tawp QXQ (1+0) QGI (TQ 1 0 QMA K) (Qh [(.bx [(.c (.sl [(.int .u8)]) c.1),(.c TI c.2.1),(.c TI c.2.2)])])) :=
 Hold.of (by kernel_rfl) h
theorem QDZ (c:((List Int) × Int × Int)) (hp:QN c):∃ t:Int × (((List Int) × Int × Int)),(QhW c t)∧TCon Tryz.prog 181 [(.bx [(.c (.sl [(.int .u8)]) c.1),(.c TI c.2.1),(.c TI c.2.2)])] (Qa3 t):=by
 refine YT (tcx (n:=29) (sg:=QiG.sg) Ql (TOk.cons Qaa (TOk.cons QeO TOk.nil)) (by kernel_rfl) (by kernel_rfl) (QNG (fun r'=>∃ t,(QhW c t)∧r'=Qa3 t) c ?_))
 have b1:=Yj c 12 hp
 generalize Qp c 12=r at b1 ⊢
 have hc:QN r.2:=b1.2.2.2
 refine ⟨hp,fun _=>?_,fun _=>⟨fun _=>?_,fun _=>⟨fun _=>?_,fun _=>?_⟩⟩⟩
 ·have hpp:Y8 r.2 [2147483647,-2147483647,2147483646,1,-1,0]:=⟨hc,by simp,by simp⟩
  have b2:=Qek _ _ hpp
  refine ⟨hpp,Ze ⟨?_,b2.2⟩⟩
  have b3:=b2.1
  simp only [List.mem_cons,List.not_mem_nil,or_false] at b3
  simp only [Zb,Bool.and_eq_true,decide_eq_true_eq]
  omega
 ·have b2:=Yj r.2 4000 hc
  refine ⟨hc,Ze ⟨?_,b2.2.2.2⟩⟩
  have h1:=b2.1
  have h2:=b2.2.1 (by omega)
  rw [Qt (x:=_-2000) (by omega) (by omega),Qt (by omega) (by omega)]
  simp only [Zb,Bool.and_eq_true,decide_eq_true_eq]
  omega
 ·have b2:=Yj r.2 9 hc
  refine ⟨hc,Ze ⟨?_,b2.2.2.2⟩⟩
  have h1:=b2.1
  have h2:=b2.2.1 (by omega)
  rw [Qt (by omega) (by omega)]
  simp only [Zb,Bool.and_eq_true,decide_eq_true_eq]
  omega
 ·have b2:=Yj r.2 17 hc
  have hpp:Y8 (Qp r.2 17).2 [1,1,2,4,3]:=⟨b2.2.2.2,by simp,by simp⟩
  have b3:=Qek _ _ hpp
  have b4:=b3.1
  simp only [List.mem_cons,List.not_mem_nil,or_false] at b4
  have h1:=b2.1
  have h2:=b2.2.1 (by omega)
  refine ⟨⟨hc,hpp,by omega⟩,Ze ⟨?_,b3.2⟩⟩
  have h3:=QXw (a:=((Qp r.2 17).1-8)*65536) (b:=(ZM (Qp r.2 17).2 [1,1,2,4,3]).1) (B:=1000000) (by omega) (by omega) (by omega)
  rw [Qt (x:=_-8) (by omega) (by omega),Qt (x:=_*65536) (by omega) (by omega),Qt (by omega) (by omega)]
  simp only [Zb,Bool.and_eq_true,decide_eq_true_eq]
  omega
theorem Qq0 (c:((List Int) × Int × Int)) (hp:QN c):QhW c (Qa1 c):=(Classical.epsilon_spec (QDZ c hp)).1
theorem QXK (c:((List Int) × Int × Int)) (hp:QN c):TCon Tryz.prog 181 [(.bx [(.c (.sl [(.int .u8)]) c.1),(.c TI c.2.1),(.c TI c.2.2)])] (Qa3 (Qa1 c)):=(Classical.epsilon_spec (QDZ c hp)).2
theorem QCd:Qi Tryz.prog QiG:=Qm fun x h=>QXK x.1 h
def Qcp (t:Int × (((List Int) × Int × Int))):TRes:=⟨(zci t.1),[],[[(zcs [(.int .u8)] t.2.1),(zci t.2.2.1),(zci t.2.2.2)]],true,[]⟩
def Qcu (x0:((List Int) × Int × Int)):Int × (((List Int) × Int × Int)):=Classical.epsilon fun t:Int × (((List Int) × Int × Int))=>(Qko x0 t)∧TCon Tryz.prog 182 [(.bx [(.c (.sl [(.int .u8)]) x0.1),(.c TI x0.2.1),(.c TI x0.2.2)])] (Qcp t)
def QhA:TRow:=Qj 182 [(.b [(.sl [(.int .u8)]),TI,TI])] fun x=>(some (QN x.1),Qcp (Qcu x.1))
def QPG:List TRow:=[Qf3,Qb8,QiG]
def QQf:TCode :=
 (zsq [(.reg [zmv 2 (zki 0)]),(zsq [(.reg [zmv 3 0,zca 4 106 [3,(zki 8)]]),(.cond 4 (zsq [(.reg [zmv 5 0,zop 6 (.bsl 3 [TI] [(zki 2147483648),(zki (-2147483648)),(zki 9223372036854775807),(zki (-9223372036854775807))]),zca 7 145 [5,6],zmv 2 7]),.ret]) .skip)]),(.reg [zmv 8 0,zca 9 181 [8],zmv 2 9]),.ret])
def QKf:List (ARv × Md):=[(.t 2,.one .d)]
theorem QWO (c:((List Int) × Int × Int)) (h :
 ((Zo c (8:Int))∧(zif ((ZU c (8:Int)).1) ((Y8 ((ZU c (8:Int)).2) ([(2147483648:Int),(-2147483648:Int),(9223372036854775807:Int),(-9223372036854775807:Int)]))∧K (Qcp ((ZM ((ZU c (8:Int)).2) ([(2147483648:Int),(-2147483648:Int),(9223372036854775807:Int),(-9223372036854775807:Int)])).1,((ZM ((ZU c (8:Int)).2) ([(2147483648:Int),(-2147483648:Int),(9223372036854775807:Int),(-9223372036854775807:Int)])).2)))) ((QN ((ZU c (8:Int)).2))∧K (Qcp ((Qa1 ((ZU c (8:Int)).2)).1,((Qa1 ((ZU c (8:Int)).2)).2))))))):Hold (tawp QPG (1+0) QQf (TQ 1 0 QKf K) (Qh [(.bx [(.c (.sl [(.int .u8)]) c.1),(.c TI c.2.1),(.c TI c.2.2)])])) :=
 Hold.of (by kernel_rfl) h
theorem Qsx (c:((List Int) × Int × Int)) (hp:QN c):∃ t:Int × (((List Int) × Int × Int)),(Qko c t)∧TCon Tryz.prog 182 [(.bx [(.c (.sl [(.int .u8)]) c.1),(.c TI c.2.1),(.c TI c.2.2)])] (Qcp t):=by
 refine YT (tcx (n:=10) (sg:=QhA.sg) Ql (TOk.cons Qli (TOk.cons QeO (TOk.cons QCd TOk.nil))) (by kernel_rfl) (by kernel_rfl) (QWO (fun r'=>∃ t,(Qko c t)∧r'=Qcp t) c ?_))
 have b1:=QqF c 8 hp
 generalize ZU c 8=r at b1 ⊢
 have hpp:Y8 r.2 [2147483648,-2147483648,9223372036854775807,-9223372036854775807]:=⟨b1,by simp,by simp⟩
 exact ⟨hp,fun _=>⟨hpp,Ze ((Qek _ _ hpp).2)⟩,fun _=>⟨b1,Ze ((Qq0 _ b1).2)⟩⟩
theorem QyI (c:((List Int) × Int × Int)) (hp:QN c):Qko c (Qcu c):=(Classical.epsilon_spec (Qsx c hp)).1
theorem QS5 (c:((List Int) × Int × Int)) (hp:QN c):TCon Tryz.prog 182 [(.bx [(.c (.sl [(.int .u8)]) c.1),(.c TI c.2.1),(.c TI c.2.2)])] (Qcp (Qcu c)):=(Classical.epsilon_spec (Qsx c hp)).2
theorem QBU:Qi Tryz.prog QhA:=Qm fun x h=>QS5 x.1 h
def Qbw (t:(List Int) × (((List Int) × Int × Int))):TRes:=⟨(.r [TI] 0 0 ((t.1).length)),[(.sl 3 [TI] true t.1)],[[(zcs [(.int .u8)] t.2.1),(zci t.2.2.1),(zci t.2.2.2)]],true,[]⟩
def Ys (x0:((List Int) × Int × Int)) (x1:Int):(List Int) × (((List Int) × Int × Int)):=Classical.epsilon fun t:(List Int) × (((List Int) × Int × Int))=>(QcE x0 x1 t)∧TCon Tryz.prog 105 [(.bx [(.c (.sl [(.int .u8)]) x0.1),(.c TI x0.2.1),(.c TI x0.2.2)]),(.c TI x1)] (Qbw t)
def QfR:TRow:=Qj 105 [(.b [(.sl [(.int .u8)]),TI,TI]),(.c TI)] fun x=>(some (JB x.1 x.2.1),Qbw (Ys x.1 x.2.1))
def QmX:List TRow:=[QiG]
def Qty:TCode :=
 (zsq [(zsq [(.reg [zmv 8 6,zmv 9 1,zbi 10 .lss 8 9]),(.cond 10 .skip (.exit 0))]),(.block 1 (.reg [zmv 13 5,zmv 14 0,zca 15 181 [14],zop 16 (.bsl 3 [TI] [15]),zop 17 (.app 13 16 3 [TI]),zmv 5 17])),(.reg [zmv 11 6,zbi 12 .add 11 (zki 1),zmv 6 12])])
def QtM:List (Nat × Md):=[(0,.b [.d,.d,.d]),(1,.one .d),(5,.one .f),(6,.one .d)]
def QEw:TCode :=
 (zsq [(.reg [zmv 18 5,zmv 4 18]),.ret])
def QVt:TCode :=
 (zsq [(.reg [zmv 4 (.k (.n [TI]))]),(.reg [zop 7 (.bsl 3 [TI] []),zmv 5 7]),(zsq [(.reg [zmv 6 (zki 0)]),(.block 0 (.loop QtM Qty))]),QEw])
def QAl:List (ARv × Md):=[(.t 4,.one (.o 3))]
def QED:Qb:=TQ 1 0 QAl K
def QOu:Qb:=Qseq (tawp QmX 1 QEw (QED K)) (QED K)
def QIo:Qb:=Qblk 0 (QOu K)
def Qj3 (n:Int) (i:Int) (c0:List Int) (c1:Int) (c2:Int) (out:List Int):Prop:=Loop QmX 1 QtM Qty (QIo K) ⟨[(0,(.p 0 0 0)),(1,(zci n)),(5,(.r [TI] 1 0 out.length)),(6,(zci i))],[(0,(.box [(zcs [(.int .u8)] c0),(zci c1),(zci c2)])),(1,(.sl 3 [TI] true out))],2⟩
theorem QtS (n:Int) (i:Int) (c0:List Int) (c1:Int) (c2:Int) (out:List Int) (h :
 (zif (decide (i<n)) (((QN (c0,c1,c2))∧((out.length=out.length∨out.length+1≤out.length)∧out.length+1≤big))∧(Qj3 K n (w64 (i+(1:Int))) (((Qa1 (c0,c1,c2)).2).1) (((Qa1 (c0,c1,c2)).2).2.1) (((Qa1 (c0,c1,c2)).2).2.2) (List.take (out.length+1) ((List.take out.length out)++([(Qa1 (c0,c1,c2)).1]))))) (K (Qbw ((List.take out.length out),(c0,c1,c2)))))):Qj3 K n i c0 c1 c2 out :=
 Loop.of (by kernel_rfl) h
theorem QKL (c:((List Int) × Int × Int)) (n:Int) (h :
 (Qj3 K n 0 c.1 c.2.1 c.2.2 ([]:List Int))):Hold (tawp QmX (1+0) QVt (TQ 1 0 QAl K) (Qh [(.bx [(.c (.sl [(.int .u8)]) c.1),(.c TI c.2.1),(.c TI c.2.2)]),(.c TI n)])) :=
 Hold.of (by kernel_rfl) h
theorem QBi (c:((List Int) × Int × Int)) (n:Int) (hp:JB c n):∃ t:(List Int) × (((List Int) × Int × Int)),(QcE c n t)∧TCon Tryz.prog 105 [(.bx [(.c (.sl [(.int .u8)]) c.1),(.c TI c.2.1),(.c TI c.2.2)]),(.c TI n)] (Qbw t):=by
 refine YT (tcx (n:=19) (sg:=QfR.sg) Ql (TOk.cons QCd TOk.nil) (by kernel_rfl) (by kernel_rfl) (QKL (fun r'=>∃ t,(QcE c n t)∧r'=Qbw t) c n ?_))
 obtain ⟨h1,h2⟩:=hp
 refine Jb n.toNat (fun k=>∀ (c0:List Int) (c1 c2:Int) (out:List Int),out.length=k→ZD out=true→QN (c0,c1,c2)→Qj3 (fun r'=>∃ t,(QcE c n t)∧r'=Qbw t) n (k:Int) c0 c1 c2 out) ?_ ?_ c.1 c.2.1 c.2.2 [] rfl rfl h1
 ·intro c0 c1 c2 out hl hf hc
  refine QtS (fun r'=>∃ t,(QcE c n t)∧r'=Qbw t) n _ _ _ _ _ ⟨fun h=>by simp at h;omega,fun _=>(Ze ⟨?_,?_,hc⟩)⟩
  ·simp;omega
  ·simp only [List.take_length];exact hf
 ·intro k hk ih c0 c1 c2 out hl hf hc
  have b:=Qq0 (c0,c1,c2) hc
  refine QtS (fun r'=>∃ t,(QcE c n t)∧r'=Qbw t) n _ _ _ _ _ ⟨fun _=>⟨⟨hc,.inl rfl,by rw [Q9];omega⟩,?_⟩,fun h=>by simp at h;omega⟩
  rw [sc1 (by omega),Za]
  exact ih _ _ _ _ (by simp;omega) (QYG hf b.1) b.2
theorem Qga (c:((List Int) × Int × Int)) (n:Int) (hp:JB c n):QcE c n (Ys c n):=(Classical.epsilon_spec (QBi c n hp)).1
theorem QVa (c:((List Int) × Int × Int)) (n:Int) (hp:JB c n):TCon Tryz.prog 105 [(.bx [(.c (.sl [(.int .u8)]) c.1),(.c TI c.2.1),(.c TI c.2.2)]),(.c TI n)] (Qbw (Ys c n)):=(Classical.epsilon_spec (QBi c n hp)).2
theorem Qny:Qi Tryz.prog QfR:=Qm fun x h=>QVa x.1 x.2.1 h
def Qcb (t:(List Int) × (((List Int) × Int × Int))):TRes:=⟨(zcs [TI] t.1),[],[[(zcs [(.int .u8)] t.2.1),(zci t.2.2.1),(zci t.2.2.2)]],true,[]⟩
def Qfg (x0:((List Int) × Int × Int)):(List Int) × (((List Int) × Int × Int)):=Classical.epsilon fun t:(List Int) × (((List Int) × Int × Int))=>(Qjc x0 t)∧TCon Tryz.prog 107 [(.bx [(.c (.sl [(.int .u8)]) x0.1),(.c TI x0.2.1),(.c TI x0.2.2)])] (Qcb t)
def Qoc:TRow:=Qj 107 [(.b [(.sl [(.int .u8)]),TI,TI])] fun x=>(some (QN x.1),Qcb (Qfg x.1))
def QI6:List TRow:=[JH,QfR,QhA,Qb8]
def QUF:TCode :=
 (zsq [(.reg [zmv 2 (.k (.n [TI]))]),(.reg [zmv 4 0,zmv 5 0,zca 6 108 [5,(zki 4)],zbi 7 .add (zki 1) 6,zca 8 105 [4,7],zmv 3 8]),(zsq [(.reg [zmv 9 0,zca 10 108 [9,(zki 16)]]),(.block 0 (zsq [(.reg [zbi 12 .eql 10 (zki 0),zmv 11 12]),(.cond 11 (.reg [zmv 13 3,zmv 14 0,zca 15 182 [14],zia 16 13 (zki 0) [TI],zst 16 15 1]) (zsq [(.reg [zbi 18 .eql 10 (zki 1),zmv 17 18]),(.cond 17 (zsq [(.reg [zmv 19 0,zmv 20 0,zop 21 (.bsl 3 [TI] [(zki 0),(zki 6),(zki 7)]),zca 22 145 [20,21],zca 23 105 [19,22],zmv 2 23]),.ret]) .skip)]))]))]),(.reg [zmv 24 3,zmv 2 24]),.ret])
def QXt:List (ARv × Md):=[(.t 2,.one .d)]
theorem QKa (c:((List Int) × Int × Int)) (h :
 let z3:=Qp c (4:Int)
 let z1:=Ys (z3.2) (w64 ((1:Int)+(z3.1)))
 let z2:=Qp (z1.2) (16:Int)
 (((Zo c (4:Int))∧(JB (z3.2) (w64 ((1:Int)+(z3.1)))))∧((Zo (z1.2) (16:Int))∧(zif ((z2.1)==(0:Int)) (((QN (z2.2))∧(((0:Int)≤(0:Int)∧Int.toNat (0:Int)<(z1.1).length)∧((0+(Int.toNat (0:Int)))<(z1.1).length)))∧K (Qcb ((List.take ((z1.1).length) (List.drop 0 ((z1.1).set (0+(Int.toNat (0:Int))) ((Qcu (z2.2)).1)))),((Qcu (z2.2)).2)))) (zif ((z2.1)==(1:Int)) (((Y8 (z2.2) ([(0:Int),(6:Int),(7:Int)]))∧(JB ((ZM (z2.2) ([(0:Int),(6:Int),(7:Int)])).2) ((ZM (z2.2) ([(0:Int),(6:Int),(7:Int)])).1)))∧K (Qcb ((List.take (((Ys ((ZM (z2.2) ([(0:Int),(6:Int),(7:Int)])).2) ((ZM (z2.2) ([(0:Int),(6:Int),(7:Int)])).1)).1).length) (List.drop 0 ((Ys ((ZM (z2.2) ([(0:Int),(6:Int),(7:Int)])).2) ((ZM (z2.2) ([(0:Int),(6:Int),(7:Int)])).1)).1))),((Ys ((ZM (z2.2) ([(0:Int),(6:Int),(7:Int)])).2) ((ZM (z2.2) ([(0:Int),(6:Int),(7:Int)])).1)).2)))) (K (Qcb ((List.take ((z1.1).length) (List.drop 0 (z1.1))),(z2.2))))))))):Hold (tawp QI6 (1+0) QUF (TQ 1 0 QXt K) (Qh [(.bx [(.c (.sl [(.int .u8)]) c.1),(.c TI c.2.1),(.c TI c.2.2)])])) :=
 Hold.of (by kernel_rfl) h
theorem Qu5 (c:((List Int) × Int × Int)) (hp:QN c):∃ t:(List Int) × (((List Int) × Int × Int)),(Qjc c t)∧TCon Tryz.prog 107 [(.bx [(.c (.sl [(.int .u8)]) c.1),(.c TI c.2.1),(.c TI c.2.2)])] (Qcb t):=by
 refine YT (tcx (n:=25) (sg:=Qoc.sg) Ql (TOk.cons Qaa (TOk.cons Qny (TOk.cons QBU (TOk.cons QeO TOk.nil)))) (by kernel_rfl) (by kernel_rfl) (QKa (fun r'=>∃ t,(Qjc c t)∧r'=Qcb t) c ?_))
 conv=>zeta
 have b1:=Yj c 4 hp
 generalize Qp c 4=r1 at b1 ⊢
 have h1:=b1.1
 have h2:=b1.2.1 (by omega)
 rw [Qt (x:=1+r1.1) (by omega) (by omega)]
 have hv:JB r1.2 (1+r1.1):=⟨b1.2.2.2,by omega⟩
 have b2:=Qga _ _ hv
 generalize Ys r1.2 (1+r1.1)=r2 at b2 ⊢
 have b3:=Yj r2.2 16 b2.2.2
 generalize Qp r2.2 16=r3 at b3 ⊢
 have hc:=b3.2.2.2
 have hl:=b2.1
 have hpk:Y8 r3.2 [0,6,7]:=⟨hc,by simp,by simp⟩
 have b4:=Qek _ _ hpk
 have b5:=b4.1
 simp only [List.mem_cons,List.not_mem_nil,or_false] at b5
 have hv2:JB (ZM r3.2 [0,6,7]).2 (ZM r3.2 [0,6,7]).1:=⟨b4.2,by omega⟩
 have b6:=Qga _ _ hv2
 have hl2:=b6.1
 refine ⟨⟨hp,hv⟩,b2.2.2,fun _=>⟨⟨hc,⟨by omega,?_⟩,?_⟩,Ze ⟨?_,QyI _ hc⟩⟩,fun _=>⟨fun _=>⟨⟨hpk,hv2⟩,Ze ⟨?_,b6.2.2⟩⟩,fun _=>(Ze ⟨?_,hc⟩)⟩⟩ <;> (simp;omega)
theorem QMD (c:((List Int) × Int × Int)) (hp:QN c):Qjc c (Qfg c):=(Classical.epsilon_spec (Qu5 c hp)).1
theorem QR6 (c:((List Int) × Int × Int)) (hp:QN c):TCon Tryz.prog 107 [(.bx [(.c (.sl [(.int .u8)]) c.1),(.c TI c.2.1),(.c TI c.2.2)])] (Qcb (Qfg c)):=(Classical.epsilon_spec (Qu5 c hp)).2
theorem QWl:Qi Tryz.prog Qoc:=Qm fun x h=>QR6 x.1 h
def QbJ (t:TOp' × (((List Int) × Int × Int))):TRes:=⟨(.a [(zci t.1.1),(zci t.1.2.1),(zci t.1.2.2.1),(.r [TI] 0 0 ((t.1.2.2.2).length))]),[(.sl 3 [TI] true t.1.2.2.2)],[[(zcs [(.int .u8)] t.2.1),(zci t.2.2.1),(zci t.2.2.2)]],true,[]⟩
def e_op (x0:((List Int) × Int × Int)) (x1:Int):TOp' × (((List Int) × Int × Int)):=Classical.epsilon fun t:TOp' × (((List Int) × Int × Int))=>(q_op x0 x1 t)∧TCon Tryz.prog 223 [(.bx [(.c (.sl [(.int .u8)]) x0.1),(.c TI x0.2.1),(.c TI x0.2.2)]),(.c TI x1)] (QbJ t)
def Qky:TRow:=Qj 223 [(.b [(.sl [(.int .u8)]),TI,TI]),(.c TI)] fun x=>(some (p_op x.1 x.2.1),QbJ (e_op x.1 x.2.1))
def QsZ:List TRow:=[JH,Qkf,QfR]
def QAK:TCode :=
 (zsq [(.reg [zmv 19 0,zLd 20 5 4,zca 21 202 [20],zca 22 105 [19,21],zfa 23 5 3,zst 23 22 1]),(.reg [zLd 24 5 4,zst 4 24 4]),.ret])
def QUU:List (Nat × Md):=[(0,.b [.d,.d,.d]),(4,.b (zds 4)),(5,.b (zds 4))]
def QNO:TCode:=.wk QUU QAK
def QS1:TCode :=
 (zsq [(.reg [zop 4 (.new 69 (z0s ctOp))]),(.reg [zmv 6 0,zca 7 108 [6,(zki 5)],zbi 8 .add (zki 1) 7,zmv 9 1,zmv 10 1,zop 11 (.build (z0s ctOp) [(0,1,8),(1,1,9),(2,1,10)]),zop 5 (.new 69 (z0s ctOp)),zst 5 11 4]),(zsq [(.reg [zfa 12 5 0,zld 13 12 1,zbi 14 .eql 13 (zki 1)]),(.cond 14 (.reg [zmv 15 0,zca 16 108 [15,(zki 3)],zbi 17 .add (zki 1) 16,zfa 18 5 2,zst 18 17 1]) .skip)]),QNO])
def QAs:List (ARv × Md):=[(.l 4 4 true,.b [.d,.d,.d,.o 3])]
def QNw:Qb:=TQ 1 0 QAs K
def QkD (c:((List Int) × Int × Int)) (inn:Int) (c0:List Int) (c1:Int) (c2:Int) (o2:Int):Prop:=tawp QsZ 1 QAK (QNw K) ⟨[(0,(.p 0 0 0)),(4,(.p 1 0 0)),(5,(.p 2 0 0))],[(0,(.box [(zcs [(.int .u8)] c0),(zci c1),(zci c2)])),(1,(.box (Tup.cells ctOp ((0:Int),(0:Int),(0:Int),[])))),(2,(.box (Tup.cells ctOp (w64 ((1:Int)+((Qp c (5:Int)).1)),inn,o2,[]))))],3⟩
theorem QKP (c:((List Int) × Int × Int)) (inn:Int) (c0:List Int) (c1:Int) (c2:Int) (o2:Int) (h :
 ((JB (c0,c1,c2) (Ya (w64 ((1:Int)+((Qp c (5:Int)).1)),inn,o2,[])))∧K (QbJ ((w64 ((1:Int)+((Qp c (5:Int)).1)),inn,o2,(List.take (((Ys (c0,c1,c2) (Ya (w64 ((1:Int)+((Qp c (5:Int)).1)),inn,o2,[]))).1).length) ((Ys (c0,c1,c2) (Ya (w64 ((1:Int)+((Qp c (5:Int)).1)),inn,o2,[]))).1))),((Ys (c0,c1,c2) (Ya (w64 ((1:Int)+((Qp c (5:Int)).1)),inn,o2,[]))).2))))):Hold (QkD K c inn c0 c1 c2 o2) :=
 Hold.of (by kernel_rfl) h
theorem QQJ (c:((List Int) × Int × Int)) (inn:Int) (h :
 ((Zo c (5:Int))∧(zif ((w64 ((1:Int)+((Qp c (5:Int)).1)))==(1:Int)) ((Zo ((Qp c (5:Int)).2) (3:Int))∧(QkD K c inn (((Qp ((Qp c (5:Int)).2) (3:Int)).2).1) (((Qp ((Qp c (5:Int)).2) (3:Int)).2).2.1) (((Qp ((Qp c (5:Int)).2) (3:Int)).2).2.2) (w64 ((1:Int)+((Qp ((Qp c (5:Int)).2) (3:Int)).1))))) (QkD K c inn (((Qp c (5:Int)).2).1) (((Qp c (5:Int)).2).2.1) (((Qp c (5:Int)).2).2.2) inn)))):Hold (tawp QsZ (1+0) QS1 (TQ 1 0 QAs K) (Qh [(.bx [(.c (.sl [(.int .u8)]) c.1),(.c TI c.2.1),(.c TI c.2.2)]),(.c TI inn)])) :=
 Hold.of (by kernel_rfl) h
theorem Qs7 (c:((List Int) × Int × Int)) (inn:Int) (hp:p_op c inn):∃ t:TOp' × (((List Int) × Int × Int)),(q_op c inn t)∧TCon Tryz.prog 223 [(.bx [(.c (.sl [(.int .u8)]) c.1),(.c TI c.2.1),(.c TI c.2.2)]),(.c TI inn)] (QbJ t):=by
 refine YT (tcx (n:=25) (sg:=Qky.sg) Ql (TOk.cons Qaa (TOk.cons Qri (TOk.cons Qny TOk.nil))) (by kernel_rfl) (by kernel_rfl) (QQJ (fun r'=>∃ t,(q_op c inn t)∧r'=QbJ t) c inn ?_))
 have b1:=Yj c 5 hp.1
 have h1:=b1.1
 have h2:=b1.2.1 (by omega)
 obtain ⟨_,h3,h4⟩:=hp
 have hw:w64 (1+(Qp c 5).1)=1+(Qp c 5).1:=Qt (by omega) (by omega)
 have key:∀ c0 c1 c2 o2,QN (c0,c1,c2)→1≤o2→o2≤3→(1+(Qp c 5).1=1∨inn=o2)→QkD (fun r'=>∃ t,(q_op c inn t)∧r'=QbJ t) c inn c0 c1 c2 o2:=by
  intro c0 c1 c2 o2 hc k1 k2 k3
  refine (QKP (fun r'=>∃ t,(q_op c inn t)∧r'=QbJ t) c inn c0 c1 c2 o2 ?_).h
  rw [hw]
  have h5:1≤1+(Qp c 5).1:=by omega
  have h6:1+(Qp c 5).1≤5:=by omega
  generalize 1+(Qp c 5).1=o1 at h5 h6 k3 ⊢
  have hs:=Qsl o1 [] h3 h4 k1 k2
  have hv:JB (c0,c1,c2) (Ya (o1,inn,o2,[])):=⟨hc,by omega⟩
  have b:=Qga _ _ hv
  have hl:=b.1
  refine ⟨hv,Ze ⟨?_,rfl,k1,k2,?_,b.2.2⟩⟩
  ·simp only [List.take_length]
   exact QKG h5 h6 h3 h4 k1 k2 k3 hl b.2.1
  ·simp;omega
 have b2:=Yj (Qp c 5).2 3 b1.2.2.2
 have h7:=b2.1
 have h8:=b2.2.1 (by omega)
 rw [hw] at *
 refine ⟨‹QN c›,fun h=>⟨b1.2.2.2,?_⟩,fun _=>key _ _ _ _ b1.2.2.2 h3 h4 (.inr rfl)⟩
 rw [Qt (x:=1+(Qp (Qp c 5).2 3).1) (by omega) (by omega)]
 exact key _ _ _ _ b2.2.2.2 (by omega) (by omega) (.inl (by simpa using h))
theorem QxM (c:((List Int) × Int × Int)) (inn:Int) (hp:p_op c inn):q_op c inn (e_op c inn):=(Classical.epsilon_spec (Qs7 c inn hp)).1
theorem QSb (c:((List Int) × Int × Int)) (inn:Int) (hp:p_op c inn):TCon Tryz.prog 223 [(.bx [(.c (.sl [(.int .u8)]) c.1),(.c TI c.2.1),(.c TI c.2.2)]),(.c TI inn)] (QbJ (e_op c inn)):=(Classical.epsilon_spec (Qs7 c inn hp)).2
theorem QzT:Qi Tryz.prog Qky:=Qm fun x h=>QSb x.1 x.2.1 h
def Qar (t:TOp' × (((List Int) × Int × Int))):TRes:=⟨(.a (Tup.cells ctOp t.1)),[],[[(zcs [(.int .u8)] t.2.1),(zci t.2.2.1),(zci t.2.2.2)]],true,[]⟩
def Qge (x0:((List Int) × Int × Int)):TOp' × (((List Int) × Int × Int)):=Classical.epsilon fun t:TOp' × (((List Int) × Int × Int))=>(Qjm x0 t)∧TCon Tryz.prog 201 [(.bx [(.c (.sl [(.int .u8)]) x0.1),(.c TI x0.2.1),(.c TI x0.2.2)])] (Qar t)
def Qok:TRow:=Qj 201 [(.b [(.sl [(.int .u8)]),TI,TI])] fun x=>(some (QN x.1),Qar (Qge x.1))
def QUa:List TRow:=[JH,Qky,Qb8,QhA]
def QWS:TCode :=
 (zsq [(.reg [zop 2 (.new 69 (z0s ctOp))]),(.reg [zmv 4 0,zmv 5 0,zca 6 108 [5,(zki 3)],zbi 7 .add (zki 1) 6,zca 8 223 [4,7],zop 3 (.new 69 (z0s ctOp)),zst 3 8 4]),(zsq [(.reg [zmv 9 0,zca 10 108 [9,(zki 14)]]),(.block 0 (zsq [(.reg [zbi 12 .eql 10 (zki 0),zmv 11 12]),(.cond 11 (.reg [zmv 13 0,zca 14 108 [13,(zki 8)],zbi 15 .sub 14 (zki 1),zfa 16 3 0,zst 16 15 1]) (zsq [(.reg [zbi 18 .eql 10 (zki 1),zmv 17 18]),(.cond 17 (.reg [zmv 19 0,zfa 20 3 1,zld 21 20 1,zbi 22 .add 21 (zki 1),zop 23 (.bsl 3 [TI] [(zki 0),(zki 7),22]),zca 24 145 [19,23],zfa 25 3 1,zst 25 24 1]) (zsq [(.reg [zbi 27 .eql 10 (zki 2),zmv 26 27]),(.cond 26 (.reg [zfa 28 3 3,zld 29 28 1,zop 30 (.bsl 3 [TI] [(zki 0)]),zop 31 (.app 29 30 3 [TI]),zfa 32 3 3,zst 32 31 1]) (zsq [(.reg [zbi 34 .eql 10 (zki 3),zmv 33 34]),(.cond 33 (zsq [(.reg [zfa 35 3 3,zld 36 35 1,zle 37 36,zbi 38 .gtr 37 (zki 0)]),(.cond 38 (.draw [zfa 39 3 3,zld 40 39 1,zmv 41 0,zca 42 182 [41],zia 43 40 (zki 0) [TI],zst 43 42 1] [(0,3),(1,3)]) .skip)]) .skip)]))]))]))]))]),(.reg [zLd 44 3 4,zst 2 44 4]),.ret])
def QZu:List (ARv × Md):=[(.l 2 4 true,.b (zds 4))]
theorem QFL (c:((List Int) × Int × Int)) (h :
 let z4:=Qp c (3:Int)
 let z1:=e_op (z4.2) (w64 ((1:Int)+(z4.1)))
 let z2:=Qp (z1.2) (14:Int)
 let z3:=List.take (((z1.1).2.2.2).length) (List.drop 0 ((z1.1).2.2.2))
 (((Zo c (3:Int))∧(p_op (z4.2) (w64 ((1:Int)+(z4.1)))))∧((Zo (z1.2) (14:Int))∧(zif ((z2.1)==(0:Int)) ((Zo (z2.2) (8:Int))∧K (Qar ((w64 (((Qp (z2.2) (8:Int)).1)-(1:Int)),(z1.1).2.1,(z1.1).2.2.1,z3),((Qp (z2.2) (8:Int)).2)))) (zif ((z2.1)==(1:Int)) ((Y8 (z2.2) ([(0:Int),(7:Int),w64 (((z1.1).2.1)+(1:Int))]))∧K (Qar (((z1.1).1,(ZM (z2.2) ([(0:Int),(7:Int),w64 (((z1.1).2.1)+(1:Int))])).1,(z1.1).2.2.1,z3),((ZM (z2.2) ([(0:Int),(7:Int),w64 (((z1.1).2.1)+(1:Int))])).2)))) (zif ((z2.1)==(2:Int)) (((((z1.1).2.2.2).length=((z1.1).2.2.2).length∨((z1.1).2.2.2).length+1≤((z1.1).2.2.2).length)∧((z1.1).2.2.2).length+1≤big)∧K (Qar (((z1.1).1,(z1.1).2.1,(z1.1).2.2.1,(List.take (((z1.1).2.2.2).length+1) (List.drop 0 ((List.take (((z1.1).2.2.2).length) ((z1.1).2.2.2))++([(0:Int)]))))),(z2.2)))) (zif ((z2.1)==(3:Int)) (zif (decide (((((z1.1).2.2.2).length:Nat):Int)>(0:Int))) (((QN (z2.2))∧(((0:Int)≤(0:Int)∧Int.toNat (0:Int)<((z1.1).2.2.2).length)∧((0+(Int.toNat (0:Int)))<((z1.1).2.2.2).length)))∧K (Qar (((z1.1).1,(z1.1).2.1,(z1.1).2.2.1,(List.take (((z1.1).2.2.2).length) (List.drop 0 (((z1.1).2.2.2).set (0+(Int.toNat (0:Int))) ((Qcu (z2.2)).1))))),((Qcu (z2.2)).2)))) (K (Qar (((z1.1).1,(z1.1).2.1,(z1.1).2.2.1,z3),(z2.2))))) (K (Qar (((z1.1).1,(z1.1).2.1,(z1.1).2.2.1,z3),(z2.2))))))))))):Hold (tawp QUa (1+0) QWS (TQ 1 0 QZu K) (Qh [(.bx [(.c (.sl [(.int .u8)]) c.1),(.c TI c.2.1),(.c TI c.2.2)])])) :=
 Hold.of (by kernel_rfl) h
theorem Qv8 (c:((List Int) × Int × Int)) (hp:QN c):∃ t:TOp' × (((List Int) × Int × Int)),(Qjm c t)∧TCon Tryz.prog 201 [(.bx [(.c (.sl [(.int .u8)]) c.1),(.c TI c.2.1),(.c TI c.2.2)])] (Qar t):=by
 refine YT (tcx (n:=45) (sg:=Qok.sg) Ql (TOk.cons Qaa (TOk.cons QzT (TOk.cons QeO (TOk.cons QBU TOk.nil)))) (by kernel_rfl) (by kernel_rfl) (QFL (fun r'=>∃ t,(Qjm c t)∧r'=Qar t) c ?_))
 conv=>zeta
 have b1:=Yj c 3 hp
 generalize Qp c 3=r1 at b1 ⊢
 have h1:=b1.1
 have h2:=b1.2.1 (by omega)
 rw [Qt (x:=1+r1.1) (by omega) (by omega)]
 have ho:p_op r1.2 (1+r1.1):=⟨b1.2.2.2,by omega,by omega⟩
 have b2:=QxM _ _ ho
 generalize e_op r1.2 (1+r1.1)=r2 at b2 ⊢
 have hl:=b2.2.2.2.2.1
 have hc2:=b2.2.2.2.2.2
 have b3:=(Yj r2.2 14 hc2).2.2.2
 generalize Qp r2.2 14=r3 at b3 ⊢
 refine ⟨⟨hp,ho⟩,hc2,fun _=>⟨b3,Ze ⟨?_,(Yj _ _ b3).2.2.2⟩⟩,fun _=>⟨fun _=>⟨⟨b3,by simp,by simp⟩,Ze ⟨?_,(Qek _ _ ⟨b3,by simp,by simp⟩).2⟩⟩,fun _=>⟨fun _=>⟨⟨.inl rfl,by rw [Q9];omega⟩,Ze ⟨?_,b3⟩⟩,fun _=>⟨fun _=>⟨fun hh=>⟨⟨b3,⟨by omega,by simpa using hh⟩,by simpa using hh⟩,Ze ⟨?_,QyI _ b3⟩⟩,fun _=>(Ze ⟨?_,b3⟩)⟩,fun _=>(Ze ⟨?_,b3⟩)⟩⟩⟩⟩
 all_goals first
  | (simp;omega)
  | omega
  | skip
theorem QPA (c:((List Int) × Int × Int)) (hp:QN c):Qjm c (Qge c):=(Classical.epsilon_spec (Qv8 c hp)).1
theorem QZs (c:((List Int) × Int × Int)) (hp:QN c):TCon Tryz.prog 201 [(.bx [(.c (.sl [(.int .u8)]) c.1),(.c TI c.2.1),(.c TI c.2.2)])] (Qar (Qge c)):=(Classical.epsilon_spec (Qv8 c hp)).2
theorem QIi:Qi Tryz.prog Qok:=Qm fun x h=>QZs x.1 h
def Qbd (t:(List TOp') × (((List Int) × Int × Int))):TRes:=⟨(.a [(.r ctOp 0 0 ((t.1).length))]),[(.sl 69 ctOp true t.1)],[[(zcs [(.int .u8)] t.2.1),(zci t.2.2.1),(zci t.2.2.2)]],true,[]⟩
def ZA (x0:((List Int) × Int × Int)):(List TOp') × (((List Int) × Int × Int)):=Classical.epsilon fun t:(List TOp') × (((List Int) × Int × Int))=>(Qdo x0 t)∧TCon Tryz.prog 198 [(.bx [(.c (.sl [(.int .u8)]) x0.1),(.c TI x0.2.1),(.c TI x0.2.2)])] (Qbd t)
def Qjl:TRow:=Qj 198 [(.b [(.sl [(.int .u8)]),TI,TI])] fun x=>(some (QN x.1),Qbd (ZA x.1))
def Qlb:List TRow:=[JH,Qky]
def QyP:TCode :=
 (zsq [(zsq [(.reg [zmv 14 5,zbi 15 .gtr 14 (zki 0)]),(.cond 15 .skip (.exit 0))]),(.block 1 (zsq [(.reg [zmv 18 0,zmv 19 4,zca 20 223 [18,19],zop 6 (.new 69 (z0s ctOp)),zst 6 20 4]),(.reg [zfa 21 3 0,zld 22 21 1,zLd 23 6 4,zop 24 (.bsl 69 ctOp [23]),zop 25 (.app 22 24 69 ctOp),zfa 26 3 0,zst 26 25 1]),(.reg [zfa 27 6 2,zld 28 27 1,zmv 4 28])])),(.reg [zmv 16 5,zbi 17 .sub 16 (zki 1),zmv 5 17])])
def QuZ:List (Nat × Md):=[(0,.b [.d,.d,.d]),(2,.b [.d]),(3,.b [.o 69]),(4,.one .d),(5,.one .d)]
def Qx6:TCode :=
 (zsq [(.reg [zLd 29 3 1,zst 2 29 1]),.ret])
def QQG:TCode :=
 (zsq [(.reg [zop 2 (.new 26 [(.n ctOp)])]),(.reg [zop 7 (.build [(.n ctOp)] []),zop 3 (.new 26 [(.n ctOp)]),zst 3 7 1]),(.reg [zmv 8 0,zca 9 108 [8,(zki 3)],zbi 10 .add (zki 1) 9,zmv 4 10]),(zsq [(.reg [zmv 11 0,zca 12 108 [11,(zki 6)],zbi 13 .add (zki 1) 12,zmv 5 13]),(.block 0 (.loop QuZ QyP))]),Qx6])
def Qth:List (ARv × Md):=[(.l 2 1 true,.b [.o 69])]
def Qwi:Qb:=TQ 1 0 Qth K
def QRR:Qb:=Qseq (tawp Qlb 1 Qx6 (Qwi K)) (Qwi K)
def QUY:Qb:=Qblk 0 (QRR K)
def Qid (inn:Int) (n:Int) (c0:List Int) (c1:Int) (c2:Int) (m0:List TOp'):Prop:=Loop Qlb 1 QuZ QyP (QUY K) ⟨[(0,(.p 0 0 0)),(2,(.p 1 0 0)),(3,(.p 3 0 0)),(4,(zci inn)),(5,(zci n))],[(0,(.box [(zcs [(.int .u8)] c0),(zci c1),(zci c2)])),(1,(.box [(zcs ctOp ([]))])),(2,(.sl 69 ctOp true m0)),(3,(.box [(.r ctOp 2 0 m0.length)]))],4⟩
theorem QAi (inn:Int) (n:Int) (c0:List Int) (c1:Int) (c2:Int) (m0:List TOp') (h :
 (zif (decide (n>(0:Int))) ((p_op (c0,c1,c2) inn)∧(((m0.length=m0.length∨m0.length+1≤m0.length)∧m0.length+1≤big)∧(Qid K (((e_op (c0,c1,c2) inn).1).2.2.1) (w64 (n-(1:Int))) (((e_op (c0,c1,c2) inn).2).1) (((e_op (c0,c1,c2) inn).2).2.1) (((e_op (c0,c1,c2) inn).2).2.2) (List.take (m0.length+1) ((List.take m0.length m0)++([(((e_op (c0,c1,c2) inn).1).1,((e_op (c0,c1,c2) inn).1).2.1,((e_op (c0,c1,c2) inn).1).2.2.1,(List.take ((((e_op (c0,c1,c2) inn).1).2.2.2).length) (List.drop 0 (((e_op (c0,c1,c2) inn).1).2.2.2))))])))))) (K (Qbd ((List.take m0.length m0),(c0,c1,c2)))))):Qid K inn n c0 c1 c2 m0 :=
 Loop.of (by kernel_rfl) h
theorem QQF (c:((List Int) × Int × Int)) (h :
 ((Zo c (3:Int))∧((Zo ((Qp c (3:Int)).2) (6:Int))∧(Qid K (w64 ((1:Int)+((Qp c (3:Int)).1))) (w64 ((1:Int)+((Qp ((Qp c (3:Int)).2) (6:Int)).1))) (((Qp ((Qp c (3:Int)).2) (6:Int)).2).1) (((Qp ((Qp c (3:Int)).2) (6:Int)).2).2.1) (((Qp ((Qp c (3:Int)).2) (6:Int)).2).2.2) ([]:List TOp'))))):Hold (tawp Qlb (1+0) QQG (TQ 1 0 Qth K) (Qh [(.bx [(.c (.sl [(.int .u8)]) c.1),(.c TI c.2.1),(.c TI c.2.2)])])) :=
 Hold.of (by kernel_rfl) h
theorem QAZ (c:((List Int) × Int × Int)) (hp:QN c):∃ t:(List TOp') × (((List Int) × Int × Int)),(Qdo c t)∧TCon Tryz.prog 198 [(.bx [(.c (.sl [(.int .u8)]) c.1),(.c TI c.2.1),(.c TI c.2.2)])] (Qbd t):=by
 refine YT (tcx (n:=30) (sg:=Qjl.sg) Ql (TOk.cons Qaa (TOk.cons QzT TOk.nil)) (by kernel_rfl) (by kernel_rfl) (QQF (fun r'=>∃ t,(Qdo c t)∧r'=Qbd t) c ?_))
 have b1:=Yj c 3 hp
 generalize Qp c 3=r1 at b1 ⊢
 have b2:=Yj r1.2 6 b1.2.2.2
 generalize Qp r1.2 6=r2 at b2 ⊢
 have h1:=b1.1
 have h2:=b1.2.1 (by omega)
 have h3:=b2.1
 have h4:=b2.2.1 (by omega)
 rw [Qt (x:=1+r1.1) (by omega) (by omega),Qt (x:=1+r2.1) (by omega) (by omega)]
 refine ⟨hp,b1.2.2.2,?_⟩
 have key:∀ (k:Nat) (inn c1 c2:Int) (c0:List Int) (m0:Zf),QN (c0,c1,c2)→1≤inn→inn≤3→m0.length+k≤6→1≤m0.length+k→Yx none m0=true→Qia none m0 inn=true→Qid (fun r'=>∃ t,(Qdo c t)∧r'=Qbd t) inn (k:Int) c0 c1 c2 m0:=by
  intro k
  induction k with
  | zero =>
   intro inn c1 c2 c0 m0 hc k1 k2 k3 k4 k5 k6
   refine QAi (fun r'=>∃ t,(Qdo c t)∧r'=Qbd t) _ _ _ _ _ _ ⟨fun h=>by simp at h,fun _=>(Ze ⟨?_,?_,hc⟩)⟩
   ·simp only [List.take_length,QU,Bool.and_eq_true,QS]
    exact ⟨by omega,k5⟩
   ·simp only [List.take_length];omega
  | succ k ih =>
   intro inn c1 c2 c0 m0 hc k1 k2 k3 k4 k5 k6
   have ho:p_op (c0,c1,c2) inn:=⟨hc,k1,k2⟩
   have b:=QxM _ _ ho
   refine QAi (fun r'=>∃ t,(Qdo c t)∧r'=Qbd t) _ _ _ _ _ _ ⟨fun _=>⟨ho,⟨.inl rfl,by rw [Q9];omega⟩,?_⟩,fun h=>by simp at h <;> omega⟩
   rw [Za,Qt (x:=((k+1:Nat):Int)-1) (by omega) (by omega),show ((k+1:Nat):Int)-1=k by omega]
   refine ih _ _ _ _ _ b.2.2.2.2.2 b.2.2.1 b.2.2.2.1 (by simp;omega) (by simp;omega) (Qvh _ _ _ k5 ?_ ?_) ?_
   ·simp only [List.drop_zero,List.take_length];exact b.1
   ·rw [show (((e_op (c0,c1,c2) inn).1.1,(e_op (c0,c1,c2) inn).1.2.1,(e_op (c0,c1,c2) inn).1.2.2.1,List.take (e_op (c0,c1,c2) inn).1.2.2.2.length (List.drop 0 (e_op (c0,c1,c2) inn).1.2.2.2)):TOp').2.1=inn from b.2.1]
    exact k6
   ·exact QBY _ _ _
 have h:=key (1+r2.1).toNat (1+r1.1) r2.2.2.1 r2.2.2.2 r2.2.1 [] b2.2.2.2 (by omega) (by omega) (by simp;omega) (by simp;omega) rfl rfl
 rw [Int.toNat_of_nonneg (by omega)] at h
 exact h
theorem Qtk (c:((List Int) × Int × Int)) (hp:QN c):Qdo c (ZA c):=(Classical.epsilon_spec (QAZ c hp)).1
theorem QQg (c:((List Int) × Int × Int)) (hp:QN c):TCon Tryz.prog 198 [(.bx [(.c (.sl [(.int .u8)]) c.1),(.c TI c.2.1),(.c TI c.2.2)])] (Qbd (ZA c)):=(Classical.epsilon_spec (QAZ c hp)).2
theorem QEy:Qi Tryz.prog Qjl:=Qm fun x h=>QQg x.1 h
def Qae (t:(List TOp') × (((List Int) × Int × Int))):TRes:=⟨(.a [(zcs ctOp t.1)]),[],[[(zcs [(.int .u8)] t.2.1),(zci t.2.2.1),(zci t.2.2.2)]],true,[]⟩
def QjQ (x0:((List Int) × Int × Int)):(List TOp') × (((List Int) × Int × Int)):=Classical.epsilon fun t:(List TOp') × (((List Int) × Int × Int))=>(QdX x0 t)∧TCon Tryz.prog 144 [(.bx [(.c (.sl [(.int .u8)]) x0.1),(.c TI x0.2.1),(.c TI x0.2.2)])] (Qae t)
def Qn2:TRow:=Qj 144 [(.b [(.sl [(.int .u8)]),TI,TI])] fun x=>(some (QN x.1),Qae (QjQ x.1))
def QoC:List TRow:=[Qjl,JH,Qok]
def Qxx:TCode :=
 (zsq [(zsq [(.draw [zfa 31 3 0,zld 32 31 1,zle 33 32,zmv 34 0,zca 35 108 [34,(zki 2)],zbi 36 .add (zki 8) 35,zbi 37 .lss 33 36] [(0,4),(1,4),(2,4)]),(.cond 37 .skip (.exit 1))]),(.block 2 (.draw [zfa 38 3 0,zld 39 38 1,zfa 40 3 0,zld 41 40 1,zfa 42 3 0,zld 43 42 1,zle 44 43,zbi 45 .sub 44 (zki 1),zia 46 41 45 ctOp,zfa 47 46 2,zld 48 47 1,zfa 49 3 0,zld 50 49 1,zfa 51 3 0,zld 52 51 1,zle 53 52,zbi 54 .sub 53 (zki 1),zia 55 50 54 ctOp,zfa 56 55 2,zld 57 56 1,zop 58 (.build (z0s ctOp) [(0,1,(zki 3)),(1,1,48),(2,1,57)]),zop 59 (.bsl 69 ctOp [58]),zop 60 (.app 39 59 69 ctOp),zfa 61 3 0,zst 61 60 1] [(0,21),(1,21)]))])
def Quv:List (Nat × Md):=[(0,.b [.d,.d,.d]),(2,.b [.d]),(3,.b [.f])]
def Qsb:TCode :=
 (zsq [(.reg [zLd 62 3 1,zst 2 62 1]),.ret])
def QIy:TCode :=
 (zsq [(.reg [zop 2 (.new 26 [(.n ctOp)])]),(.reg [zmv 5 0,zca 6 198 [5],zop 3 (.new 26 [(.n ctOp)]),zst 3 6 1]),(.reg [zmv 7 0,zfa 8 3 0,zld 9 8 1,zle 10 9,zca 11 108 [7,10],zmv 4 11]),(zsq [(.reg [zmv 12 0,zca 13 108 [12,(zki 16)]]),(.block 0 (zsq [(.reg [zbi 15 .eql 13 (zki 0),zmv 14 15]),(.cond 14 (.draw [zfa 16 3 0,zld 17 16 1,zmv 18 4,zmv 19 0,zca 20 201 [19],zia 21 17 18 ctOp,zst 21 20 4] [(0,4),(1,4)]) (zsq [(.reg [zbi 23 .eql 13 (zki 1),zmv 22 23]),(.cond 22 (.reg [zfa 24 3 0,zld 25 24 1,zmv 26 4,zop 27 (.slc 25 none (some 26) ctOp),zfa 28 3 0,zst 28 27 1]) (zsq [(.reg [zbi 30 .eql 13 (zki 2),zmv 29 30]),(.cond 29 (.block 1 (.loop Quv Qxx)) .skip)]))]))]))]),Qsb])
def QsP:List (ARv × Md):=[(.l 2 1 true,.b [.d])]
def QuB:Qb:=TQ 1 0 QsP K
def QPH:Qb:=Qseq (tawp QoC 1 Qsb (QuB K)) (QuB K)
def QJz:Qb:=Qblk 0 (QPH K)
def QVn:Qb:=Qblk 1 (QJz K)
def Qh8 (c0:List Int) (c1:Int) (c2:Int) (m0:List TOp'):Prop:=Loop QoC 1 Quv Qxx (QVn K) ⟨[(0,(.p 0 0 0)),(2,(.p 1 0 0)),(3,(.p 3 0 0))],[(0,(.box [(zcs [(.int .u8)] c0),(zci c1),(zci c2)])),(1,(.box [(zcs ctOp ([]))])),(2,(.sl 69 ctOp true m0)),(3,(.box [(.r ctOp 2 0 m0.length)]))],4⟩
theorem QvT (c0:List Int) (c1:Int) (c2:Int) (m0:List TOp') (h :
 ((Zo (c0,c1,c2) (2:Int))∧(zif (decide (((m0.length:Nat):Int)<(w64 ((8:Int)+((Qp (c0,c1,c2) (2:Int)).1))))) ((((0:Int)≤w64 (((m0.length:Nat):Int)-(1:Int))∧Int.toNat (w64 (((m0.length:Nat):Int)-(1:Int)))<m0.length)∧(((0+(Int.toNat (w64 (((m0.length:Nat):Int)-(1:Int)))))<m0.length)∧(((0:Int)≤w64 (((m0.length:Nat):Int)-(1:Int))∧Int.toNat (w64 (((m0.length:Nat):Int)-(1:Int)))<m0.length)∧(((0+(Int.toNat (w64 (((m0.length:Nat):Int)-(1:Int)))))<m0.length)∧((m0.length=m0.length∨m0.length+1≤m0.length)∧m0.length+1≤big)))))∧(Qh8 K (((Qp (c0,c1,c2) (2:Int)).2).1) (((Qp (c0,c1,c2) (2:Int)).2).2.1) (((Qp (c0,c1,c2) (2:Int)).2).2.2) (List.take (m0.length+1) ((List.take m0.length m0)++([((3:Int),(gtd dOp m0 (0+(Int.toNat (w64 (((m0.length:Nat):Int)-(1:Int)))))).2.2.1,(gtd dOp m0 (0+(Int.toNat (w64 (((m0.length:Nat):Int)-(1:Int)))))).2.2.1,[])]))))) (K (Qae ((List.take m0.length (List.drop 0 m0)),((Qp (c0,c1,c2) (2:Int)).2))))))):Qh8 K c0 c1 c2 m0 :=
 Loop.of (by kernel_rfl) h
theorem QHC (c:((List Int) × Int × Int)) (h :
 let z1:=Qp ((ZA c).2) ((((ZA c).1).length:Nat):Int)
 let z2:=Qp (z1.2) (16:Int)
 ((QN c)∧((Zo ((ZA c).2) ((((ZA c).1).length:Nat):Int))∧((Zo (z1.2) (16:Int))∧(zif ((z2.1)==(0:Int)) (((QN (z2.2))∧(((0:Int)≤z1.1∧Int.toNat (z1.1)<((ZA c).1).length)∧((0+(Int.toNat (z1.1)))<((ZA c).1).length)))∧K (Qae ((List.take (((ZA c).1).length) (List.drop 0 (((ZA c).1).set (0+(Int.toNat (z1.1))) ((Qge (z2.2)).1)))),((Qge (z2.2)).2)))) (zif ((z2.1)==(1:Int)) (((0:Int)≤(0:Int)∧(0:Int)≤z1.1∧z1.1≤((((ZA c).1).length:Nat):Int))∧K (Qae ((List.take (Int.toNat (z1.1)-Int.toNat (0:Int)) (List.drop 0 ((ZA c).1))),(z2.2)))) (zif ((z2.1)==(2:Int)) (Qh8 K ((z2.2).1) ((z2.2).2.1) ((z2.2).2.2) (List.take (((ZA c).1).length) ((ZA c).1))) (K (Qae ((List.take (((ZA c).1).length) (List.drop 0 ((ZA c).1))),(z2.2))))))))))):Hold (tawp QoC (1+0) QIy (TQ 1 0 QsP K) (Qh [(.bx [(.c (.sl [(.int .u8)]) c.1),(.c TI c.2.1),(.c TI c.2.2)])])) :=
 Hold.of (by kernel_rfl) h
theorem QHt (c:((List Int) × Int × Int)) (hp:QN c):∃ t:(List TOp') × (((List Int) × Int × Int)),(QdX c t)∧TCon Tryz.prog 144 [(.bx [(.c (.sl [(.int .u8)]) c.1),(.c TI c.2.1),(.c TI c.2.2)])] (Qae t):=by
 refine YT (tcx (n:=63) (sg:=Qn2.sg) Ql (TOk.cons QEy (TOk.cons Qaa (TOk.cons QIi TOk.nil))) (by kernel_rfl) (by kernel_rfl) (QHC (fun r'=>∃ t,(QdX c t)∧r'=Qae t) c ?_))
 conv=>zeta
 have b1:=Qtk c hp
 generalize ZA c=r1 at b1 ⊢
 obtain ⟨k1,k2,k3⟩:=b1
 have k4:1≤r1.1.length:=by
  simp only [QU,Bool.and_eq_true,QS] at k1
  omega
 have b2:=Yj r1.2 r1.1.length k3
 generalize Qp r1.2 r1.1.length=r2 at b2 ⊢
 have h1:=b2.1
 have h2:=b2.2.1 (by omega)
 have b3:=(Yj r2.2 16 b2.2.2.2).2.2.2
 generalize Qp r2.2 16=r3 at b3 ⊢
 refine ⟨hp,k3,b2.2.2.2,fun _=>⟨⟨b3,⟨h1,by omega⟩,by omega⟩,Ze ⟨?_,(QPA _ b3).2⟩⟩,fun _=>⟨fun _=>⟨⟨by omega,by omega,by omega⟩,Ze ⟨?_,b3⟩⟩,fun _=>⟨fun _=>?_,fun _=>(Ze ⟨?_,b3⟩)⟩⟩⟩
 ·simp;omega
 ·simp;omega
 ·rw [List.take_length]
  have key:∀ (k:Nat) (c1 c2:Int) (c0:List Int) (m0:Zf),QN (c0,c1,c2)→1≤m0.length→m0.length+k=9→Qh8 (fun r'=>∃ t,(QdX c t)∧r'=Qae t) c0 c1 c2 m0:=by
   intro k
   induction k with
   | zero =>
    intro c1 c2 c0 m0 hc q1 q2
    have b:=Yj (c0,c1,c2) 2 hc
    have q3:=b.1
    have q4:=b.2.1 (by omega)
    refine QvT (fun r'=>∃ t,(QdX c t)∧r'=Qae t) _ _ _ _ ⟨hc,fun h=>?_,fun _=>(Ze ⟨?_,b.2.2.2⟩)⟩
    ·rw [Qt (x:=8+_) (by omega) (by omega)] at h
     simp at h;omega
    ·simp;omega
   | succ k ih =>
    intro c1 c2 c0 m0 hc q1 q2
    have b:=Yj (c0,c1,c2) 2 hc
    refine QvT (fun r'=>∃ t,(QdX c t)∧r'=Qae t) _ _ _ _ ⟨hc,fun _=>?_,fun _=>(Ze ⟨?_,b.2.2.2⟩)⟩
    ·rw [Qt (x:=(m0.length:Int)-1) (by omega) (by omega)]
     refine ⟨⟨⟨by omega,by omega⟩,by omega,⟨by omega,by omega⟩,by omega,.inl rfl,by rw [Q9];omega⟩,?_⟩
     rw [Za]
     exact ih _ _ _ _ b.2.2.2 (by simp) (by simp;omega)
    ·simp;omega
  exact key (9-r1.1.length) _ _ _ _ b3 k4 (by omega)
 ·simp;omega
theorem QF3 (c:((List Int) × Int × Int)) (hp:QN c):TCon Tryz.prog 144 [(.bx [(.c (.sl [(.int .u8)]) c.1),(.c TI c.2.1),(.c TI c.2.2)])] (Qae (QjQ c)):=(Classical.epsilon_spec (QHt c hp)).2
theorem QVr:Qi Tryz.prog Qn2:=Qm fun x h=>QF3 x.1 h
end
end Go.Proofs.YtjbdljkhbglnhaaGreat.Am

