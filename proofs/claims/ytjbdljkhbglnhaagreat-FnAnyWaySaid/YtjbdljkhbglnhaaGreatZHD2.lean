/- -/
import Derived.Test.YtjbdljkhbglnhaaGreatZHD1
import Derived.Test.YtjbdljkhbglnhaaGreatZHP4
namespace Go.Proofs.YtjbdljkhbglnhaaGreat.Am
open Go Go.RowKit Go.Proofs.YtjbdljkhbglnhaaGreat
set_option linter.all false
set_option maxHeartbeats 2000000
noncomputable section
variable (K:TRes→Prop)
def Qbd (t:Int × (((List Int) × Int × Int))):TRes:=⟨(zci t.1),[],[[(zcs [(.int .u8)] t.2.1),(zci t.2.2.1),(zci t.2.2.2)]],true,[]⟩
def Qa4 (x0:((List Int) × Int × Int)):Int × (((List Int) × Int × Int)):=Classical.epsilon fun t:Int × (((List Int) × Int × Int))=>(QiA x0 t)∧TCon Tryz.prog 181 [(.bx [(.c (.sl [(.int .u8)]) x0.1),(.c TI x0.2.1),(.c TI x0.2.2)])] (Qbd t)
def Qiv:TRow:=Qg 181 [(.b [(.sl [(.int .u8)]),TI,TI])] fun x=>(some (Qv x.1),Qbd (Qa4 x.1))
def QEF:List TRow:=[Js,Qb7]
def QIH:TCode :=
 (zsq [(.reg [zmv 2 (zki 0)]),(zsq [(.reg [zmv 3 0,zca 4 108 [3,(zki 12)]]),(.block 0 (zsq [(.reg [zbi 6 .eql 4 (zki 0),zmv 5 6]),(.cond 5 (zsq [(.reg [zmv 7 0,zop 8 (.bsl 3 [TI] [(zki 2147483647),(zki (-2147483647)),(zki 2147483646),(zki 1),(zki (-1)),(zki 0)]),zca 9 145 [7,8],zmv 2 9]),.ret]) (zsq [(.reg [zbi 11 .eql 4 (zki 1),zmv 10 11]),(.cond 10 (zsq [(.reg [zmv 12 0,zca 13 108 [12,(zki 4000)],zbi 14 .sub 13 (zki 2000),zbi 15 .mul 14 (zki 997),zmv 2 15]),.ret]) (zsq [(.reg [zbi 17 .eql 4 (zki 2),zmv 16 17]),(.cond 16 (zsq [(.reg [zmv 18 0,zca 19 108 [18,(zki 9)],zbi 20 .sub 19 (zki 4),zmv 2 20]),.ret]) .skip)]))]))]))]),(.reg [zmv 21 0,zca 22 108 [21,(zki 17)],zbi 23 .sub 22 (zki 8),zbi 24 .mul 23 (zki 65536),zmv 25 0,zop 26 (.bsl 3 [TI] [(zki 1),(zki 1),(zki 2),(zki 4),(zki 3)]),zca 27 145 [25,26],zbi 28 .quo 24 27,zmv 2 28]),.ret])
def QBE:List (ARv × Md):=[(.t 2,.one .d)]
theorem QD1 (c:((List Int) × Int × Int)) (h :
 ((Ze c (12:Int))∧(zif (((Qe c (12:Int)).1)==(0:Int)) ((Y0 ((Qe c (12:Int)).2) ([(2147483647:Int),(-2147483647:Int),(2147483646:Int),(1:Int),(-1:Int),(0:Int)]))∧K (Qbd ((Zt ((Qe c (12:Int)).2) ([(2147483647:Int),(-2147483647:Int),(2147483646:Int),(1:Int),(-1:Int),(0:Int)])).1,((Zt ((Qe c (12:Int)).2) ([(2147483647:Int),(-2147483647:Int),(2147483646:Int),(1:Int),(-1:Int),(0:Int)])).2)))) (zif (((Qe c (12:Int)).1)==(1:Int)) ((Ze ((Qe c (12:Int)).2) (4000:Int))∧K (Qbd (w64 ((w64 (((Qe ((Qe c (12:Int)).2) (4000:Int)).1)-(2000:Int)))*(997:Int)),((Qe ((Qe c (12:Int)).2) (4000:Int)).2)))) (zif (((Qe c (12:Int)).1)==(2:Int)) ((Ze ((Qe c (12:Int)).2) (9:Int))∧K (Qbd (w64 (((Qe ((Qe c (12:Int)).2) (9:Int)).1)-(4:Int)),((Qe ((Qe c (12:Int)).2) (9:Int)).2)))) (((Ze ((Qe c (12:Int)).2) (17:Int))∧((Y0 ((Qe ((Qe c (12:Int)).2) (17:Int)).2) ([(1:Int),(1:Int),(2:Int),(4:Int),(3:Int)]))∧(¬ ((Zt ((Qe ((Qe c (12:Int)).2) (17:Int)).2) ([(1:Int),(1:Int),(2:Int),(4:Int),(3:Int)])).1:Int)=0)))∧K (Qbd (w64 (Int.tdiv (w64 ((w64 (((Qe ((Qe c (12:Int)).2) (17:Int)).1)-(8:Int)))*(65536:Int))) ((Zt ((Qe ((Qe c (12:Int)).2) (17:Int)).2) ([(1:Int),(1:Int),(2:Int),(4:Int),(3:Int)])).1)),((Zt ((Qe ((Qe c (12:Int)).2) (17:Int)).2) ([(1:Int),(1:Int),(2:Int),(4:Int),(3:Int)])).2))))))))):Hold (tawp QEF (1+0) QIH (TQ 1 0 QBE K) (Qf [(.bx [(.c (.sl [(.int .u8)]) c.1),(.c TI c.2.1),(.c TI c.2.2)])])) :=
 Hold.of (by kernel_rfl) h
theorem QAc (c:((List Int) × Int × Int)) (hp:Qv c):∃ t:Int × (((List Int) × Int × Int)),(QiA c t)∧TCon Tryz.prog 181 [(.bx [(.c (.sl [(.int .u8)]) c.1),(.c TI c.2.1),(.c TI c.2.2)])] (Qbd t):=by
 refine YM (tcx (n:=29) (sg:=Qiv.sg) Qj (TOk.cons JT (TOk.cons QdY TOk.nil)) (by kernel_rfl) (by kernel_rfl) (QD1 (fun r'=>∃ t,(QiA c t)∧r'=Qbd t) c ?_))
 have b1:=Z4 c 12 hp
 generalize Qe c 12=r at b1 ⊢
 have hc:Qv r.2:=b1.2.2.2
 refine ⟨hp,fun _=>?_,fun _=>⟨fun _=>?_,fun _=>⟨fun _=>?_,fun _=>?_⟩⟩⟩
 ·have hpp:Y0 r.2 [2147483647,-2147483647,2147483646,1,-1,0]:=⟨hc,by simp,by simp⟩
  have b2:=QdC _ _ hpp
  refine ⟨hpp,Q5 ⟨?_,b2.2⟩⟩
  have b3:=b2.1
  simp only [List.mem_cons,List.not_mem_nil,or_false] at b3
  simp only [Za,Bool.and_eq_true,decide_eq_true_eq]
  omega
 ·have b2:=Z4 r.2 4000 hc
  refine ⟨hc,Q5 ⟨?_,b2.2.2.2⟩⟩
  have h1:=b2.1
  have h2:=b2.2.1 (by omega)
  rw [Qo (x:=_-2000) (by omega) (by omega),Qo (by omega) (by omega)]
  simp only [Za,Bool.and_eq_true,decide_eq_true_eq]
  omega
 ·have b2:=Z4 r.2 9 hc
  refine ⟨hc,Q5 ⟨?_,b2.2.2.2⟩⟩
  have h1:=b2.1
  have h2:=b2.2.1 (by omega)
  rw [Qo (by omega) (by omega)]
  simp only [Za,Bool.and_eq_true,decide_eq_true_eq]
  omega
 ·have b2:=Z4 r.2 17 hc
  have hpp:Y0 (Qe r.2 17).2 [1,1,2,4,3]:=⟨b2.2.2.2,by simp,by simp⟩
  have b3:=QdC _ _ hpp
  have b4:=b3.1
  simp only [List.mem_cons,List.not_mem_nil,or_false] at b4
  have h1:=b2.1
  have h2:=b2.2.1 (by omega)
  refine ⟨⟨hc,hpp,by omega⟩,Q5 ⟨?_,b3.2⟩⟩
  have h3:=QF5 (a:=((Qe r.2 17).1-8)*65536) (b:=(Zt (Qe r.2 17).2 [1,1,2,4,3]).1) (B:=1000000) (by omega) (by omega) (by omega)
  rw [Qo (x:=_-8) (by omega) (by omega),Qo (x:=_*65536) (by omega) (by omega),Qo (by omega) (by omega)]
  simp only [Za,Bool.and_eq_true,decide_eq_true_eq]
  omega
theorem Qp1 (c:((List Int) × Int × Int)) (hp:Qv c):QiA c (Qa4 c):=(Classical.epsilon_spec (QAc c hp)).1
theorem QIE (c:((List Int) × Int × Int)) (hp:Qv c):TCon Tryz.prog 181 [(.bx [(.c (.sl [(.int .u8)]) c.1),(.c TI c.2.1),(.c TI c.2.2)])] (Qbd (Qa4 c)):=(Classical.epsilon_spec (QAc c hp)).2
theorem QuY:Qh Tryz.prog Qiv:=Qk fun x h=>QIE x.1 h
def Qcg (t:Int × (((List Int) × Int × Int))):TRes:=⟨(zci t.1),[],[[(zcs [(.int .u8)] t.2.1),(zci t.2.2.1),(zci t.2.2.2)]],true,[]⟩
def Qco (x0:((List Int) × Int × Int)):Int × (((List Int) × Int × Int)):=Classical.epsilon fun t:Int × (((List Int) × Int × Int))=>(QfZ x0 t)∧TCon Tryz.prog 182 [(.bx [(.c (.sl [(.int .u8)]) x0.1),(.c TI x0.2.1),(.c TI x0.2.2)])] (Qcg t)
def Qgh:TRow:=Qg 182 [(.b [(.sl [(.int .u8)]),TI,TI])] fun x=>(some (Qv x.1),Qcg (Qco x.1))
def QC2:List TRow:=[Qfi,Qb7,Qiv]
def QCj:TCode :=
 (zsq [(.reg [zmv 2 (zki 0)]),(zsq [(.reg [zmv 3 0,zca 4 106 [3,(zki 8)]]),(.cond 4 (zsq [(.reg [zmv 5 0,zop 6 (.bsl 3 [TI] [(zki 2147483648),(zki (-2147483648)),(zki 9223372036854775807),(zki (-9223372036854775807))]),zca 7 145 [5,6],zmv 2 7]),.ret]) .skip)]),(.reg [zmv 8 0,zca 9 181 [8],zmv 2 9]),.ret])
def QHg:List (ARv × Md):=[(.t 2,.one .d)]
theorem QIQ (c:((List Int) × Int × Int)) (h :
 ((Ze c (8:Int))∧(zif ((ZI c (8:Int)).1) ((Y0 ((ZI c (8:Int)).2) ([(2147483648:Int),(-2147483648:Int),(9223372036854775807:Int),(-9223372036854775807:Int)]))∧K (Qcg ((Zt ((ZI c (8:Int)).2) ([(2147483648:Int),(-2147483648:Int),(9223372036854775807:Int),(-9223372036854775807:Int)])).1,((Zt ((ZI c (8:Int)).2) ([(2147483648:Int),(-2147483648:Int),(9223372036854775807:Int),(-9223372036854775807:Int)])).2)))) ((Qv ((ZI c (8:Int)).2))∧K (Qcg ((Qa4 ((ZI c (8:Int)).2)).1,((Qa4 ((ZI c (8:Int)).2)).2))))))):Hold (tawp QC2 (1+0) QCj (TQ 1 0 QHg K) (Qf [(.bx [(.c (.sl [(.int .u8)]) c.1),(.c TI c.2.1),(.c TI c.2.2)])])) :=
 Hold.of (by kernel_rfl) h
theorem Qrl (c:((List Int) × Int × Int)) (hp:Qv c):∃ t:Int × (((List Int) × Int × Int)),(QfZ c t)∧TCon Tryz.prog 182 [(.bx [(.c (.sl [(.int .u8)]) c.1),(.c TI c.2.1),(.c TI c.2.2)])] (Qcg t):=by
 refine YM (tcx (n:=10) (sg:=Qgh.sg) Qj (TOk.cons QkB (TOk.cons QdY (TOk.cons QuY TOk.nil))) (by kernel_rfl) (by kernel_rfl) (QIQ (fun r'=>∃ t,(QfZ c t)∧r'=Qcg t) c ?_))
 have b1:=QnV c 8 hp
 generalize ZI c 8=r at b1 ⊢
 have hpp:Y0 r.2 [2147483648,-2147483648,9223372036854775807,-9223372036854775807]:=⟨b1,by simp,by simp⟩
 exact ⟨hp,fun _=>⟨hpp,Q5 ((QdC _ _ hpp).2)⟩,fun _=>⟨b1,Q5 ((Qp1 _ b1).2)⟩⟩
theorem QzD (c:((List Int) × Int × Int)) (hp:Qv c):QfZ c (Qco c):=(Classical.epsilon_spec (Qrl c hp)).1
theorem QRa (c:((List Int) × Int × Int)) (hp:Qv c):TCon Tryz.prog 182 [(.bx [(.c (.sl [(.int .u8)]) c.1),(.c TI c.2.1),(.c TI c.2.2)])] (Qcg (Qco c)):=(Classical.epsilon_spec (Qrl c hp)).2
theorem QAd:Qh Tryz.prog Qgh:=Qk fun x h=>QRa x.1 h
def Qbs (t:(List Int) × (((List Int) × Int × Int))):TRes:=⟨(.r [TI] 0 0 ((t.1).length)),[(.sl 3 [TI] true t.1)],[[(zcs [(.int .u8)] t.2.1),(zci t.2.2.1),(zci t.2.2.2)]],true,[]⟩
def Z9 (x0:((List Int) × Int × Int)) (x1:Int):(List Int) × (((List Int) × Int × Int)):=Classical.epsilon fun t:(List Int) × (((List Int) × Int × Int))=>(QcA x0 x1 t)∧TCon Tryz.prog 105 [(.bx [(.c (.sl [(.int .u8)]) x0.1),(.c TI x0.2.1),(.c TI x0.2.2)]),(.c TI x1)] (Qbs t)
def Qfu:TRow:=Qg 105 [(.b [(.sl [(.int .u8)]),TI,TI]),(.c TI)] fun x=>(some (Jy x.1 x.2.1),Qbs (Z9 x.1 x.2.1))
def QkF:List TRow:=[Qiv]
def Qvp:TCode :=
 (zsq [(zsq [(.reg [zmv 8 6,zmv 9 1,zbi 10 .lss 8 9]),(.cond 10 .skip (.exit 0))]),(.block 1 (.reg [zmv 13 5,zmv 14 0,zca 15 181 [14],zop 16 (.bsl 3 [TI] [15]),zop 17 (.app 13 16 3 [TI]),zmv 5 17])),(.reg [zmv 11 6,zbi 12 .add 11 (zki 1),zmv 6 12])])
def QyL:List (Nat × Md):=[(0,.b [.d,.d,.d]),(1,.one .d),(5,.one .f),(6,.one .d)]
def Qw6:TCode :=
 (zsq [(.reg [zmv 18 5,zmv 4 18]),.ret])
def QOG:TCode :=
 (zsq [(.reg [zmv 4 (.k (.n [TI]))]),(.reg [zop 7 (.bsl 3 [TI] []),zmv 5 7]),(zsq [(.reg [zmv 6 (zki 0)]),(.block 0 (.loop QyL Qvp))]),Qw6])
def Qwr:List (ARv × Md):=[(.t 4,.one (.o 3))]
def Qzz:Qb:=TQ 1 0 Qwr K
def QGQ:Qb:=Qseq (tawp QkF 1 Qw6 (Qzz K)) (Qzz K)
def QEw:Qb:=Qblk 0 (QGQ K)
def QiU (n:Int) (i:Int) (c0:List Int) (c1:Int) (c2:Int) (out:List Int):Prop:=Loop QkF 1 QyL Qvp (QEw K) ⟨[(0,(.p 0 0 0)),(1,(zci n)),(5,(.r [TI] 1 0 out.length)),(6,(zci i))],[(0,(.box [(zcs [(.int .u8)] c0),(zci c1),(zci c2)])),(1,(.sl 3 [TI] true out))],2⟩
theorem Qow (n:Int) (i:Int) (c0:List Int) (c1:Int) (c2:Int) (out:List Int) (h :
 (zif (decide (i<n)) (((Qv (c0,c1,c2))∧((out.length=out.length∨out.length+1≤out.length)∧out.length+1≤big))∧(QiU K n (w64 (i+(1:Int))) (((Qa4 (c0,c1,c2)).2).1) (((Qa4 (c0,c1,c2)).2).2.1) (((Qa4 (c0,c1,c2)).2).2.2) (List.take (out.length+1) ((List.take out.length out)++([(Qa4 (c0,c1,c2)).1]))))) (K (Qbs ((List.take out.length out),(c0,c1,c2)))))):QiU K n i c0 c1 c2 out :=
 Loop.of (by kernel_rfl) h
theorem QIk (c:((List Int) × Int × Int)) (n:Int) (h :
 (QiU K n 0 c.1 c.2.1 c.2.2 ([]:List Int))):Hold (tawp QkF (1+0) QOG (TQ 1 0 Qwr K) (Qf [(.bx [(.c (.sl [(.int .u8)]) c.1),(.c TI c.2.1),(.c TI c.2.2)]),(.c TI n)])) :=
 Hold.of (by kernel_rfl) h
theorem QrE (c:((List Int) × Int × Int)) (n:Int) (hp:Jy c n):∃ t:(List Int) × (((List Int) × Int × Int)),(QcA c n t)∧TCon Tryz.prog 105 [(.bx [(.c (.sl [(.int .u8)]) c.1),(.c TI c.2.1),(.c TI c.2.2)]),(.c TI n)] (Qbs t):=by
 refine YM (tcx (n:=19) (sg:=Qfu.sg) Qj (TOk.cons QuY TOk.nil) (by kernel_rfl) (by kernel_rfl) (QIk (fun r'=>∃ t,(QcA c n t)∧r'=Qbs t) c n ?_))
 obtain ⟨h1,h2⟩:=hp
 refine JL n.toNat (fun k=>∀ (c0:List Int) (c1 c2:Int) (out:List Int),out.length=k→Zu out=true→Qv (c0,c1,c2)→QiU (fun r'=>∃ t,(QcA c n t)∧r'=Qbs t) n (k:Int) c0 c1 c2 out) ?_ ?_ c.1 c.2.1 c.2.2 [] rfl rfl h1
 ·intro c0 c1 c2 out hl hf hc
  refine Qow (fun r'=>∃ t,(QcA c n t)∧r'=Qbs t) n _ _ _ _ _ ⟨fun h=>by simp at h;omega,fun _=>(Q5 ⟨?_,?_,hc⟩)⟩
  ·simp;omega
  ·simp only [List.take_length];exact hf
 ·intro k hk ih c0 c1 c2 out hl hf hc
  have b:=Qp1 (c0,c1,c2) hc
  refine Qow (fun r'=>∃ t,(QcA c n t)∧r'=Qbs t) n _ _ _ _ _ ⟨fun _=>⟨⟨hc,.inl rfl,by rw [Zi];omega⟩,?_⟩,fun h=>by simp at h;omega⟩
  rw [sc1 (by omega),Zq]
  exact ih _ _ _ _ (by simp;omega) (QI9 hf b.1) b.2
theorem Qfz (c:((List Int) × Int × Int)) (n:Int) (hp:Jy c n):QcA c n (Z9 c n):=(Classical.epsilon_spec (QrE c n hp)).1
theorem QMD (c:((List Int) × Int × Int)) (n:Int) (hp:Jy c n):TCon Tryz.prog 105 [(.bx [(.c (.sl [(.int .u8)]) c.1),(.c TI c.2.1),(.c TI c.2.2)]),(.c TI n)] (Qbs (Z9 c n)):=(Classical.epsilon_spec (QrE c n hp)).2
theorem Qk1:Qh Tryz.prog Qfu:=Qk fun x h=>QMD x.1 x.2.1 h
def QbB (t:(List Int) × (((List Int) × Int × Int))):TRes:=⟨(zcs [TI] t.1),[],[[(zcs [(.int .u8)] t.2.1),(zci t.2.2.1),(zci t.2.2.2)]],true,[]⟩
def QfE (x0:((List Int) × Int × Int)):(List Int) × (((List Int) × Int × Int)):=Classical.epsilon fun t:(List Int) × (((List Int) × Int × Int))=>(QiV x0 t)∧TCon Tryz.prog 107 [(.bx [(.c (.sl [(.int .u8)]) x0.1),(.c TI x0.2.1),(.c TI x0.2.2)])] (QbB t)
def QnN:TRow:=Qg 107 [(.b [(.sl [(.int .u8)]),TI,TI])] fun x=>(some (Qv x.1),QbB (QfE x.1))
def QPQ:List TRow:=[Js,Qfu,Qgh,Qb7]
def QBD:TCode :=
 (zsq [(.reg [zmv 2 (.k (.n [TI]))]),(.reg [zmv 4 0,zmv 5 0,zca 6 108 [5,(zki 4)],zbi 7 .add (zki 1) 6,zca 8 105 [4,7],zmv 3 8]),(zsq [(.reg [zmv 9 0,zca 10 108 [9,(zki 16)]]),(.block 0 (zsq [(.reg [zbi 12 .eql 10 (zki 0),zmv 11 12]),(.cond 11 (.reg [zmv 13 3,zmv 14 0,zca 15 182 [14],zia 16 13 (zki 0) [TI],zst 16 15 1]) (zsq [(.reg [zbi 18 .eql 10 (zki 1),zmv 17 18]),(.cond 17 (zsq [(.reg [zmv 19 0,zmv 20 0,zop 21 (.bsl 3 [TI] [(zki 0),(zki 6),(zki 7)]),zca 22 145 [20,21],zca 23 105 [19,22],zmv 2 23]),.ret]) .skip)]))]))]),(.reg [zmv 24 3,zmv 2 24]),.ret])
def QJy:List (ARv × Md):=[(.t 2,.one .d)]
theorem QLV (c:((List Int) × Int × Int)) (h :
 let z3:=Qe c (4:Int)
 let z1:=Z9 (z3.2) (w64 ((1:Int)+(z3.1)))
 let z2:=Qe (z1.2) (16:Int)
 (((Ze c (4:Int))∧(Jy (z3.2) (w64 ((1:Int)+(z3.1)))))∧((Ze (z1.2) (16:Int))∧(zif ((z2.1)==(0:Int)) (((Qv (z2.2))∧(((0:Int)≤(0:Int)∧Int.toNat (0:Int)<(z1.1).length)∧((0+(Int.toNat (0:Int)))<(z1.1).length)))∧K (QbB ((List.take ((z1.1).length) (List.drop 0 ((z1.1).set (0+(Int.toNat (0:Int))) ((Qco (z2.2)).1)))),((Qco (z2.2)).2)))) (zif ((z2.1)==(1:Int)) (((Y0 (z2.2) ([(0:Int),(6:Int),(7:Int)]))∧(Jy ((Zt (z2.2) ([(0:Int),(6:Int),(7:Int)])).2) ((Zt (z2.2) ([(0:Int),(6:Int),(7:Int)])).1)))∧K (QbB ((List.take (((Z9 ((Zt (z2.2) ([(0:Int),(6:Int),(7:Int)])).2) ((Zt (z2.2) ([(0:Int),(6:Int),(7:Int)])).1)).1).length) (List.drop 0 ((Z9 ((Zt (z2.2) ([(0:Int),(6:Int),(7:Int)])).2) ((Zt (z2.2) ([(0:Int),(6:Int),(7:Int)])).1)).1))),((Z9 ((Zt (z2.2) ([(0:Int),(6:Int),(7:Int)])).2) ((Zt (z2.2) ([(0:Int),(6:Int),(7:Int)])).1)).2)))) (K (QbB ((List.take ((z1.1).length) (List.drop 0 (z1.1))),(z2.2))))))))):Hold (tawp QPQ (1+0) QBD (TQ 1 0 QJy K) (Qf [(.bx [(.c (.sl [(.int .u8)]) c.1),(.c TI c.2.1),(.c TI c.2.2)])])) :=
 Hold.of (by kernel_rfl) h
theorem QqV (c:((List Int) × Int × Int)) (hp:Qv c):∃ t:(List Int) × (((List Int) × Int × Int)),(QiV c t)∧TCon Tryz.prog 107 [(.bx [(.c (.sl [(.int .u8)]) c.1),(.c TI c.2.1),(.c TI c.2.2)])] (QbB t):=by
 refine YM (tcx (n:=25) (sg:=QnN.sg) Qj (TOk.cons JT (TOk.cons Qk1 (TOk.cons QAd (TOk.cons QdY TOk.nil)))) (by kernel_rfl) (by kernel_rfl) (QLV (fun r'=>∃ t,(QiV c t)∧r'=QbB t) c ?_))
 conv=>zeta
 have b1:=Z4 c 4 hp
 generalize Qe c 4=r1 at b1 ⊢
 have h1:=b1.1
 have h2:=b1.2.1 (by omega)
 rw [Qo (x:=1+r1.1) (by omega) (by omega)]
 have hv:Jy r1.2 (1+r1.1):=⟨b1.2.2.2,by omega⟩
 have b2:=Qfz _ _ hv
 generalize Z9 r1.2 (1+r1.1)=r2 at b2 ⊢
 have b3:=Z4 r2.2 16 b2.2.2
 generalize Qe r2.2 16=r3 at b3 ⊢
 have hc:=b3.2.2.2
 have hl:=b2.1
 have hpk:Y0 r3.2 [0,6,7]:=⟨hc,by simp,by simp⟩
 have b4:=QdC _ _ hpk
 have b5:=b4.1
 simp only [List.mem_cons,List.not_mem_nil,or_false] at b5
 have hv2:Jy (Zt r3.2 [0,6,7]).2 (Zt r3.2 [0,6,7]).1:=⟨b4.2,by omega⟩
 have b6:=Qfz _ _ hv2
 have hl2:=b6.1
 refine ⟨⟨hp,hv⟩,b2.2.2,fun _=>⟨⟨hc,⟨by omega,?_⟩,?_⟩,Q5 ⟨?_,QzD _ hc⟩⟩,fun _=>⟨fun _=>⟨⟨hpk,hv2⟩,Q5 ⟨?_,b6.2.2⟩⟩,fun _=>(Q5 ⟨?_,hc⟩)⟩⟩ <;> (simp;omega)
theorem QFi (c:((List Int) × Int × Int)) (hp:Qv c):QiV c (QfE c):=(Classical.epsilon_spec (QqV c hp)).1
theorem QJ4 (c:((List Int) × Int × Int)) (hp:Qv c):TCon Tryz.prog 107 [(.bx [(.c (.sl [(.int .u8)]) c.1),(.c TI c.2.1),(.c TI c.2.2)])] (QbB (QfE c)):=(Classical.epsilon_spec (QqV c hp)).2
theorem QHz:Qh Tryz.prog QnN:=Qk fun x h=>QJ4 x.1 h
def Qbx (t:TOp' × (((List Int) × Int × Int))):TRes:=⟨(.a [(zci t.1.1),(zci t.1.2.1),(zci t.1.2.2.1),(.r [TI] 0 0 ((t.1.2.2.2).length))]),[(.sl 3 [TI] true t.1.2.2.2)],[[(zcs [(.int .u8)] t.2.1),(zci t.2.2.1),(zci t.2.2.2)]],true,[]⟩
def e_op (x0:((List Int) × Int × Int)) (x1:Int):TOp' × (((List Int) × Int × Int)):=Classical.epsilon fun t:TOp' × (((List Int) × Int × Int))=>(q_op x0 x1 t)∧TCon Tryz.prog 223 [(.bx [(.c (.sl [(.int .u8)]) x0.1),(.c TI x0.2.1),(.c TI x0.2.2)]),(.c TI x1)] (Qbx t)
def Qio:TRow:=Qg 223 [(.b [(.sl [(.int .u8)]),TI,TI]),(.c TI)] fun x=>(some (p_op x.1 x.2.1),Qbx (e_op x.1 x.2.1))
def QrP:List TRow:=[Js,Qhp,Qfu]
def Qvy:TCode :=
 (zsq [(.reg [zmv 19 0,zLd 20 5 4,zca 21 202 [20],zca 22 105 [19,21],zfa 23 5 3,zst 23 22 1]),(.reg [zLd 24 5 4,zst 4 24 4]),.ret])
def QNi:List (Nat × Md):=[(0,.b [.d,.d,.d]),(4,.b (zds 4)),(5,.b (zds 4))]
def QGo:TCode:=.wk QNi Qvy
def QCg:TCode :=
 (zsq [(.reg [zop 4 (.new 69 (z0s ctOp))]),(.reg [zmv 6 0,zca 7 108 [6,(zki 5)],zbi 8 .add (zki 1) 7,zmv 9 1,zmv 10 1,zop 11 (.build (z0s ctOp) [(0,1,8),(1,1,9),(2,1,10)]),zop 5 (.new 69 (z0s ctOp)),zst 5 11 4]),(zsq [(.reg [zfa 12 5 0,zld 13 12 1,zbi 14 .eql 13 (zki 1)]),(.cond 14 (.reg [zmv 15 0,zca 16 108 [15,(zki 3)],zbi 17 .add (zki 1) 16,zfa 18 5 2,zst 18 17 1]) .skip)]),QGo])
def Qy3:List (ARv × Md):=[(.l 4 4 true,.b [.d,.d,.d,.o 3])]
def QH3:Qb:=TQ 1 0 Qy3 K
@[irreducible] def QgM (c:((List Int) × Int × Int)) (inn:Int) (c0:List Int) (c1:Int) (c2:Int) (o2:Int):Prop:=tawp QrP 1 Qvy (QH3 K) ⟨[(0,(.p 0 0 0)),(4,(.p 1 0 0)),(5,(.p 2 0 0))],[(0,(.box [(zcs [(.int .u8)] c0),(zci c1),(zci c2)])),(1,(.box (Tup.cells ctOp ((0:Int),(0:Int),(0:Int),[])))),(2,(.box (Tup.cells ctOp (w64 ((1:Int)+((Qe c (5:Int)).1)),inn,o2,[]))))],3⟩
theorem QCk (c:((List Int) × Int × Int)) (inn:Int) (c0:List Int) (c1:Int) (c2:Int) (o2:Int) (h :
 ((Jy (c0,c1,c2) (Z2 (w64 ((1:Int)+((Qe c (5:Int)).1)),inn,o2,[])))∧K (Qbx ((w64 ((1:Int)+((Qe c (5:Int)).1)),inn,o2,(List.take (((Z9 (c0,c1,c2) (Z2 (w64 ((1:Int)+((Qe c (5:Int)).1)),inn,o2,[]))).1).length) ((Z9 (c0,c1,c2) (Z2 (w64 ((1:Int)+((Qe c (5:Int)).1)),inn,o2,[]))).1))),((Z9 (c0,c1,c2) (Z2 (w64 ((1:Int)+((Qe c (5:Int)).1)),inn,o2,[]))).2))))):Hold (QgM K c inn c0 c1 c2 o2) :=
 Hold.of (by kernel_rfl) h
theorem QDR (c:((List Int) × Int × Int)) (inn:Int) (h :
 ((Ze c (5:Int))∧(zif ((w64 ((1:Int)+((Qe c (5:Int)).1)))==(1:Int)) ((Ze ((Qe c (5:Int)).2) (3:Int))∧(QgM K c inn (((Qe ((Qe c (5:Int)).2) (3:Int)).2).1) (((Qe ((Qe c (5:Int)).2) (3:Int)).2).2.1) (((Qe ((Qe c (5:Int)).2) (3:Int)).2).2.2) (w64 ((1:Int)+((Qe ((Qe c (5:Int)).2) (3:Int)).1))))) (QgM K c inn (((Qe c (5:Int)).2).1) (((Qe c (5:Int)).2).2.1) (((Qe c (5:Int)).2).2.2) inn)))):Hold (tawp QrP (1+0) QCg (TQ 1 0 Qy3 K) (Qf [(.bx [(.c (.sl [(.int .u8)]) c.1),(.c TI c.2.1),(.c TI c.2.2)]),(.c TI inn)])) :=
 Hold.of (by kernel_rfl) h
theorem QtV (c:((List Int) × Int × Int)) (inn:Int) (hp:p_op c inn):∃ t:TOp' × (((List Int) × Int × Int)),(q_op c inn t)∧TCon Tryz.prog 223 [(.bx [(.c (.sl [(.int .u8)]) c.1),(.c TI c.2.1),(.c TI c.2.2)]),(.c TI inn)] (Qbx t):=by
 refine YM (tcx (n:=25) (sg:=Qio.sg) Qj (TOk.cons JT (TOk.cons Qsm (TOk.cons Qk1 TOk.nil))) (by kernel_rfl) (by kernel_rfl) (QDR (fun r'=>∃ t,(q_op c inn t)∧r'=Qbx t) c inn ?_))
 have b1:=Z4 c 5 hp.1
 have h1:=b1.1
 have h2:=b1.2.1 (by omega)
 obtain ⟨_,h3,h4⟩:=hp
 have hw:w64 (1+(Qe c 5).1)=1+(Qe c 5).1:=Qo (by omega) (by omega)
 have key:∀ c0 c1 c2 o2,Qv (c0,c1,c2)→1≤o2→o2≤3→(1+(Qe c 5).1=1∨inn=o2)→QgM (fun r'=>∃ t,(q_op c inn t)∧r'=Qbx t) c inn c0 c1 c2 o2:=by
  intro c0 c1 c2 o2 hc k1 k2 k3
  refine (QCk (fun r'=>∃ t,(q_op c inn t)∧r'=Qbx t) c inn c0 c1 c2 o2 ?_).h
  rw [hw]
  have h5:1≤1+(Qe c 5).1:=by omega
  have h6:1+(Qe c 5).1≤5:=by omega
  generalize 1+(Qe c 5).1=o1 at h5 h6 k3 ⊢
  have hs:=QoB o1 [] h3 h4 k1 k2
  have hv:Jy (c0,c1,c2) (Z2 (o1,inn,o2,[])):=⟨hc,by omega⟩
  have b:=Qfz _ _ hv
  have hl:=b.1
  refine ⟨hv,Q5 ⟨?_,rfl,k1,k2,?_,b.2.2⟩⟩
  ·simp only [List.take_length]
   exact QGm h5 h6 h3 h4 k1 k2 k3 hl b.2.1
  ·simp;omega
 have b2:=Z4 (Qe c 5).2 3 b1.2.2.2
 have h7:=b2.1
 have h8:=b2.2.1 (by omega)
 rw [hw] at *
 refine ⟨‹Qv c›,fun h=>⟨b1.2.2.2,?_⟩,fun _=>key _ _ _ _ b1.2.2.2 h3 h4 (.inr rfl)⟩
 rw [Qo (x:=1+(Qe (Qe c 5).2 3).1) (by omega) (by omega)]
 exact key _ _ _ _ b2.2.2.2 (by omega) (by omega) (.inl (by simpa using h))
theorem QzN (c:((List Int) × Int × Int)) (inn:Int) (hp:p_op c inn):q_op c inn (e_op c inn):=(Classical.epsilon_spec (QtV c inn hp)).1
theorem QCT (c:((List Int) × Int × Int)) (inn:Int) (hp:p_op c inn):TCon Tryz.prog 223 [(.bx [(.c (.sl [(.int .u8)]) c.1),(.c TI c.2.1),(.c TI c.2.2)]),(.c TI inn)] (Qbx (e_op c inn)):=(Classical.epsilon_spec (QtV c inn hp)).2
theorem QzB:Qh Tryz.prog Qio:=Qk fun x h=>QCT x.1 x.2.1 h
def Qap (t:TOp' × (((List Int) × Int × Int))):TRes:=⟨(.a (Tup.cells ctOp t.1)),[],[[(zcs [(.int .u8)] t.2.1),(zci t.2.2.1),(zci t.2.2.2)]],true,[]⟩
def QeG (x0:((List Int) × Int × Int)):TOp' × (((List Int) × Int × Int)):=Classical.epsilon fun t:TOp' × (((List Int) × Int × Int))=>(Qi7 x0 t)∧TCon Tryz.prog 201 [(.bx [(.c (.sl [(.int .u8)]) x0.1),(.c TI x0.2.1),(.c TI x0.2.2)])] (Qap t)
def QjJ:TRow:=Qg 201 [(.b [(.sl [(.int .u8)]),TI,TI])] fun x=>(some (Qv x.1),Qap (QeG x.1))
def QDA:List TRow:=[Js,Qio,Qb7,Qgh]
def QPq:TCode :=
 (zsq [(.reg [zop 2 (.new 69 (z0s ctOp))]),(.reg [zmv 4 0,zmv 5 0,zca 6 108 [5,(zki 3)],zbi 7 .add (zki 1) 6,zca 8 223 [4,7],zop 3 (.new 69 (z0s ctOp)),zst 3 8 4]),(zsq [(.reg [zmv 9 0,zca 10 108 [9,(zki 14)]]),(.block 0 (zsq [(.reg [zbi 12 .eql 10 (zki 0),zmv 11 12]),(.cond 11 (.reg [zmv 13 0,zca 14 108 [13,(zki 8)],zbi 15 .sub 14 (zki 1),zfa 16 3 0,zst 16 15 1]) (zsq [(.reg [zbi 18 .eql 10 (zki 1),zmv 17 18]),(.cond 17 (.reg [zmv 19 0,zfa 20 3 1,zld 21 20 1,zbi 22 .add 21 (zki 1),zop 23 (.bsl 3 [TI] [(zki 0),(zki 7),22]),zca 24 145 [19,23],zfa 25 3 1,zst 25 24 1]) (zsq [(.reg [zbi 27 .eql 10 (zki 2),zmv 26 27]),(.cond 26 (.reg [zfa 28 3 3,zld 29 28 1,zop 30 (.bsl 3 [TI] [(zki 0)]),zop 31 (.app 29 30 3 [TI]),zfa 32 3 3,zst 32 31 1]) (zsq [(.reg [zbi 34 .eql 10 (zki 3),zmv 33 34]),(.cond 33 (zsq [(.reg [zfa 35 3 3,zld 36 35 1,zle 37 36,zbi 38 .gtr 37 (zki 0)]),(.cond 38 (.draw [zfa 39 3 3,zld 40 39 1,zmv 41 0,zca 42 182 [41],zia 43 40 (zki 0) [TI],zst 43 42 1] [(0,3),(1,3)]) .skip)]) .skip)]))]))]))]))]),(.reg [zLd 44 3 4,zst 2 44 4]),.ret])
def QIl:List (ARv × Md):=[(.l 2 4 true,.b (zds 4))]
theorem QAC (c:((List Int) × Int × Int)) (h :
 let z4:=Qe c (3:Int)
 let z1:=e_op (z4.2) (w64 ((1:Int)+(z4.1)))
 let z2:=Qe (z1.2) (14:Int)
 let z3:=List.take (((z1.1).2.2.2).length) (List.drop 0 ((z1.1).2.2.2))
 (((Ze c (3:Int))∧(p_op (z4.2) (w64 ((1:Int)+(z4.1)))))∧((Ze (z1.2) (14:Int))∧(zif ((z2.1)==(0:Int)) ((Ze (z2.2) (8:Int))∧K (Qap ((w64 (((Qe (z2.2) (8:Int)).1)-(1:Int)),(z1.1).2.1,(z1.1).2.2.1,z3),((Qe (z2.2) (8:Int)).2)))) (zif ((z2.1)==(1:Int)) ((Y0 (z2.2) ([(0:Int),(7:Int),w64 (((z1.1).2.1)+(1:Int))]))∧K (Qap (((z1.1).1,(Zt (z2.2) ([(0:Int),(7:Int),w64 (((z1.1).2.1)+(1:Int))])).1,(z1.1).2.2.1,z3),((Zt (z2.2) ([(0:Int),(7:Int),w64 (((z1.1).2.1)+(1:Int))])).2)))) (zif ((z2.1)==(2:Int)) (((((z1.1).2.2.2).length=((z1.1).2.2.2).length∨((z1.1).2.2.2).length+1≤((z1.1).2.2.2).length)∧((z1.1).2.2.2).length+1≤big)∧K (Qap (((z1.1).1,(z1.1).2.1,(z1.1).2.2.1,(List.take (((z1.1).2.2.2).length+1) (List.drop 0 ((List.take (((z1.1).2.2.2).length) ((z1.1).2.2.2))++([(0:Int)]))))),(z2.2)))) (zif ((z2.1)==(3:Int)) (zif (decide (((((z1.1).2.2.2).length:Nat):Int)>(0:Int))) (((Qv (z2.2))∧(((0:Int)≤(0:Int)∧Int.toNat (0:Int)<((z1.1).2.2.2).length)∧((0+(Int.toNat (0:Int)))<((z1.1).2.2.2).length)))∧K (Qap (((z1.1).1,(z1.1).2.1,(z1.1).2.2.1,(List.take (((z1.1).2.2.2).length) (List.drop 0 (((z1.1).2.2.2).set (0+(Int.toNat (0:Int))) ((Qco (z2.2)).1))))),((Qco (z2.2)).2)))) (K (Qap (((z1.1).1,(z1.1).2.1,(z1.1).2.2.1,z3),(z2.2))))) (K (Qap (((z1.1).1,(z1.1).2.1,(z1.1).2.2.1,z3),(z2.2))))))))))):Hold (tawp QDA (1+0) QPq (TQ 1 0 QIl K) (Qf [(.bx [(.c (.sl [(.int .u8)]) c.1),(.c TI c.2.1),(.c TI c.2.2)])])) :=
 Hold.of (by kernel_rfl) h
theorem QtT (c:((List Int) × Int × Int)) (hp:Qv c):∃ t:TOp' × (((List Int) × Int × Int)),(Qi7 c t)∧TCon Tryz.prog 201 [(.bx [(.c (.sl [(.int .u8)]) c.1),(.c TI c.2.1),(.c TI c.2.2)])] (Qap t):=by
 refine YM (tcx (n:=45) (sg:=QjJ.sg) Qj (TOk.cons JT (TOk.cons QzB (TOk.cons QdY (TOk.cons QAd TOk.nil)))) (by kernel_rfl) (by kernel_rfl) (QAC (fun r'=>∃ t,(Qi7 c t)∧r'=Qap t) c ?_))
 conv=>zeta
 have b1:=Z4 c 3 hp
 generalize Qe c 3=r1 at b1 ⊢
 have h1:=b1.1
 have h2:=b1.2.1 (by omega)
 rw [Qo (x:=1+r1.1) (by omega) (by omega)]
 have ho:p_op r1.2 (1+r1.1):=⟨b1.2.2.2,by omega,by omega⟩
 have b2:=QzN _ _ ho
 generalize e_op r1.2 (1+r1.1)=r2 at b2 ⊢
 have hl:=b2.2.2.2.2.1
 have hc2:=b2.2.2.2.2.2
 have b3:=(Z4 r2.2 14 hc2).2.2.2
 generalize Qe r2.2 14=r3 at b3 ⊢
 refine ⟨⟨hp,ho⟩,hc2,fun _=>⟨b3,Q5 ⟨?_,(Z4 _ _ b3).2.2.2⟩⟩,fun _=>⟨fun _=>⟨⟨b3,by simp,by simp⟩,Q5 ⟨?_,(QdC _ _ ⟨b3,by simp,by simp⟩).2⟩⟩,fun _=>⟨fun _=>⟨⟨.inl rfl,by rw [Zi];omega⟩,Q5 ⟨?_,b3⟩⟩,fun _=>⟨fun _=>⟨fun hh=>⟨⟨b3,⟨by omega,by simpa using hh⟩,by simpa using hh⟩,Q5 ⟨?_,QzD _ b3⟩⟩,fun _=>(Q5 ⟨?_,b3⟩)⟩,fun _=>(Q5 ⟨?_,b3⟩)⟩⟩⟩⟩
 all_goals first
  | (simp;omega)
  | omega
  | skip
theorem QEL (c:((List Int) × Int × Int)) (hp:Qv c):Qi7 c (QeG c):=(Classical.epsilon_spec (QtT c hp)).1
theorem QAW (c:((List Int) × Int × Int)) (hp:Qv c):TCon Tryz.prog 201 [(.bx [(.c (.sl [(.int .u8)]) c.1),(.c TI c.2.1),(.c TI c.2.2)])] (Qap (QeG c)):=(Classical.epsilon_spec (QtT c hp)).2
theorem QLo:Qh Tryz.prog QjJ:=Qk fun x h=>QAW x.1 h
def Qbe (t:(List TOp') × (((List Int) × Int × Int))):TRes:=⟨(.a [(.r ctOp 0 0 ((t.1).length))]),[(.sl 69 ctOp true t.1)],[[(zcs [(.int .u8)] t.2.1),(zci t.2.2.1),(zci t.2.2.2)]],true,[]⟩
def Zb (x0:((List Int) × Int × Int)):(List TOp') × (((List Int) × Int × Int)):=Classical.epsilon fun t:(List TOp') × (((List Int) × Int × Int))=>(QcO x0 t)∧TCon Tryz.prog 198 [(.bx [(.c (.sl [(.int .u8)]) x0.1),(.c TI x0.2.1),(.c TI x0.2.2)])] (Qbe t)
def Qip:TRow:=Qg 198 [(.b [(.sl [(.int .u8)]),TI,TI])] fun x=>(some (Qv x.1),Qbe (Zb x.1))
def Qol:List TRow:=[Js,Qio]
def QoS:TCode :=
 (zsq [(zsq [(.reg [zmv 14 5,zbi 15 .gtr 14 (zki 0)]),(.cond 15 .skip (.exit 0))]),(.block 1 (zsq [(.reg [zmv 18 0,zmv 19 4,zca 20 223 [18,19],zop 6 (.new 69 (z0s ctOp)),zst 6 20 4]),(.reg [zfa 21 3 0,zld 22 21 1,zLd 23 6 4,zop 24 (.bsl 69 ctOp [23]),zop 25 (.app 22 24 69 ctOp),zfa 26 3 0,zst 26 25 1]),(.reg [zfa 27 6 2,zld 28 27 1,zmv 4 28])])),(.reg [zmv 16 5,zbi 17 .sub 16 (zki 1),zmv 5 17])])
def Qpm:List (Nat × Md):=[(0,.b [.d,.d,.d]),(2,.b [.d]),(3,.b [.o 69]),(4,.one .d),(5,.one .d)]
def Qsf:TCode :=
 (zsq [(.reg [zLd 29 3 1,zst 2 29 1]),.ret])
def QI0:TCode :=
 (zsq [(.reg [zop 2 (.new 26 [(.n ctOp)])]),(.reg [zop 7 (.build [(.n ctOp)] []),zop 3 (.new 26 [(.n ctOp)]),zst 3 7 1]),(.reg [zmv 8 0,zca 9 108 [8,(zki 3)],zbi 10 .add (zki 1) 9,zmv 4 10]),(zsq [(.reg [zmv 11 0,zca 12 108 [11,(zki 6)],zbi 13 .add (zki 1) 12,zmv 5 13]),(.block 0 (.loop Qpm QoS))]),Qsf])
def QsG:List (ARv × Md):=[(.l 2 1 true,.b [.o 69])]
def Qsl:Qb:=TQ 1 0 QsG K
def QP5:Qb:=Qseq (tawp Qol 1 Qsf (Qsl K)) (Qsl K)
def QDO:Qb:=Qblk 0 (QP5 K)
def Qg9 (inn:Int) (n:Int) (c0:List Int) (c1:Int) (c2:Int) (m0:List TOp'):Prop:=Loop Qol 1 Qpm QoS (QDO K) ⟨[(0,(.p 0 0 0)),(2,(.p 1 0 0)),(3,(.p 3 0 0)),(4,(zci inn)),(5,(zci n))],[(0,(.box [(zcs [(.int .u8)] c0),(zci c1),(zci c2)])),(1,(.box [(zcs ctOp ([]))])),(2,(.sl 69 ctOp true m0)),(3,(.box [(.r ctOp 2 0 m0.length)]))],4⟩
theorem Qo1 (inn:Int) (n:Int) (c0:List Int) (c1:Int) (c2:Int) (m0:List TOp') (h :
 (zif (decide (n>(0:Int))) ((p_op (c0,c1,c2) inn)∧(((m0.length=m0.length∨m0.length+1≤m0.length)∧m0.length+1≤big)∧(Qg9 K (((e_op (c0,c1,c2) inn).1).2.2.1) (w64 (n-(1:Int))) (((e_op (c0,c1,c2) inn).2).1) (((e_op (c0,c1,c2) inn).2).2.1) (((e_op (c0,c1,c2) inn).2).2.2) (List.take (m0.length+1) ((List.take m0.length m0)++([(((e_op (c0,c1,c2) inn).1).1,((e_op (c0,c1,c2) inn).1).2.1,((e_op (c0,c1,c2) inn).1).2.2.1,(List.take ((((e_op (c0,c1,c2) inn).1).2.2.2).length) (List.drop 0 (((e_op (c0,c1,c2) inn).1).2.2.2))))])))))) (K (Qbe ((List.take m0.length m0),(c0,c1,c2)))))):Qg9 K inn n c0 c1 c2 m0 :=
 Loop.of (by kernel_rfl) h
theorem QQV (c:((List Int) × Int × Int)) (h :
 ((Ze c (3:Int))∧((Ze ((Qe c (3:Int)).2) (6:Int))∧(Qg9 K (w64 ((1:Int)+((Qe c (3:Int)).1))) (w64 ((1:Int)+((Qe ((Qe c (3:Int)).2) (6:Int)).1))) (((Qe ((Qe c (3:Int)).2) (6:Int)).2).1) (((Qe ((Qe c (3:Int)).2) (6:Int)).2).2.1) (((Qe ((Qe c (3:Int)).2) (6:Int)).2).2.2) ([]:List TOp'))))):Hold (tawp Qol (1+0) QI0 (TQ 1 0 QsG K) (Qf [(.bx [(.c (.sl [(.int .u8)]) c.1),(.c TI c.2.1),(.c TI c.2.2)])])) :=
 Hold.of (by kernel_rfl) h
theorem QsA (c:((List Int) × Int × Int)) (hp:Qv c):∃ t:(List TOp') × (((List Int) × Int × Int)),(QcO c t)∧TCon Tryz.prog 198 [(.bx [(.c (.sl [(.int .u8)]) c.1),(.c TI c.2.1),(.c TI c.2.2)])] (Qbe t):=by
 refine YM (tcx (n:=30) (sg:=Qip.sg) Qj (TOk.cons JT (TOk.cons QzB TOk.nil)) (by kernel_rfl) (by kernel_rfl) (QQV (fun r'=>∃ t,(QcO c t)∧r'=Qbe t) c ?_))
 have b1:=Z4 c 3 hp
 generalize Qe c 3=r1 at b1 ⊢
 have b2:=Z4 r1.2 6 b1.2.2.2
 generalize Qe r1.2 6=r2 at b2 ⊢
 have h1:=b1.1
 have h2:=b1.2.1 (by omega)
 have h3:=b2.1
 have h4:=b2.2.1 (by omega)
 rw [Qo (x:=1+r1.1) (by omega) (by omega),Qo (x:=1+r2.1) (by omega) (by omega)]
 refine ⟨hp,b1.2.2.2,?_⟩
 have key:∀ (k:Nat) (inn c1 c2:Int) (c0:List Int) (m0:QU),Qv (c0,c1,c2)→1≤inn→inn≤3→m0.length+k≤6→1≤m0.length+k→Yf none m0=true→QgN none m0 inn=true→Qg9 (fun r'=>∃ t,(QcO c t)∧r'=Qbe t) inn (k:Int) c0 c1 c2 m0:=by
  intro k
  induction k with
  | zero =>
   intro inn c1 c2 c0 m0 hc k1 k2 k3 k4 k5 k6
   refine Qo1 (fun r'=>∃ t,(QcO c t)∧r'=Qbe t) _ _ _ _ _ _ ⟨fun h=>by simp at h,fun _=>(Q5 ⟨?_,?_,hc⟩)⟩
   ·simp only [List.take_length,Qw,Bool.and_eq_true,QJ]
    exact ⟨by omega,k5⟩
   ·simp only [List.take_length];omega
  | succ k ih =>
   intro inn c1 c2 c0 m0 hc k1 k2 k3 k4 k5 k6
   have ho:p_op (c0,c1,c2) inn:=⟨hc,k1,k2⟩
   have b:=QzN _ _ ho
   refine Qo1 (fun r'=>∃ t,(QcO c t)∧r'=Qbe t) _ _ _ _ _ _ ⟨fun _=>⟨ho,⟨.inl rfl,by rw [Zi];omega⟩,?_⟩,fun h=>by simp at h <;> omega⟩
   rw [Zq,Qo (x:=((k+1:Nat):Int)-1) (by omega) (by omega),show ((k+1:Nat):Int)-1=k by omega]
   refine ih _ _ _ _ _ b.2.2.2.2.2 b.2.2.1 b.2.2.2.1 (by simp;omega) (by simp;omega) (Qqf _ _ _ k5 ?_ ?_) ?_
   ·simp only [List.drop_zero,List.take_length];exact b.1
   ·rw [show (((e_op (c0,c1,c2) inn).1.1,(e_op (c0,c1,c2) inn).1.2.1,(e_op (c0,c1,c2) inn).1.2.2.1,List.take (e_op (c0,c1,c2) inn).1.2.2.2.length (List.drop 0 (e_op (c0,c1,c2) inn).1.2.2.2)):TOp').2.1=inn from b.2.1]
    exact k6
   ·exact QpY _ _ _
 have h:=key (1+r2.1).toNat (1+r1.1) r2.2.2.1 r2.2.2.2 r2.2.1 [] b2.2.2.2 (by omega) (by omega) (by simp;omega) (by simp;omega) rfl rfl
 rw [Int.toNat_of_nonneg (by omega)] at h
 exact h
theorem QpR (c:((List Int) × Int × Int)) (hp:Qv c):QcO c (Zb c):=(Classical.epsilon_spec (QsA c hp)).1
theorem QHU (c:((List Int) × Int × Int)) (hp:Qv c):TCon Tryz.prog 198 [(.bx [(.c (.sl [(.int .u8)]) c.1),(.c TI c.2.1),(.c TI c.2.2)])] (Qbe (Zb c)):=(Classical.epsilon_spec (QsA c hp)).2
theorem QsB:Qh Tryz.prog Qip:=Qk fun x h=>QHU x.1 h
def JO (t:(List TOp') × (((List Int) × Int × Int))):TRes:=⟨(.a [(zcs ctOp t.1)]),[],[[(zcs [(.int .u8)] t.2.1),(zci t.2.2.1),(zci t.2.2.2)]],true,[]⟩
def QgL (x0:((List Int) × Int × Int)):(List TOp') × (((List Int) × Int × Int)):=Classical.epsilon fun t:(List TOp') × (((List Int) × Int × Int))=>(QdE x0 t)∧TCon Tryz.prog 144 [(.bx [(.c (.sl [(.int .u8)]) x0.1),(.c TI x0.2.1),(.c TI x0.2.2)])] (JO t)
def QkD:TRow:=Qg 144 [(.b [(.sl [(.int .u8)]),TI,TI])] fun x=>(some (Qv x.1),JO (QgL x.1))
def QnX:List TRow:=[Qip,Js,QjJ]
def Qzw:TCode :=
 (zsq [(zsq [(.draw [zfa 31 3 0,zld 32 31 1,zle 33 32,zmv 34 0,zca 35 108 [34,(zki 2)],zbi 36 .add (zki 8) 35,zbi 37 .lss 33 36] [(0,4),(1,4),(2,4)]),(.cond 37 .skip (.exit 1))]),(.block 2 (.draw [zfa 38 3 0,zld 39 38 1,zfa 40 3 0,zld 41 40 1,zfa 42 3 0,zld 43 42 1,zle 44 43,zbi 45 .sub 44 (zki 1),zia 46 41 45 ctOp,zfa 47 46 2,zld 48 47 1,zfa 49 3 0,zld 50 49 1,zfa 51 3 0,zld 52 51 1,zle 53 52,zbi 54 .sub 53 (zki 1),zia 55 50 54 ctOp,zfa 56 55 2,zld 57 56 1,zop 58 (.build (z0s ctOp) [(0,1,(zki 3)),(1,1,48),(2,1,57)]),zop 59 (.bsl 69 ctOp [58]),zop 60 (.app 39 59 69 ctOp),zfa 61 3 0,zst 61 60 1] [(0,21),(1,21)]))])
def QrM:List (Nat × Md):=[(0,.b [.d,.d,.d]),(2,.b [.d]),(3,.b [.f])]
def QyT:TCode :=
 (zsq [(.reg [zLd 62 3 1,zst 2 62 1]),.ret])
def QKM:TCode :=
 (zsq [(.reg [zop 2 (.new 26 [(.n ctOp)])]),(.reg [zmv 5 0,zca 6 198 [5],zop 3 (.new 26 [(.n ctOp)]),zst 3 6 1]),(.reg [zmv 7 0,zfa 8 3 0,zld 9 8 1,zle 10 9,zca 11 108 [7,10],zmv 4 11]),(zsq [(.reg [zmv 12 0,zca 13 108 [12,(zki 16)]]),(.block 0 (zsq [(.reg [zbi 15 .eql 13 (zki 0),zmv 14 15]),(.cond 14 (.draw [zfa 16 3 0,zld 17 16 1,zmv 18 4,zmv 19 0,zca 20 201 [19],zia 21 17 18 ctOp,zst 21 20 4] [(0,4),(1,4)]) (zsq [(.reg [zbi 23 .eql 13 (zki 1),zmv 22 23]),(.cond 22 (.reg [zfa 24 3 0,zld 25 24 1,zmv 26 4,zop 27 (.slc 25 none (some 26) ctOp),zfa 28 3 0,zst 28 27 1]) (zsq [(.reg [zbi 30 .eql 13 (zki 2),zmv 29 30]),(.cond 29 (.block 1 (.loop QrM Qzw)) .skip)]))]))]))]),QyT])
def Qr5:List (ARv × Md):=[(.l 2 1 true,.b [.d])]
def Qya:Qb:=TQ 1 0 Qr5 K
def QKH:Qb:=Qseq (tawp QnX 1 QyT (Qya K)) (Qya K)
def QLu:Qb:=Qblk 0 (QKH K)
def QN5:Qb:=Qblk 1 (QLu K)
def Qia (c0:List Int) (c1:Int) (c2:Int) (m0:List TOp'):Prop:=Loop QnX 1 QrM Qzw (QN5 K) ⟨[(0,(.p 0 0 0)),(2,(.p 1 0 0)),(3,(.p 3 0 0))],[(0,(.box [(zcs [(.int .u8)] c0),(zci c1),(zci c2)])),(1,(.box [(zcs ctOp ([]))])),(2,(.sl 69 ctOp true m0)),(3,(.box [(.r ctOp 2 0 m0.length)]))],4⟩
theorem QvE (c0:List Int) (c1:Int) (c2:Int) (m0:List TOp') (h :
 ((Ze (c0,c1,c2) (2:Int))∧(zif (decide (((m0.length:Nat):Int)<(w64 ((8:Int)+((Qe (c0,c1,c2) (2:Int)).1))))) ((((0:Int)≤w64 (((m0.length:Nat):Int)-(1:Int))∧Int.toNat (w64 (((m0.length:Nat):Int)-(1:Int)))<m0.length)∧(((0+(Int.toNat (w64 (((m0.length:Nat):Int)-(1:Int)))))<m0.length)∧(((0:Int)≤w64 (((m0.length:Nat):Int)-(1:Int))∧Int.toNat (w64 (((m0.length:Nat):Int)-(1:Int)))<m0.length)∧(((0+(Int.toNat (w64 (((m0.length:Nat):Int)-(1:Int)))))<m0.length)∧((m0.length=m0.length∨m0.length+1≤m0.length)∧m0.length+1≤big)))))∧(Qia K (((Qe (c0,c1,c2) (2:Int)).2).1) (((Qe (c0,c1,c2) (2:Int)).2).2.1) (((Qe (c0,c1,c2) (2:Int)).2).2.2) (List.take (m0.length+1) ((List.take m0.length m0)++([((3:Int),(gtd dOp m0 (0+(Int.toNat (w64 (((m0.length:Nat):Int)-(1:Int)))))).2.2.1,(gtd dOp m0 (0+(Int.toNat (w64 (((m0.length:Nat):Int)-(1:Int)))))).2.2.1,[])]))))) (K (JO ((List.take m0.length (List.drop 0 m0)),((Qe (c0,c1,c2) (2:Int)).2))))))):Qia K c0 c1 c2 m0 :=
 Loop.of (by kernel_rfl) h
theorem QBj (c:((List Int) × Int × Int)) (h :
 let z1:=Qe ((Zb c).2) ((((Zb c).1).length:Nat):Int)
 let z2:=Qe (z1.2) (16:Int)
 ((Qv c)∧((Ze ((Zb c).2) ((((Zb c).1).length:Nat):Int))∧((Ze (z1.2) (16:Int))∧(zif ((z2.1)==(0:Int)) (((Qv (z2.2))∧(((0:Int)≤z1.1∧Int.toNat (z1.1)<((Zb c).1).length)∧((0+(Int.toNat (z1.1)))<((Zb c).1).length)))∧K (JO ((List.take (((Zb c).1).length) (List.drop 0 (((Zb c).1).set (0+(Int.toNat (z1.1))) ((QeG (z2.2)).1)))),((QeG (z2.2)).2)))) (zif ((z2.1)==(1:Int)) (((0:Int)≤(0:Int)∧(0:Int)≤z1.1∧z1.1≤((((Zb c).1).length:Nat):Int))∧K (JO ((List.take (Int.toNat (z1.1)-Int.toNat (0:Int)) (List.drop 0 ((Zb c).1))),(z2.2)))) (zif ((z2.1)==(2:Int)) (Qia K ((z2.2).1) ((z2.2).2.1) ((z2.2).2.2) (List.take (((Zb c).1).length) ((Zb c).1))) (K (JO ((List.take (((Zb c).1).length) (List.drop 0 ((Zb c).1))),(z2.2))))))))))):Hold (tawp QnX (1+0) QKM (TQ 1 0 Qr5 K) (Qf [(.bx [(.c (.sl [(.int .u8)]) c.1),(.c TI c.2.1),(.c TI c.2.2)])])) :=
 Hold.of (by kernel_rfl) h
theorem QIR (c:((List Int) × Int × Int)) (hp:Qv c):∃ t:(List TOp') × (((List Int) × Int × Int)),(QdE c t)∧TCon Tryz.prog 144 [(.bx [(.c (.sl [(.int .u8)]) c.1),(.c TI c.2.1),(.c TI c.2.2)])] (JO t):=by
 refine YM (tcx (n:=63) (sg:=QkD.sg) Qj (TOk.cons QsB (TOk.cons JT (TOk.cons QLo TOk.nil))) (by kernel_rfl) (by kernel_rfl) (QBj (fun r'=>∃ t,(QdE c t)∧r'=JO t) c ?_))
 conv=>zeta
 have b1:=QpR c hp
 generalize Zb c=r1 at b1 ⊢
 obtain ⟨k1,k2,k3⟩:=b1
 have k4:1≤r1.1.length:=by
  simp only [Qw,Bool.and_eq_true,QJ] at k1
  omega
 have b2:=Z4 r1.2 r1.1.length k3
 generalize Qe r1.2 r1.1.length=r2 at b2 ⊢
 have h1:=b2.1
 have h2:=b2.2.1 (by omega)
 have b3:=(Z4 r2.2 16 b2.2.2.2).2.2.2
 generalize Qe r2.2 16=r3 at b3 ⊢
 refine ⟨hp,k3,b2.2.2.2,fun _=>⟨⟨b3,⟨h1,by omega⟩,by omega⟩,Q5 ⟨?_,(QEL _ b3).2⟩⟩,fun _=>⟨fun _=>⟨⟨by omega,by omega,by omega⟩,Q5 ⟨?_,b3⟩⟩,fun _=>⟨fun _=>?_,fun _=>(Q5 ⟨?_,b3⟩)⟩⟩⟩
 ·simp;omega
 ·simp;omega
 ·rw [List.take_length]
  have key:∀ (k:Nat) (c1 c2:Int) (c0:List Int) (m0:QU),Qv (c0,c1,c2)→1≤m0.length→m0.length+k=9→Qia (fun r'=>∃ t,(QdE c t)∧r'=JO t) c0 c1 c2 m0:=by
   intro k
   induction k with
   | zero =>
    intro c1 c2 c0 m0 hc q1 q2
    have b:=Z4 (c0,c1,c2) 2 hc
    have q3:=b.1
    have q4:=b.2.1 (by omega)
    refine QvE (fun r'=>∃ t,(QdE c t)∧r'=JO t) _ _ _ _ ⟨hc,fun h=>?_,fun _=>(Q5 ⟨?_,b.2.2.2⟩)⟩
    ·rw [Qo (x:=8+_) (by omega) (by omega)] at h
     simp at h;omega
    ·simp;omega
   | succ k ih =>
    intro c1 c2 c0 m0 hc q1 q2
    have b:=Z4 (c0,c1,c2) 2 hc
    refine QvE (fun r'=>∃ t,(QdE c t)∧r'=JO t) _ _ _ _ ⟨hc,fun _=>?_,fun _=>(Q5 ⟨?_,b.2.2.2⟩)⟩
    ·rw [Qo (x:=(m0.length:Int)-1) (by omega) (by omega)]
     refine ⟨⟨⟨by omega,by omega⟩,by omega,⟨by omega,by omega⟩,by omega,.inl rfl,by rw [Zi];omega⟩,?_⟩
     rw [Zq]
     exact ih _ _ _ _ b.2.2.2 (by simp) (by simp;omega)
    ·simp;omega
  exact key (9-r1.1.length) _ _ _ _ b3 k4 (by omega)
 ·simp;omega
theorem QNH (c:((List Int) × Int × Int)) (hp:Qv c):TCon Tryz.prog 144 [(.bx [(.c (.sl [(.int .u8)]) c.1),(.c TI c.2.1),(.c TI c.2.2)])] (JO (QgL c)):=(Classical.epsilon_spec (QIR c hp)).2
theorem QRz:Qh Tryz.prog QkD:=Qk fun x h=>QNH x.1 h
end
end Go.Proofs.YtjbdljkhbglnhaaGreat.Am

