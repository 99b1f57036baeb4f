/- -/
import Derived.Test.YtjbdljkhbglnhaaGreatZGG9
namespace Go.Proofs.YtjbdljkhbglnhaaGreat.Am
open Go Go.RowKit Go.Proofs.YtjbdljkhbglnhaaGreat
set_option linter.all false
set_option maxHeartbeats 2000000
noncomputable section
variable (K:TRes→Prop)
def Qay (t:(((List Int) × Int × Int))):TRes:=⟨(.p 0 0 0),[(.box [(zcs [(.int .u8)] t.1),(zci t.2.1),(zci t.2.2)])],[],true,[]⟩
def QdM (x0:List Int):(((List Int) × Int × Int)):=Classical.epsilon fun t:(((List Int) × Int × Int))=>(QbT x0 t)∧TCon Tryz.prog 69 [(.c (.sl [(.int .u8)]) x0)] (Qay t)
def Qlr:TRow:=Qi 69 [(.c (.sl [(.int .u8)]))] fun x=>(some (JF x.1),Qay (QdM x.1))
def Qks:List TRow:=[]
def QyM:TCode :=
 (zsq [(zsq [(.reg [zmv 8 4,zmv 9 0,zle 10 9,zbi 11 .lss 8 10,zmv 12 11,.grp 12 true [zmv 13 4,zbi 14 .lss 13 (zki 4000)] 15 14]),(.cond 15 .skip (.exit 0))]),(.block 1 (.reg [zmv 18 3,zbi 19 .mul 18 (zki 131),zmv 20 0,zmv 21 4,zia 22 20 21 [(.int .u8)],zld 23 22 1,zop 24 (.conv .i64 23),zbi 25 .add 19 24,zbi 26 .add 25 (zki 7),zbi 27 .and 26 (zki 1073741823),zmv 3 27])),(.reg [zmv 16 4,zbi 17 .add 16 (zki 1),zmv 4 17])])
def Qy0:List (Nat × Md):=zdl [0,3,4]
def Qzh:TCode :=
 (zsq [(.reg [zmv 28 0,zmv 29 3,zop 30 (.build (z0s [(.sl [(.int .u8)]),TI,TI]) [(0,1,28),(2,1,29)]),zop 31 (.box 157 30 3),zmv 2 31]),.ret])
def QNw:TCode :=
 (zsq [(.reg [zmv 2 (.k (.c .nilp ()))]),(.reg [zmv 5 0,zle 6 5,zbi 7 .add (zki 10101) 6,zmv 3 7]),(zsq [(.reg [zmv 4 (zki 0)]),(.block 0 (.loop Qy0 QyM))]),Qzh])
def QqT:List (ARv × Md):=[(.t 2,.b [.d,.d,.d])]
def Qon:Qb:=TQ 0 0 QqT K
def QCA:Qb:=Qseq (tawp Qks 0 Qzh (Qon K)) (Qon K)
def Qzm:Qb:=Qblk 0 (QCA K)
def Qel (code:List Int) (h1:Int) (i:Int):Prop:=Loop Qks 0 Qy0 QyM (Qzm K) ⟨[(0,(zcs [(.int .u8)] code)),(3,(zci h1)),(4,(zci i))],[],0⟩
theorem Qx0 (code:List Int) (h1:Int) (i:Int) (h :
 (zif ((decide (i<(code.length:Int)))&&(decide (i<(4000:Int)))) (((0:Int)≤i∧Int.toNat i<code.length)∧(Qel K code (w64 (((BitVec.ofInt (IntKind.i64.bits) (w64 ((w64 ((w64 (h1*(131:Int)))+(w64 ((gtd (0:Int) code (Int.toNat i))))))+(7:Int))) &&& BitVec.ofInt (IntKind.i64.bits) (1073741823:Int)).toNat:Int))) (w64 (i+(1:Int))))) (K (Qay (code,(0:Int),h1))))):Qel K code h1 i :=
 Loop.of (by kernel_rfl) h
theorem QO7 (code:List Int) (h :
 (Qel K code (w64 ((10101:Int)+(code.length:Int))) 0)):Hold (tawp Qks (0+0) QNw (TQ 0 0 QqT K) (Qf [(.c (.sl [(.int .u8)]) code)])) :=
 Hold.of (by kernel_rfl) h
theorem QuZ (code:List Int) (hp:JF code):∃ t:(((List Int) × Int × Int)),(QbT code t)∧TCon Tryz.prog 69 [(.c (.sl [(.int .u8)]) code)] (Qay t):=by
 refine YS (tcx (n:=32) (sg:=Qlr.sg) Qk TOk.nil (by kernel_rfl) (by kernel_rfl) (QO7 (fun r'=>∃ t,(QbT code t)∧r'=Qay t) code ?_))
 have hp':code.length≤1048576:=hp
 suffices h:∀ x:Int,Qel (fun r'=>∃ t,(QbT code t)∧r'=Qay t) code x ((0:Nat):Int) from h _
 refine QaQ (min code.length 4000) (fun k=>∀ x:Int,Qel (fun r'=>∃ t,(QbT code t)∧r'=Qay t) code x (k:Int)) ?_ ?_
 ·intro x
  refine Qx0 (fun r'=>∃ t,(QbT code t)∧r'=Qay t) code _ _ ⟨fun h=>?_,fun _=>(Q9 ⟨Int.le_refl 0,hp⟩)⟩
  simp at h;omega
 ·intro k hk ih x
  refine Qx0 (fun r'=>∃ t,(QbT code t)∧r'=Qay t) code _ _ ⟨fun _=>⟨⟨by omega,by omega⟩,?_⟩,fun h=>?_⟩
  ·rw [sc1 (by omega)];exact ih _
  ·simp at h;omega
theorem QDq (code:List Int) (hp:JF code):QbT code (QdM code):=(Classical.epsilon_spec (QuZ code hp)).1
theorem QOK (code:List Int) (hp:JF code):TCon Tryz.prog 69 [(.c (.sl [(.int .u8)]) code)] (Qay (QdM code)):=(Classical.epsilon_spec (QuZ code hp)).2
theorem QDD:Qj Tryz.prog Qlr:=Ql fun x h=>QOK x.1 h
def QcL (t:Int × (((List Int) × Int × Int))):TRes:=⟨(zci t.1),[],[[(zcs [(.int .u8)] t.2.1),(zci t.2.2.1),(zci t.2.2.2)]],true,[]⟩
def Yg (x0:((List Int) × Int × Int)):Int × (((List Int) × Int × Int)):=Classical.epsilon fun t:Int × (((List Int) × Int × Int))=>(QiD x0 t)∧TCon Tryz.prog 183 [(.bx [(.c (.sl [(.int .u8)]) x0.1),(.c TI x0.2.1),(.c TI x0.2.2)])] (QcL t)
def QkL:TRow:=Qi 183 [(.b [(.sl [(.int .u8)]),TI,TI])] fun x=>(some (Qz x.1),QcL (Yg x.1))
def QFm:List TRow:=[]
def QGa:TCode :=
 (zsq [(.reg [zmv 2 (zki 0)]),(.reg [zmv 4 0,zmv 5 0,zop 6 (.nilc 5),zfa 7 6 2,zld 8 7 1,zbi 9 .mul 8 (zki 6364136223846793005),zbi 10 .add 9 (zki 1442695040888963407),zop 11 (.nilc 4),zfa 12 11 2,zst 12 10 1]),(.draw [zmv 13 0,zop 14 (.nilc 13),zfa 15 14 2,zld 16 15 1,zbi 17 .shr 16 (.k (.c (.int .u64) (33:Int))),zmv 18 0,zop 19 (.nilc 18),zfa 20 19 2,zld 21 20 1,zbi 22 .shr 21 (.k (.c (.int .u64) (45:Int))),zbi 23 .xor 17 22,zbi 24 .and 23 (zki 255),zmv 3 24] []),(zsq [(.draw [zmv 25 0,zop 26 (.nilc 25),zfa 27 26 1,zld 28 27 1,zmv 29 0,zop 30 (.nilc 29),zfa 31 30 0,zld 32 31 1,zle 33 32,zbi 34 .lss 28 33] []),(.cond 34 (zsq [(.draw [zmv 35 3,zmv 36 0,zop 37 (.nilc 36),zfa 38 37 0,zld 39 38 1,zmv 40 0,zop 41 (.nilc 40),zfa 42 41 1,zld 43 42 1,zia 44 39 43 [(.int .u8)],zld 45 44 1,zop 46 (.conv .i64 45),zbi 47 .add 35 46,zbi 48 .and 47 (zki 255),zmv 3 48] []),(.reg [zmv 49 0,zmv 50 0,zop 51 (.nilc 50),zfa 52 51 1,zld 53 52 1,zbi 54 .add 53 (zki 1),zop 55 (.nilc 49),zfa 56 55 1,zst 56 54 1])]) .skip)]),(.reg [zmv 57 3,zmv 2 57]),.ret])
def QKY:List (ARv × Md):=[(.t 2,.one .d)]
theorem QHI (c:((List Int) × Int × Int)) (h :
 let z2:=w64 (c.2.2*(6364136223846793005:Int))
 let z1:=BitVec.ofInt (IntKind.i64.bits) (w64 (((BitVec.ofInt (IntKind.i64.bits) (Int.fdiv (w64 (z2+(1442695040888963407:Int))) (2 ^ (min (Int.toNat (33:Int)) (IntKind.i64.bits)))) ^^^ BitVec.ofInt (IntKind.i64.bits) (Int.fdiv (w64 (z2+(1442695040888963407:Int))) (2 ^ (min (Int.toNat (45:Int)) (IntKind.i64.bits))))).toNat:Int))) &&& BitVec.ofInt (IntKind.i64.bits) (255:Int)
 ((((0:Int)≤(33:Int))∧((0:Int)≤(45:Int)))∧(zif (decide (c.2.1<((c.1).length:Int))) (((0:Int)≤c.2.1∧Int.toNat c.2.1<(c.1).length)∧K (QcL (w64 (((BitVec.ofInt (IntKind.i64.bits) (w64 ((w64 ((z1.toNat:Int)))+(w64 ((gtd (0:Int) c.1 (Int.toNat c.2.1)))))) &&& BitVec.ofInt (IntKind.i64.bits) (255:Int)).toNat:Int)),(c.1,w64 (c.2.1+(1:Int)),w64 (z2+(1442695040888963407:Int)))))) (K (QcL (w64 ((z1.toNat:Int)),(c.1,c.2.1,w64 (z2+(1442695040888963407:Int))))))))):Hold (tawp QFm (1+0) QGa (TQ 1 0 QKY K) (Qf [(.bx [(.c (.sl [(.int .u8)]) c.1),(.c TI c.2.1),(.c TI c.2.2)])])) :=
 Hold.of (by kernel_rfl) h
theorem QuC (c:((List Int) × Int × Int)) (hp:Qz c):∃ t:Int × (((List Int) × Int × Int)),(QiD c t)∧TCon Tryz.prog 183 [(.bx [(.c (.sl [(.int .u8)]) c.1),(.c TI c.2.1),(.c TI c.2.2)])] (QcL t):=by
 refine YS (tcx (n:=58) (sg:=QkL.sg) Qk TOk.nil (by kernel_rfl) (by kernel_rfl) (QHI (fun r'=>∃ t,(QiD c t)∧r'=QcL t) c ?_))
 conv=>zeta
 have h1:=hp.1
 have h2:=hp.2
 refine ⟨⟨by omega,by omega⟩,fun h=>⟨⟨h1,by simp at h;omega⟩,Q9 ⟨(Qg5 _).1,(Qg5 _).2,?_,h2⟩⟩,fun h=>(Q9 ⟨(Qg5 _).1,(Qg5 _).2,h1,h2⟩)⟩
 simp at h
 show 0≤w64 (c.2.1+1)
 rw [Qp (by omega) (by omega)];omega
theorem Qeu (c:((List Int) × Int × Int)) (hp:Qz c):QiD c (Yg c):=(Classical.epsilon_spec (QuC c hp)).1
theorem QNy (c:((List Int) × Int × Int)) (hp:Qz c):TCon Tryz.prog 183 [(.bx [(.c (.sl [(.int .u8)]) c.1),(.c TI c.2.1),(.c TI c.2.2)])] (QcL (Yg c)):=(Classical.epsilon_spec (QuC c hp)).2
theorem QzJ:Qj Tryz.prog QkL:=Ql fun x h=>QNy x.1 h
def QbI (t:Int × (((List Int) × Int × Int))):TRes:=⟨(zci t.1),[],[[(zcs [(.int .u8)] t.2.1),(zci t.2.2.1),(zci t.2.2.2)]],true,[]⟩
def Qe (x0:((List Int) × Int × Int)) (x1:Int):Int × (((List Int) × Int × Int)):=Classical.epsilon fun t:Int × (((List Int) × Int × Int))=>(Qhr x0 x1 t)∧TCon Tryz.prog 108 [(.bx [(.c (.sl [(.int .u8)]) x0.1),(.c TI x0.2.1),(.c TI x0.2.2)]),(.c TI x1)] (QbI t)
def Ju:TRow:=Qi 108 [(.b [(.sl [(.int .u8)]),TI,TI]),(.c TI)] fun x=>(some (Zh x.1 x.2.1),QbI (Qe x.1 x.2.1))
def QGV:List TRow:=[QkL]
def QL8:TCode :=
 (zsq [(.reg [zmv 4 (zki 0)]),(zsq [(.reg [zmv 9 1,zbi 10 .leq 9 (zki 0)]),(.cond 10 (zsq [(.reg [zmv 4 (zki 0)]),.ret]) .skip)]),(zsq [(.reg [zmv 11 1,zbi 12 .leq 11 (zki 256)]),(.cond 12 (zsq [(.reg [zmv 13 0,zca 14 183 [13],zmv 15 1,zbi 16 .rem 14 15,zmv 4 16]),.ret]) .skip)]),(.reg [zmv 17 0,zca 18 183 [17],zmv 5 18]),(.reg [zmv 19 0,zca 20 183 [19],zmv 6 20]),(.reg [zmv 21 0,zca 22 183 [21],zmv 7 22]),(.reg [zmv 23 0,zca 24 183 [23],zmv 8 24]),(.reg [zmv 25 5,zbi 26 .mul 25 (zki 16777216),zmv 27 6,zbi 28 .mul 27 (zki 65536),zbi 29 .add 26 28,zmv 30 7,zbi 31 .mul 30 (zki 256),zbi 32 .add 29 31,zmv 33 8,zbi 34 .add 32 33,zmv 35 1,zbi 36 .rem 34 35,zmv 4 36]),.ret])
def QJa:List (ARv × Md):=[(.t 4,.one .d)]
theorem QzK (c:((List Int) × Int × Int)) (n:Int) (h :
 (zif (decide (n≤(0:Int))) (K (QbI ((0:Int),c))) (zif (decide (n≤(256:Int))) (((Qz c)∧(¬ (n:Int)=0))∧K (QbI ((Int.tmod ((Yg c).1) n),((Yg c).2)))) ((Qz c)∧((Qz ((Yg c).2))∧((Qz ((Yg ((Yg c).2)).2))∧((Qz ((Yg ((Yg ((Yg c).2)).2)).2))∧((¬ (n:Int)=0)∧K (QbI ((Int.tmod (w64 ((w64 ((w64 ((w64 (((Yg c).1)*(16777216:Int)))+(w64 (((Yg ((Yg c).2)).1)*(65536:Int)))))+(w64 (((Yg ((Yg ((Yg c).2)).2)).1)*(256:Int)))))+((Yg ((Yg ((Yg ((Yg c).2)).2)).2)).1))) n),((Yg ((Yg ((Yg ((Yg c).2)).2)).2)).2))))))))))):Hold (tawp QGV (1+0) QL8 (TQ 1 0 QJa K) (Qf [(.bx [(.c (.sl [(.int .u8)]) c.1),(.c TI c.2.1),(.c TI c.2.2)]),(.c TI n)])) :=
 Hold.of (by kernel_rfl) h
theorem Qrx (c:((List Int) × Int × Int)) (n:Int) (hp:Zh c n):∃ t:Int × (((List Int) × Int × Int)),(Qhr c n t)∧TCon Tryz.prog 108 [(.bx [(.c (.sl [(.int .u8)]) c.1),(.c TI c.2.1),(.c TI c.2.2)]),(.c TI n)] (QbI t):=by
 refine YS (tcx (n:=37) (sg:=Ju.sg) Qk (TOk.cons QzJ TOk.nil) (by kernel_rfl) (by kernel_rfl) (QzK (fun r'=>∃ t,(Qhr c n t)∧r'=QbI t) c n ?_))
 refine ⟨fun h=>(Q9 ⟨Int.le_refl 0,fun h2=>by simp at h;omega,fun _=>rfl,hp⟩),fun h=>⟨fun h2=>?_,fun h2=>?_⟩⟩
 ·have b1:=Qeu c hp
  simp at h
  exact ⟨⟨hp,by omega⟩,Q9 ⟨Int.tmod_nonneg _ b1.1,fun h0=>Int.tmod_lt_of_pos _ h0,fun h0=>by omega,b1.2.2⟩⟩
 ·have b1:=Qeu c hp
  have b2:=Qeu _ b1.2.2
  have b3:=Qeu _ b2.2.2
  have b4:=Qeu _ b3.2.2
  simp at h
  refine ⟨hp,b1.2.2,b2.2.2,b3.2.2,by omega,Q9 ⟨Int.tmod_nonneg _ ?_,fun h0=>Int.tmod_lt_of_pos _ h0,fun h0=>by omega,b4.2.2⟩⟩
  have h1:=b1.1
  have h2:=b1.2.1
  have h3:=b2.1
  have h4:=b2.2.1
  have h5:=b3.1
  have h6:=b3.2.1
  have h7:=b4.1
  have h8:=b4.2.1
  clear b1 b2 b3 b4
  rw [Qp (x:=_*16777216) (by omega) (by omega),Qp (x:=_*65536) (by omega) (by omega),Qp (x:=_*256) (by omega) (by omega)]
  rw [Qp (x:=_*16777216+_) (by omega) (by omega),Qp (x:=_+_*256) (by omega) (by omega),Qp (by omega) (by omega)]
  omega
theorem Z8 (c:((List Int) × Int × Int)) (n:Int) (hp:Zh c n):Qhr c n (Qe c n):=(Classical.epsilon_spec (Qrx c n hp)).1
theorem QHZ (c:((List Int) × Int × Int)) (n:Int) (hp:Zh c n):TCon Tryz.prog 108 [(.bx [(.c (.sl [(.int .u8)]) c.1),(.c TI c.2.1),(.c TI c.2.2)]),(.c TI n)] (QbI (Qe c n)):=(Classical.epsilon_spec (Qrx c n hp)).2
theorem J8:Qj Tryz.prog Ju:=Ql fun x h=>QHZ x.1 x.2.1 h
def QdQ (t:Bool × (((List Int) × Int × Int))):TRes:=⟨(zcb t.1),[],[[(zcs [(.int .u8)] t.2.1),(zci t.2.2.1),(zci t.2.2.2)]],true,[]⟩
def ZI (x0:((List Int) × Int × Int)) (x1:Int):Bool × (((List Int) × Int × Int)):=Classical.epsilon fun t:Bool × (((List Int) × Int × Int))=>(QgB x0 x1 t)∧TCon Tryz.prog 106 [(.bx [(.c (.sl [(.int .u8)]) x0.1),(.c TI x0.2.1),(.c TI x0.2.2)]),(.c TI x1)] (QdQ t)
def Qfe:TRow:=Qi 106 [(.b [(.sl [(.int .u8)]),TI,TI]),(.c TI)] fun x=>(some (Zh x.1 x.2.1),QdQ (ZI x.1 x.2.1))
def QKE:List TRow:=[Ju]
def QBO:TCode :=
 (zsq [(.reg [zmv 4 (zkb false)]),(.reg [zmv 5 0,zmv 6 1,zca 7 108 [5,6],zbi 8 .eql 7 (zki 0),zmv 4 8]),.ret])
def QOj:List (ARv × Md):=[(.t 4,.one .d)]
theorem Qz7 (c:((List Int) × Int × Int)) (n:Int) (h :
 ((Zh c n)∧K (QdQ ((((Qe c n).1)==(0:Int)),((Qe c n).2))))):Hold (tawp QKE (1+0) QBO (TQ 1 0 QOj K) (Qf [(.bx [(.c (.sl [(.int .u8)]) c.1),(.c TI c.2.1),(.c TI c.2.2)]),(.c TI n)])) :=
 Hold.of (by kernel_rfl) h
theorem Qxa (c:((List Int) × Int × Int)) (n:Int) (hp:Zh c n):∃ t:Bool × (((List Int) × Int × Int)),(QgB c n t)∧TCon Tryz.prog 106 [(.bx [(.c (.sl [(.int .u8)]) c.1),(.c TI c.2.1),(.c TI c.2.2)]),(.c TI n)] (QdQ t):=by
 refine YS (tcx (n:=9) (sg:=Qfe.sg) Qk (TOk.cons J8 TOk.nil) (by kernel_rfl) (by kernel_rfl) (Qz7 (fun r'=>∃ t,(QgB c n t)∧r'=QdQ t) c n ?_))
 exact ⟨hp,Q9 ((Z8 c n hp).2.2.2)⟩
theorem Qmh (c:((List Int) × Int × Int)) (n:Int) (hp:Zh c n):QgB c n (ZI c n):=(Classical.epsilon_spec (Qxa c n hp)).1
theorem QzR (c:((List Int) × Int × Int)) (n:Int) (hp:Zh c n):TCon Tryz.prog 106 [(.bx [(.c (.sl [(.int .u8)]) c.1),(.c TI c.2.1),(.c TI c.2.2)]),(.c TI n)] (QdQ (ZI c n)):=(Classical.epsilon_spec (Qxa c n hp)).2
theorem QmX:Qj Tryz.prog Qfe:=Ql fun x h=>QzR x.1 x.2.1 h
def QdN (t:Int × (((List Int) × Int × Int))):TRes:=⟨(zci t.1),[],[[(zcs [(.int .u8)] t.2.1),(zci t.2.2.1),(zci t.2.2.2)]],true,[]⟩
def Zt (x0:((List Int) × Int × Int)) (x1:List Int):Int × (((List Int) × Int × Int)):=Classical.epsilon fun t:Int × (((List Int) × Int × Int))=>(Qhy x0 x1 t)∧TCon Tryz.prog 145 [(.bx [(.c (.sl [(.int .u8)]) x0.1),(.c TI x0.2.1),(.c TI x0.2.2)]),(.c (.sl [TI]) x1)] (QdN t)
def Qbv:TRow:=Qi 145 [(.b [(.sl [(.int .u8)]),TI,TI]),(.c (.sl [TI]))] fun x=>(some (YZ x.1 x.2.1),QdN (Zt x.1 x.2.1))
def QNh:List TRow:=[Ju]
def QN1:TCode :=
 (zsq [(.reg [zmv 4 (zki 0)]),(.reg [zmv 5 1,zmv 6 0,zmv 7 1,zle 8 7,zca 9 108 [6,8],zia 10 5 9 [TI],zld 11 10 1,zmv 4 11]),.ret])
def QNn:List (ARv × Md):=[(.t 4,.one .d)]
theorem QIU (c:((List Int) × Int × Int)) (list:List Int) (h :
 (((Zh c (list.length:Int))∧((0:Int)≤(Qe c (list.length:Int)).1∧Int.toNat ((Qe c (list.length:Int)).1)<list.length))∧K (QdN ((gtd (0:Int) list (Int.toNat ((Qe c (list.length:Int)).1))),((Qe c (list.length:Int)).2))))):Hold (tawp QNh (1+0) QN1 (TQ 1 0 QNn K) (Qf [(.bx [(.c (.sl [(.int .u8)]) c.1),(.c TI c.2.1),(.c TI c.2.2)]),(.c (.sl [TI]) list)])) :=
 Hold.of (by kernel_rfl) h
theorem QoG (c:((List Int) × Int × Int)) (list:List Int) (hp:YZ c list):∃ t:Int × (((List Int) × Int × Int)),(Qhy c list t)∧TCon Tryz.prog 145 [(.bx [(.c (.sl [(.int .u8)]) c.1),(.c TI c.2.1),(.c TI c.2.2)]),(.c (.sl [TI]) list)] (QdN t):=by
 refine YS (tcx (n:=12) (sg:=Qbv.sg) Qk (TOk.cons J8 TOk.nil) (by kernel_rfl) (by kernel_rfl) (QIU (fun r'=>∃ t,(Qhy c list t)∧r'=QdN t) c list ?_))
 have b:=Z8 c list.length hp.1
 have h1:=hp.2.1
 have h2:=b.2.1 (by omega)
 have h3:=b.1
 exact ⟨⟨hp.1,h3,by omega⟩,Q9 ⟨Jt (by omega) _,b.2.2.2⟩⟩
theorem Qdr (c:((List Int) × Int × Int)) (list:List Int) (hp:YZ c list):Qhy c list (Zt c list):=(Classical.epsilon_spec (QoG c list hp)).1
theorem QMh (c:((List Int) × Int × Int)) (list:List Int) (hp:YZ c list):TCon Tryz.prog 145 [(.bx [(.c (.sl [(.int .u8)]) c.1),(.c TI c.2.1),(.c TI c.2.2)]),(.c (.sl [TI]) list)] (QdN (Zt c list)):=(Classical.epsilon_spec (QoG c list hp)).2
theorem Qdi:Qj Tryz.prog Qbv:=Ql fun x h=>QMh x.1 x.2.1 h
def Qln (t:Bool):TRes:=zre (zcb t)
def Ql8:TRow:=Qi 13 [(.c (.sl [(.int .u8)]))] fun x=>(none,Qln (Qd1 x.1))
def QAy:List TRow:=[]
def QJJ:TCode :=
 (zsq [(.reg [zmv 2 (zkb false)]),(.reg [zmv 3 0,zle 4 3,zbi 5 .gtr 4 (zki 1048576),zmv 2 5]),.ret])
def QAi:List (ARv × Md):=[(.t 2,.one .d)]
theorem Qzr (code:List Int) (h :
 K (Qln (decide ((code.length:Int)>(1048576:Int))))):Hold (tawp QAy (0+0) QJJ (TQ 0 0 QAi K) (Qf [(.c (.sl [(.int .u8)]) code)])) :=
 Hold.of (by kernel_rfl) h
theorem QAF (code:List Int):TCon Tryz.prog 13 [(.c (.sl [(.int .u8)]) code)] (Qln (Qd1 code)):=by
 refine Qr rfl fun hb=>tcg (n:=6) (sg:=Ql8.sg) Qk TOk.nil (by kernel_rfl) (by kernel_rfl) (Qzr _ code ?_)
 have hl_code:code.length≤9223372036854775807:=hb.1.1
 exact R_eq rfl
theorem QEF:Qj Tryz.prog Ql8:=Ql fun x _=>QAF x.1
def QgC (t:Int):TRes:=zre (zci t)
def Qkb:TRow:=Qi 29 [(.c (.sl [(.int .u8)])),(.c TI)] fun x=>(some (p_at x.1 x.2.1),QgC (m_at x.1 x.2.1))
def QPI:List TRow:=[]
def QD7:TCode :=
 (zsq [(.reg [zmv 4 (zki 0)]),(zsq [(.reg [zmv 5 1,zmv 6 0,zle 7 6,zbi 8 .lss 5 7]),(.cond 8 (zsq [(.reg [zmv 9 0,zmv 10 1,zia 11 9 10 [(.int .u8)],zld 12 11 1,zop 13 (.conv .i64 12),zmv 4 13]),.ret]) .skip)]),(.reg [zmv 14 1,zbi 15 .mul 14 (zki 37),zmv 16 0,zle 17 16,zbi 18 .mul 17 (zki 11),zbi 19 .add 15 18,zbi 20 .rem 19 (zki 256),zmv 4 20]),.ret])
def QHi:List (ARv × Md):=[(.t 4,.one .d)]
theorem QJ6 (code:List Int) (i:Int) (h :
 (zif (decide (i<(code.length:Int))) (((0:Int)≤i∧Int.toNat i<code.length)∧K (QgC (w64 ((gtd (0:Int) code (Int.toNat i)))))) ((¬ ((256:Int):Int)=0)∧K (QgC (Int.tmod (w64 ((w64 (i*(37:Int)))+(w64 ((code.length:Int)*(11:Int))))) (256:Int)))))):Hold (tawp QPI (0+0) QD7 (TQ 0 0 QHi K) (Qf [(.c (.sl [(.int .u8)]) code),(.c TI i)])) :=
 Hold.of (by kernel_rfl) h
theorem QAZ (code:List Int) (i:Int) (hp:p_at code i):TCon Tryz.prog 29 [(.c (.sl [(.int .u8)]) code),(.c TI i)] (QgC (m_at code i)):=by
 refine Qr rfl fun hb=>tcg (n:=21) (sg:=Qkb.sg) Qk TOk.nil (by kernel_rfl) (by kernel_rfl) (QJ6 _ code i ?_)
 have hl_code:code.length≤9223372036854775807:=hb.1.1
 have h0:0≤i:=hp
 refine ⟨fun h=>⟨⟨h0,by simp at h;omega⟩,R_eq ?_⟩,fun h=>⟨by omega,R_eq ?_⟩⟩
 ·rw [m_at,if_pos (by simpa using h)]
 ·rw [m_at,if_neg (by simpa using h)]
theorem QHG:Qj Tryz.prog Qkb:=Ql fun x h=>QAZ x.1 x.2.1 h
end
end Go.Proofs.YtjbdljkhbglnhaaGreat.Am

