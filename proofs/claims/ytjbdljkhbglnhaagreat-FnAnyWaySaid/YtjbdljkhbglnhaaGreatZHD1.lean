/- -/
import Derived.Test.YtjbdljkhbglnhaaGreatZHG9
namespace Go.Proofs.YtjbdljkhbglnhaaGreat.Am
open Go Go.RowKit Go.Proofs.YtjbdljkhbglnhaaGreat
set_option linter.all false
set_option maxHeartbeats 2000000
noncomputable section
variable (K:TRes→Prop)
def Qau (t:(((List Int) × Int × Int))):TRes:=⟨(.p 0 0 0),[(.box [(zcs [(.int .u8)] t.1),(zci t.2.1),(zci t.2.2)])],[],true,[]⟩
def Qd6 (x0:List Int):(((List Int) × Int × Int)):=Classical.epsilon fun t:(((List Int) × Int × Int))=>(Qb2 x0 t)∧TCon Tryz.prog 69 [(.c (.sl [(.int .u8)]) x0)] (Qau t)
def QjQ:TRow:=Qg 69 [(.c (.sl [(.int .u8)]))] fun x=>(some (Y8 x.1),Qau (Qd6 x.1))
def Qj7:List TRow:=[]
def Qtw:TCode :=
 (zsq [(zsq [(.reg [zmv 8 4,zmv 9 0,zle 10 9,zbi 11 .lss 8 10,zmv 12 11,.grp 12 true [zmv 13 4,zbi 14 .lss 13 (zki 4000)] 15 14]),(.cond 15 .skip (.exit 0))]),(.block 1 (.reg [zmv 18 3,zbi 19 .mul 18 (zki 131),zmv 20 0,zmv 21 4,zia 22 20 21 [(.int .u8)],zld 23 22 1,zop 24 (.conv .i64 23),zbi 25 .add 19 24,zbi 26 .add 25 (zki 7),zbi 27 .and 26 (zki 1073741823),zmv 3 27])),(.reg [zmv 16 4,zbi 17 .add 16 (zki 1),zmv 4 17])])
def Qsk:List (Nat × Md):=zdl [0,3,4]
def Qzr:TCode :=
 (zsq [(.reg [zmv 28 0,zmv 29 3,zop 30 (.build (z0s [(.sl [(.int .u8)]),TI,TI]) [(0,1,28),(2,1,29)]),zop 31 (.box 157 30 3),zmv 2 31]),.ret])
def QPS:TCode :=
 (zsq [(.reg [zmv 2 (.k (.c .nilp ()))]),(.reg [zmv 5 0,zle 6 5,zbi 7 .add (zki 10101) 6,zmv 3 7]),(zsq [(.reg [zmv 4 (zki 0)]),(.block 0 (.loop Qsk Qtw))]),Qzr])
def QzG:List (ARv × Md):=[(.t 2,.b [.d,.d,.d])]
def Qt7:Qb:=TQ 0 0 QzG K
def QII:Qb:=Qseq (tawp Qj7 0 Qzr (Qt7 K)) (Qt7 K)
def QK0:Qb:=Qblk 0 (QII K)
def QeM (code:List Int) (h1:Int) (i:Int):Prop:=Loop Qj7 0 Qsk Qtw (QK0 K) ⟨[(0,(zcs [(.int .u8)] code)),(3,(zci h1)),(4,(zci i))],[],0⟩
theorem Qq6 (code:List Int) (h1:Int) (i:Int) (h :
 (zif ((decide (i<(code.length:Int)))&&(decide (i<(4000:Int)))) (((0:Int)≤i∧Int.toNat i<code.length)∧(QeM K code (w64 (((BitVec.ofInt (IntKind.i64.bits) (w64 ((w64 ((w64 (h1*(131:Int)))+(w64 ((gtd (0:Int) code (Int.toNat i))))))+(7:Int))) &&& BitVec.ofInt (IntKind.i64.bits) (1073741823:Int)).toNat:Int))) (w64 (i+(1:Int))))) (K (Qau (code,(0:Int),h1))))):QeM K code h1 i :=
 Loop.of (by kernel_rfl) h
theorem QCB (code:List Int) (h :
 (QeM K code (w64 ((10101:Int)+(code.length:Int))) 0)):Hold (tawp Qj7 (0+0) QPS (TQ 0 0 QzG K) (Qf [(.c (.sl [(.int .u8)]) code)])) :=
 Hold.of (by kernel_rfl) h
theorem Quz (code:List Int) (hp:Y8 code):∃ t:(((List Int) × Int × Int)),(Qb2 code t)∧TCon Tryz.prog 69 [(.c (.sl [(.int .u8)]) code)] (Qau t):=by
 refine YM (tcx (n:=32) (sg:=QjQ.sg) Qj TOk.nil (by kernel_rfl) (by kernel_rfl) (QCB (fun r'=>∃ t,(Qb2 code t)∧r'=Qau t) code ?_))
 have hp':code.length≤1048576:=hp
 suffices h:∀ x:Int,QeM (fun r'=>∃ t,(Qb2 code t)∧r'=Qau t) code x ((0:Nat):Int) from h _
 refine JL (min code.length 4000) (fun k=>∀ x:Int,QeM (fun r'=>∃ t,(Qb2 code t)∧r'=Qau t) code x (k:Int)) ?_ ?_
 ·intro x
  refine Qq6 (fun r'=>∃ t,(Qb2 code t)∧r'=Qau t) code _ _ ⟨fun h=>?_,fun _=>(Q5 ⟨Int.le_refl 0,hp⟩)⟩
  simp at h;omega
 ·intro k hk ih x
  refine Qq6 (fun r'=>∃ t,(Qb2 code t)∧r'=Qau t) code _ _ ⟨fun _=>⟨⟨by omega,by omega⟩,?_⟩,fun h=>?_⟩
  ·rw [sc1 (by omega)];exact ih _
  ·simp at h;omega
theorem QsL (code:List Int) (hp:Y8 code):Qb2 code (Qd6 code):=(Classical.epsilon_spec (Quz code hp)).1
theorem QCV (code:List Int) (hp:Y8 code):TCon Tryz.prog 69 [(.c (.sl [(.int .u8)]) code)] (Qau (Qd6 code)):=(Classical.epsilon_spec (Quz code hp)).2
theorem QBV:Qh Tryz.prog QjQ:=Qk fun x h=>QCV x.1 h
def Qda (t:Int × (((List Int) × Int × Int))):TRes:=⟨(zci t.1),[],[[(zcs [(.int .u8)] t.2.1),(zci t.2.2.1),(zci t.2.2.2)]],true,[]⟩
def Yc (x0:((List Int) × Int × Int)):Int × (((List Int) × Int × Int)):=Classical.epsilon fun t:Int × (((List Int) × Int × Int))=>(Qhg x0 t)∧TCon Tryz.prog 183 [(.bx [(.c (.sl [(.int .u8)]) x0.1),(.c TI x0.2.1),(.c TI x0.2.2)])] (Qda t)
def QjG:TRow:=Qg 183 [(.b [(.sl [(.int .u8)]),TI,TI])] fun x=>(some (Qv x.1),Qda (Yc x.1))
def QKi:List TRow:=[]
def QM0:TCode :=
 (zsq [(.reg [zmv 2 (zki 0)]),(.reg [zmv 4 0,zmv 5 0,zop 6 (.nilc 5),zfa 7 6 2,zld 8 7 1,zbi 9 .mul 8 (zki 6364136223846793005),zbi 10 .add 9 (zki 1442695040888963407),zop 11 (.nilc 4),zfa 12 11 2,zst 12 10 1]),(.draw [zmv 13 0,zop 14 (.nilc 13),zfa 15 14 2,zld 16 15 1,zbi 17 .shr 16 (.k (.c (.int .u64) (33:Int))),zmv 18 0,zop 19 (.nilc 18),zfa 20 19 2,zld 21 20 1,zbi 22 .shr 21 (.k (.c (.int .u64) (45:Int))),zbi 23 .xor 17 22,zbi 24 .and 23 (zki 255),zmv 3 24] []),(zsq [(.draw [zmv 25 0,zop 26 (.nilc 25),zfa 27 26 1,zld 28 27 1,zmv 29 0,zop 30 (.nilc 29),zfa 31 30 0,zld 32 31 1,zle 33 32,zbi 34 .lss 28 33] []),(.cond 34 (zsq [(.draw [zmv 35 3,zmv 36 0,zop 37 (.nilc 36),zfa 38 37 0,zld 39 38 1,zmv 40 0,zop 41 (.nilc 40),zfa 42 41 1,zld 43 42 1,zia 44 39 43 [(.int .u8)],zld 45 44 1,zop 46 (.conv .i64 45),zbi 47 .add 35 46,zbi 48 .and 47 (zki 255),zmv 3 48] []),(.reg [zmv 49 0,zmv 50 0,zop 51 (.nilc 50),zfa 52 51 1,zld 53 52 1,zbi 54 .add 53 (zki 1),zop 55 (.nilc 49),zfa 56 55 1,zst 56 54 1])]) .skip)]),(.reg [zmv 57 3,zmv 2 57]),.ret])
def QOC:List (ARv × Md):=[(.t 2,.one .d)]
theorem QEO (c:((List Int) × Int × Int)) (h :
 let z2:=w64 (c.2.2*(6364136223846793005:Int))
 let z1:=BitVec.ofInt (IntKind.i64.bits) (w64 (((BitVec.ofInt (IntKind.i64.bits) (Int.fdiv (w64 (z2+(1442695040888963407:Int))) (2 ^ (min (Int.toNat (33:Int)) (IntKind.i64.bits)))) ^^^ BitVec.ofInt (IntKind.i64.bits) (Int.fdiv (w64 (z2+(1442695040888963407:Int))) (2 ^ (min (Int.toNat (45:Int)) (IntKind.i64.bits))))).toNat:Int))) &&& BitVec.ofInt (IntKind.i64.bits) (255:Int)
 ((((0:Int)≤(33:Int))∧((0:Int)≤(45:Int)))∧(zif (decide (c.2.1<((c.1).length:Int))) (((0:Int)≤c.2.1∧Int.toNat c.2.1<(c.1).length)∧K (Qda (w64 (((BitVec.ofInt (IntKind.i64.bits) (w64 ((w64 ((z1.toNat:Int)))+(w64 ((gtd (0:Int) c.1 (Int.toNat c.2.1)))))) &&& BitVec.ofInt (IntKind.i64.bits) (255:Int)).toNat:Int)),(c.1,w64 (c.2.1+(1:Int)),w64 (z2+(1442695040888963407:Int)))))) (K (Qda (w64 ((z1.toNat:Int)),(c.1,c.2.1,w64 (z2+(1442695040888963407:Int))))))))):Hold (tawp QKi (1+0) QM0 (TQ 1 0 QOC K) (Qf [(.bx [(.c (.sl [(.int .u8)]) c.1),(.c TI c.2.1),(.c TI c.2.2)])])) :=
 Hold.of (by kernel_rfl) h
theorem Qyh (c:((List Int) × Int × Int)) (hp:Qv c):∃ t:Int × (((List Int) × Int × Int)),(Qhg c t)∧TCon Tryz.prog 183 [(.bx [(.c (.sl [(.int .u8)]) c.1),(.c TI c.2.1),(.c TI c.2.2)])] (Qda t):=by
 refine YM (tcx (n:=58) (sg:=QjG.sg) Qj TOk.nil (by kernel_rfl) (by kernel_rfl) (QEO (fun r'=>∃ t,(Qhg c t)∧r'=Qda t) c ?_))
 conv=>zeta
 have h1:=hp.1
 have h2:=hp.2
 refine ⟨⟨by omega,by omega⟩,fun h=>⟨⟨h1,by simp at h;omega⟩,Q5 ⟨(QfK _).1,(QfK _).2,?_,h2⟩⟩,fun h=>(Q5 ⟨(QfK _).1,(QfK _).2,h1,h2⟩)⟩
 simp at h
 show 0≤w64 (c.2.1+1)
 rw [Qo (by omega) (by omega)];omega
theorem QeI (c:((List Int) × Int × Int)) (hp:Qv c):Qhg c (Yc c):=(Classical.epsilon_spec (Qyh c hp)).1
theorem QPi (c:((List Int) × Int × Int)) (hp:Qv c):TCon Tryz.prog 183 [(.bx [(.c (.sl [(.int .u8)]) c.1),(.c TI c.2.1),(.c TI c.2.2)])] (Qda (Yc c)):=(Classical.epsilon_spec (Qyh c hp)).2
theorem QCA:Qh Tryz.prog QjG:=Qk fun x h=>QPi x.1 h
def Qby (t:Int × (((List Int) × Int × Int))):TRes:=⟨(zci t.1),[],[[(zcs [(.int .u8)] t.2.1),(zci t.2.2.1),(zci t.2.2.2)]],true,[]⟩
def Qe (x0:((List Int) × Int × Int)) (x1:Int):Int × (((List Int) × Int × Int)):=Classical.epsilon fun t:Int × (((List Int) × Int × Int))=>(QhP x0 x1 t)∧TCon Tryz.prog 108 [(.bx [(.c (.sl [(.int .u8)]) x0.1),(.c TI x0.2.1),(.c TI x0.2.2)]),(.c TI x1)] (Qby t)
def Js:TRow:=Qg 108 [(.b [(.sl [(.int .u8)]),TI,TI]),(.c TI)] fun x=>(some (Ze x.1 x.2.1),Qby (Qe x.1 x.2.1))
def QDS:List TRow:=[QjG]
def QOe:TCode :=
 (zsq [(.reg [zmv 4 (zki 0)]),(zsq [(.reg [zmv 9 1,zbi 10 .leq 9 (zki 0)]),(.cond 10 (zsq [(.reg [zmv 4 (zki 0)]),.ret]) .skip)]),(zsq [(.reg [zmv 11 1,zbi 12 .leq 11 (zki 256)]),(.cond 12 (zsq [(.reg [zmv 13 0,zca 14 183 [13],zmv 15 1,zbi 16 .rem 14 15,zmv 4 16]),.ret]) .skip)]),(.reg [zmv 17 0,zca 18 183 [17],zmv 5 18]),(.reg [zmv 19 0,zca 20 183 [19],zmv 6 20]),(.reg [zmv 21 0,zca 22 183 [21],zmv 7 22]),(.reg [zmv 23 0,zca 24 183 [23],zmv 8 24]),(.reg [zmv 25 5,zbi 26 .mul 25 (zki 16777216),zmv 27 6,zbi 28 .mul 27 (zki 65536),zbi 29 .add 26 28,zmv 30 7,zbi 31 .mul 30 (zki 256),zbi 32 .add 29 31,zmv 33 8,zbi 34 .add 32 33,zmv 35 1,zbi 36 .rem 34 35,zmv 4 36]),.ret])
def QRg:List (ARv × Md):=[(.t 4,.one .d)]
theorem QAY (c:((List Int) × Int × Int)) (n:Int) (h :
 (zif (decide (n≤(0:Int))) (K (Qby ((0:Int),c))) (zif (decide (n≤(256:Int))) (((Qv c)∧(¬ (n:Int)=0))∧K (Qby ((Int.tmod ((Yc c).1) n),((Yc c).2)))) ((Qv c)∧((Qv ((Yc c).2))∧((Qv ((Yc ((Yc c).2)).2))∧((Qv ((Yc ((Yc ((Yc c).2)).2)).2))∧((¬ (n:Int)=0)∧K (Qby ((Int.tmod (w64 ((w64 ((w64 ((w64 (((Yc c).1)*(16777216:Int)))+(w64 (((Yc ((Yc c).2)).1)*(65536:Int)))))+(w64 (((Yc ((Yc ((Yc c).2)).2)).1)*(256:Int)))))+((Yc ((Yc ((Yc ((Yc c).2)).2)).2)).1))) n),((Yc ((Yc ((Yc ((Yc c).2)).2)).2)).2))))))))))):Hold (tawp QDS (1+0) QOe (TQ 1 0 QRg K) (Qf [(.bx [(.c (.sl [(.int .u8)]) c.1),(.c TI c.2.1),(.c TI c.2.2)]),(.c TI n)])) :=
 Hold.of (by kernel_rfl) h
theorem Qqm (c:((List Int) × Int × Int)) (n:Int) (hp:Ze c n):∃ t:Int × (((List Int) × Int × Int)),(QhP c n t)∧TCon Tryz.prog 108 [(.bx [(.c (.sl [(.int .u8)]) c.1),(.c TI c.2.1),(.c TI c.2.2)]),(.c TI n)] (Qby t):=by
 refine YM (tcx (n:=37) (sg:=Js.sg) Qj (TOk.cons QCA TOk.nil) (by kernel_rfl) (by kernel_rfl) (QAY (fun r'=>∃ t,(QhP c n t)∧r'=Qby t) c n ?_))
 refine ⟨fun h=>(Q5 ⟨Int.le_refl 0,fun h2=>by simp at h;omega,fun _=>rfl,hp⟩),fun h=>⟨fun h2=>?_,fun h2=>?_⟩⟩
 ·have b1:=QeI c hp
  simp at h
  exact ⟨⟨hp,by omega⟩,Q5 ⟨Int.tmod_nonneg _ b1.1,fun h0=>Int.tmod_lt_of_pos _ h0,fun h0=>by omega,b1.2.2⟩⟩
 ·have b1:=QeI c hp
  have b2:=QeI _ b1.2.2
  have b3:=QeI _ b2.2.2
  have b4:=QeI _ b3.2.2
  simp at h
  refine ⟨hp,b1.2.2,b2.2.2,b3.2.2,by omega,Q5 ⟨Int.tmod_nonneg _ ?_,fun h0=>Int.tmod_lt_of_pos _ h0,fun h0=>by omega,b4.2.2⟩⟩
  have h1:=b1.1
  have h2:=b1.2.1
  have h3:=b2.1
  have h4:=b2.2.1
  have h5:=b3.1
  have h6:=b3.2.1
  have h7:=b4.1
  have h8:=b4.2.1
  clear b1 b2 b3 b4
  rw [Qo (x:=_*16777216) (by omega) (by omega),Qo (x:=_*65536) (by omega) (by omega),Qo (x:=_*256) (by omega) (by omega)]
  rw [Qo (x:=_*16777216+_) (by omega) (by omega),Qo (x:=_+_*256) (by omega) (by omega),Qo (by omega) (by omega)]
  omega
theorem Z4 (c:((List Int) × Int × Int)) (n:Int) (hp:Ze c n):QhP c n (Qe c n):=(Classical.epsilon_spec (Qqm c n hp)).1
theorem QNu (c:((List Int) × Int × Int)) (n:Int) (hp:Ze c n):TCon Tryz.prog 108 [(.bx [(.c (.sl [(.int .u8)]) c.1),(.c TI c.2.1),(.c TI c.2.2)]),(.c TI n)] (Qby (Qe c n)):=(Classical.epsilon_spec (Qqm c n hp)).2
theorem JT:Qh Tryz.prog Js:=Qk fun x h=>QNu x.1 x.2.1 h
def Qdq (t:Bool × (((List Int) × Int × Int))):TRes:=⟨(zcb t.1),[],[[(zcs [(.int .u8)] t.2.1),(zci t.2.2.1),(zci t.2.2.2)]],true,[]⟩
def ZI (x0:((List Int) × Int × Int)) (x1:Int):Bool × (((List Int) × Int × Int)):=Classical.epsilon fun t:Bool × (((List Int) × Int × Int))=>(Qgx x0 x1 t)∧TCon Tryz.prog 106 [(.bx [(.c (.sl [(.int .u8)]) x0.1),(.c TI x0.2.1),(.c TI x0.2.2)]),(.c TI x1)] (Qdq t)
def Qfi:TRow:=Qg 106 [(.b [(.sl [(.int .u8)]),TI,TI]),(.c TI)] fun x=>(some (Ze x.1 x.2.1),Qdq (ZI x.1 x.2.1))
def QIG:List TRow:=[Js]
def QOP:TCode :=
 (zsq [(.reg [zmv 4 (zkb false)]),(.reg [zmv 5 0,zmv 6 1,zca 7 108 [5,6],zbi 8 .eql 7 (zki 0),zmv 4 8]),.ret])
def QL7:List (ARv × Md):=[(.t 4,.one .d)]
theorem QHJ (c:((List Int) × Int × Int)) (n:Int) (h :
 ((Ze c n)∧K (Qdq ((((Qe c n).1)==(0:Int)),((Qe c n).2))))):Hold (tawp QIG (1+0) QOP (TQ 1 0 QL7 K) (Qf [(.bx [(.c (.sl [(.int .u8)]) c.1),(.c TI c.2.1),(.c TI c.2.2)]),(.c TI n)])) :=
 Hold.of (by kernel_rfl) h
theorem Qqx (c:((List Int) × Int × Int)) (n:Int) (hp:Ze c n):∃ t:Bool × (((List Int) × Int × Int)),(Qgx c n t)∧TCon Tryz.prog 106 [(.bx [(.c (.sl [(.int .u8)]) c.1),(.c TI c.2.1),(.c TI c.2.2)]),(.c TI n)] (Qdq t):=by
 refine YM (tcx (n:=9) (sg:=Qfi.sg) Qj (TOk.cons JT TOk.nil) (by kernel_rfl) (by kernel_rfl) (QHJ (fun r'=>∃ t,(Qgx c n t)∧r'=Qdq t) c n ?_))
 exact ⟨hp,Q5 ((Z4 c n hp).2.2.2)⟩
theorem QnV (c:((List Int) × Int × Int)) (n:Int) (hp:Ze c n):Qgx c n (ZI c n):=(Classical.epsilon_spec (Qqx c n hp)).1
theorem QDG (c:((List Int) × Int × Int)) (n:Int) (hp:Ze c n):TCon Tryz.prog 106 [(.bx [(.c (.sl [(.int .u8)]) c.1),(.c TI c.2.1),(.c TI c.2.2)]),(.c TI n)] (Qdq (ZI c n)):=(Classical.epsilon_spec (Qqx c n hp)).2
theorem QkB:Qh Tryz.prog Qfi:=Qk fun x h=>QDG x.1 x.2.1 h
def QdU (t:Int × (((List Int) × Int × Int))):TRes:=⟨(zci t.1),[],[[(zcs [(.int .u8)] t.2.1),(zci t.2.2.1),(zci t.2.2.2)]],true,[]⟩
def Zt (x0:((List Int) × Int × Int)) (x1:List Int):Int × (((List Int) × Int × Int)):=Classical.epsilon fun t:Int × (((List Int) × Int × Int))=>(QgQ x0 x1 t)∧TCon Tryz.prog 145 [(.bx [(.c (.sl [(.int .u8)]) x0.1),(.c TI x0.2.1),(.c TI x0.2.2)]),(.c (.sl [TI]) x1)] (QdU t)
def Qb7:TRow:=Qg 145 [(.b [(.sl [(.int .u8)]),TI,TI]),(.c (.sl [TI]))] fun x=>(some (Y0 x.1 x.2.1),QdU (Zt x.1 x.2.1))
def QAM:List TRow:=[Js]
def QO7:TCode :=
 (zsq [(.reg [zmv 4 (zki 0)]),(.reg [zmv 5 1,zmv 6 0,zmv 7 1,zle 8 7,zca 9 108 [6,8],zia 10 5 9 [TI],zld 11 10 1,zmv 4 11]),.ret])
def QCe:List (ARv × Md):=[(.t 4,.one .d)]
theorem QQ2 (c:((List Int) × Int × Int)) (list:List Int) (h :
 (((Ze c (list.length:Int))∧((0:Int)≤(Qe c (list.length:Int)).1∧Int.toNat ((Qe c (list.length:Int)).1)<list.length))∧K (QdU ((gtd (0:Int) list (Int.toNat ((Qe c (list.length:Int)).1))),((Qe c (list.length:Int)).2))))):Hold (tawp QAM (1+0) QO7 (TQ 1 0 QCe K) (Qf [(.bx [(.c (.sl [(.int .u8)]) c.1),(.c TI c.2.1),(.c TI c.2.2)]),(.c (.sl [TI]) list)])) :=
 Hold.of (by kernel_rfl) h
theorem Qro (c:((List Int) × Int × Int)) (list:List Int) (hp:Y0 c list):∃ t:Int × (((List Int) × Int × Int)),(QgQ c list t)∧TCon Tryz.prog 145 [(.bx [(.c (.sl [(.int .u8)]) c.1),(.c TI c.2.1),(.c TI c.2.2)]),(.c (.sl [TI]) list)] (QdU t):=by
 refine YM (tcx (n:=12) (sg:=Qb7.sg) Qj (TOk.cons JT TOk.nil) (by kernel_rfl) (by kernel_rfl) (QQ2 (fun r'=>∃ t,(QgQ c list t)∧r'=QdU t) c list ?_))
 have b:=Z4 c list.length hp.1
 have h1:=hp.2.1
 have h2:=b.2.1 (by omega)
 have h3:=b.1
 exact ⟨⟨hp.1,h3,by omega⟩,Q5 ⟨Y7 (by omega) _,b.2.2.2⟩⟩
theorem QdC (c:((List Int) × Int × Int)) (list:List Int) (hp:Y0 c list):QgQ c list (Zt c list):=(Classical.epsilon_spec (Qro c list hp)).1
theorem QNc (c:((List Int) × Int × Int)) (list:List Int) (hp:Y0 c list):TCon Tryz.prog 145 [(.bx [(.c (.sl [(.int .u8)]) c.1),(.c TI c.2.1),(.c TI c.2.2)]),(.c (.sl [TI]) list)] (QdU (Zt c list)):=(Classical.epsilon_spec (Qro c list hp)).2
theorem QdY:Qh Tryz.prog Qb7:=Qk fun x h=>QNc x.1 x.2.1 h
def Qlp (t:Bool):TRes:=zre (zcb t)
def Qjz:TRow:=Qg 13 [(.c (.sl [(.int .u8)]))] fun x=>(none,Qlp (Qfm x.1))
def QPr:List TRow:=[]
def QFL:TCode :=
 (zsq [(.reg [zmv 2 (zkb false)]),(.reg [zmv 3 0,zle 4 3,zbi 5 .gtr 4 (zki 1048576),zmv 2 5]),.ret])
def QED:List (ARv × Md):=[(.t 2,.one .d)]
theorem QMt (code:List Int) (h :
 K (Qlp (decide ((code.length:Int)>(1048576:Int))))):Hold (tawp QPr (0+0) QFL (TQ 0 0 QED K) (Qf [(.c (.sl [(.int .u8)]) code)])) :=
 Hold.of (by kernel_rfl) h
theorem QBZ (code:List Int):TCon Tryz.prog 13 [(.c (.sl [(.int .u8)]) code)] (Qlp (Qfm code)):=by
 refine Qq rfl fun hb=>tcg (n:=6) (sg:=Qjz.sg) Qj TOk.nil (by kernel_rfl) (by kernel_rfl) (QMt _ code ?_)
 have hl_code:code.length≤9223372036854775807:=hb.1.1
 exact R_eq rfl
theorem QN7:Qh Tryz.prog Qjz:=Qk fun x _=>QBZ x.1
def Qhl (t:Int):TRes:=zre (zci t)
def Qk6:TRow:=Qg 29 [(.c (.sl [(.int .u8)])),(.c TI)] fun x=>(some (p_at x.1 x.2.1),Qhl (m_at x.1 x.2.1))
def QKP:List TRow:=[]
def QHl:TCode :=
 (zsq [(.reg [zmv 4 (zki 0)]),(zsq [(.reg [zmv 5 1,zmv 6 0,zle 7 6,zbi 8 .lss 5 7]),(.cond 8 (zsq [(.reg [zmv 9 0,zmv 10 1,zia 11 9 10 [(.int .u8)],zld 12 11 1,zop 13 (.conv .i64 12),zmv 4 13]),.ret]) .skip)]),(.reg [zmv 14 1,zbi 15 .mul 14 (zki 37),zmv 16 0,zle 17 16,zbi 18 .mul 17 (zki 11),zbi 19 .add 15 18,zbi 20 .rem 19 (zki 256),zmv 4 20]),.ret])
def QDq:List (ARv × Md):=[(.t 4,.one .d)]
theorem QOL (code:List Int) (i:Int) (h :
 (zif (decide (i<(code.length:Int))) (((0:Int)≤i∧Int.toNat i<code.length)∧K (Qhl (w64 ((gtd (0:Int) code (Int.toNat i)))))) ((¬ ((256:Int):Int)=0)∧K (Qhl (Int.tmod (w64 ((w64 (i*(37:Int)))+(w64 ((code.length:Int)*(11:Int))))) (256:Int)))))):Hold (tawp QKP (0+0) QHl (TQ 0 0 QDq K) (Qf [(.c (.sl [(.int .u8)]) code),(.c TI i)])) :=
 Hold.of (by kernel_rfl) h
theorem QGy (code:List Int) (i:Int) (hp:p_at code i):TCon Tryz.prog 29 [(.c (.sl [(.int .u8)]) code),(.c TI i)] (Qhl (m_at code i)):=by
 refine Qq rfl fun hb=>tcg (n:=21) (sg:=Qk6.sg) Qj TOk.nil (by kernel_rfl) (by kernel_rfl) (QOL _ code i ?_)
 have hl_code:code.length≤9223372036854775807:=hb.1.1
 have h0:0≤i:=hp
 refine ⟨fun h=>⟨⟨h0,by simp at h;omega⟩,R_eq ?_⟩,fun h=>⟨by omega,R_eq ?_⟩⟩
 ·rw [m_at,if_pos (by simpa using h)]
 ·rw [m_at,if_neg (by simpa using h)]
theorem QO3:Qh Tryz.prog Qk6:=Qk fun x h=>QGy x.1 x.2.1 h
end
end Go.Proofs.YtjbdljkhbglnhaaGreat.Am

