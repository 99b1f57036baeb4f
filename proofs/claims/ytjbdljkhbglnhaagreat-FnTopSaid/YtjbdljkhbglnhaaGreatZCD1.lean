/- -/
import Derived.Test.YtjbdljkhbglnhaaGreatZCG9
namespace Go.Proofs.YtjbdljkhbglnhaaGreat.Am
open Go Go.RowKit Go.Proofs.YtjbdljkhbglnhaaGreat
set_option linter.all false
set_option maxHeartbeats 2000000
noncomputable section
variable (K:TRes→Prop)
def Qa3 (t:(((List Int) × Int × Int))):TRes:=⟨(.p 0 0 0),[(.box [(zcs [(.int .u8)] t.1),(zci t.2.1),(zci t.2.2)])],[],true,[]⟩
def QdB (x0:List Int):(((List Int) × Int × Int)):=Classical.epsilon fun t:(((List Int) × Int × Int))=>(Qck x0 t)∧TCon Tryz.prog 69 [(.c (.sl [(.int .u8)]) x0)] (Qa3 t)
def Qms:TRow:=Qf 69 [(.c (.sl [(.int .u8)]))] fun x=>(some (Qas x.1),Qa3 (QdB x.1))
def QoD:List TRow:=[]
def QA4:TCode :=
 (zsq [(zsq [(.reg [zmv 8 4,zmv 9 0,zle 10 9,zbi 11 .lss 8 10,zmv 12 11,.grp 12 true [zmv 13 4,zbi 14 .lss 13 (zki 4000)] 15 14]),(.cond 15 .skip (.exit 0))]),(.block 1 (.reg [zmv 18 3,zbi 19 .mul 18 (zki 131),zmv 20 0,zmv 21 4,zia 22 20 21 [(.int .u8)],zld 23 22 1,zop 24 (.conv .i64 23),zbi 25 .add 19 24,zbi 26 .add 25 (zki 7),zbi 27 .and 26 (zki 1073741823),zmv 3 27])),(.reg [zmv 16 4,zbi 17 .add 16 (zki 1),zmv 4 17])])
def Qsu:List (Nat × Md):=zdl [0,3,4]
def Qrf:TCode :=
 (zsq [(.reg [zmv 28 0,zmv 29 3,zop 30 (.build (z0s [(.sl [(.int .u8)]),TI,TI]) [(0,1,28),(2,1,29)]),zop 31 (.box 157 30 3),zmv 2 31]),.ret])
def QS2:TCode :=
 (zsq [(.reg [zmv 2 (.k (.c .nilp ()))]),(.reg [zmv 5 0,zle 6 5,zbi 7 .add (zki 10101) 6,zmv 3 7]),(zsq [(.reg [zmv 4 (zki 0)]),(.block 0 (.loop Qsu QA4))]),Qrf])
def QCp:List (ARv × Md):=[(.t 2,.b [.d,.d,.d])]
def QsY:Qb:=TQ 0 0 QCp K
def QUT:Qb:=Qseq (tawp QoD 0 Qrf (QsY K)) (QsY K)
def QQy:Qb:=Qblk 0 (QUT K)
def QfP (code:List Int) (h1:Int) (i:Int):Prop:=Loop QoD 0 Qsu QA4 (QQy K) ⟨[(0,(zcs [(.int .u8)] code)),(3,(zci h1)),(4,(zci i))],[],0⟩
theorem QC0 (code:List Int) (h1:Int) (i:Int) (h :
 (zif ((decide (i<(code.length:Int)))&&(decide (i<(4000:Int)))) (((0:Int)≤i∧Int.toNat i<code.length)∧(QfP K code (w64 (((BitVec.ofInt (IntKind.i64.bits) (w64 ((w64 ((w64 (h1*(131:Int)))+(w64 ((gtd (0:Int) code (Int.toNat i))))))+(7:Int))) &&& BitVec.ofInt (IntKind.i64.bits) (1073741823:Int)).toNat:Int))) (w64 (i+(1:Int))))) (K (Qa3 (code,(0:Int),h1))))):QfP K code h1 i :=
 Loop.of (by kernel_rfl) h
theorem QOI (code:List Int) (h :
 (QfP K code (w64 ((10101:Int)+(code.length:Int))) 0)):Hold (tawp QoD (0+0) QS2 (TQ 0 0 QCp K) (Qd [(.c (.sl [(.int .u8)]) code)])) :=
 Hold.of (by kernel_rfl) h
theorem Qr1 (code:List Int) (hp:Qas code):∃ t:(((List Int) × Int × Int)),(Qck code t)∧TCon Tryz.prog 69 [(.c (.sl [(.int .u8)]) code)] (Qa3 t):=by
 refine YV (tcx (n:=32) (sg:=Qms.sg) Qg TOk.nil (by kernel_rfl) (by kernel_rfl) (QOI (fun r'=>∃ t,(Qck code t)∧r'=Qa3 t) code ?_))
 have hp':code.length≤1048576:=hp
 suffices h:∀ x:Int,QfP (fun r'=>∃ t,(Qck code t)∧r'=Qa3 t) code x ((0:Nat):Int) from h _
 refine Jb (min code.length 4000) (fun k=>∀ x:Int,QfP (fun r'=>∃ t,(Qck code t)∧r'=Qa3 t) code x (k:Int)) ?_ ?_
 ·intro x
  refine QC0 (fun r'=>∃ t,(Qck code t)∧r'=Qa3 t) code _ _ ⟨fun h=>?_,fun _=>(Ze ⟨Int.le_refl 0,hp⟩)⟩
  simp at h;omega
 ·intro k hk ih x
  refine QC0 (fun r'=>∃ t,(Qck code t)∧r'=Qa3 t) code _ _ ⟨fun _=>⟨⟨by omega,by omega⟩,?_⟩,fun h=>?_⟩
  ·rw [sc1 (by omega)];exact ih _
  ·simp at h;omega
theorem QCS (code:List Int) (hp:Qas code):Qck code (QdB code):=(Classical.epsilon_spec (Qr1 code hp)).1
theorem QTc (code:List Int) (hp:Qas code):TCon Tryz.prog 69 [(.c (.sl [(.int .u8)]) code)] (Qa3 (QdB code)):=(Classical.epsilon_spec (Qr1 code hp)).2
theorem QNG:Qe Tryz.prog Qms:=Qh fun x h=>QTc x.1 h
def QcF (t:Int × (((List Int) × Int × Int))):TRes:=⟨(zci t.1),[],[[(zcs [(.int .u8)] t.2.1),(zci t.2.2.1),(zci t.2.2.2)]],true,[]⟩
def Ym (x0:((List Int) × Int × Int)):Int × (((List Int) × Int × Int)):=Classical.epsilon fun t:Int × (((List Int) × Int × Int))=>(QjJ x0 t)∧TCon Tryz.prog 183 [(.bx [(.c (.sl [(.int .u8)]) x0.1),(.c TI x0.2.1),(.c TI x0.2.2)])] (QcF t)
def QmZ:TRow:=Qf 183 [(.b [(.sl [(.int .u8)]),TI,TI])] fun x=>(some (QF x.1),QcF (Ym x.1))
def QL9:List TRow:=[]
def QYg:TCode :=
 (zsq [(.reg [zmv 2 (zki 0)]),(.reg [zmv 4 0,zmv 5 0,zop 6 (.nilc 5),zfa 7 6 2,zld 8 7 1,zbi 9 .mul 8 (zki 6364136223846793005),zbi 10 .add 9 (zki 1442695040888963407),zop 11 (.nilc 4),zfa 12 11 2,zst 12 10 1]),(.draw [zmv 13 0,zop 14 (.nilc 13),zfa 15 14 2,zld 16 15 1,zbi 17 .shr 16 (.k (.c (.int .u64) (33:Int))),zmv 18 0,zop 19 (.nilc 18),zfa 20 19 2,zld 21 20 1,zbi 22 .shr 21 (.k (.c (.int .u64) (45:Int))),zbi 23 .xor 17 22,zbi 24 .and 23 (zki 255),zmv 3 24] []),(zsq [(.draw [zmv 25 0,zop 26 (.nilc 25),zfa 27 26 1,zld 28 27 1,zmv 29 0,zop 30 (.nilc 29),zfa 31 30 0,zld 32 31 1,zle 33 32,zbi 34 .lss 28 33] []),(.cond 34 (zsq [(.draw [zmv 35 3,zmv 36 0,zop 37 (.nilc 36),zfa 38 37 0,zld 39 38 1,zmv 40 0,zop 41 (.nilc 40),zfa 42 41 1,zld 43 42 1,zia 44 39 43 [(.int .u8)],zld 45 44 1,zop 46 (.conv .i64 45),zbi 47 .add 35 46,zbi 48 .and 47 (zki 255),zmv 3 48] []),(.reg [zmv 49 0,zmv 50 0,zop 51 (.nilc 50),zfa 52 51 1,zld 53 52 1,zbi 54 .add 53 (zki 1),zop 55 (.nilc 49),zfa 56 55 1,zst 56 54 1])]) .skip)]),(.reg [zmv 57 3,zmv 2 57]),.ret])
def QMh:List (ARv × Md):=[(.t 2,.one .d)]
theorem QSq (c:((List Int) × Int × Int)) (h :
 let z2:=w64 (c.2.2*(6364136223846793005:Int))
 let z1:=BitVec.ofInt (IntKind.i64.bits) (w64 (((BitVec.ofInt (IntKind.i64.bits) (Int.fdiv (w64 (z2+(1442695040888963407:Int))) (2 ^ (min (Int.toNat (33:Int)) (IntKind.i64.bits)))) ^^^ BitVec.ofInt (IntKind.i64.bits) (Int.fdiv (w64 (z2+(1442695040888963407:Int))) (2 ^ (min (Int.toNat (45:Int)) (IntKind.i64.bits))))).toNat:Int))) &&& BitVec.ofInt (IntKind.i64.bits) (255:Int)
 ((((0:Int)≤(33:Int))∧((0:Int)≤(45:Int)))∧(zif (decide (c.2.1<((c.1).length:Int))) (((0:Int)≤c.2.1∧Int.toNat c.2.1<(c.1).length)∧K (QcF (w64 (((BitVec.ofInt (IntKind.i64.bits) (w64 ((w64 ((z1.toNat:Int)))+(w64 ((gtd (0:Int) c.1 (Int.toNat c.2.1)))))) &&& BitVec.ofInt (IntKind.i64.bits) (255:Int)).toNat:Int)),(c.1,w64 (c.2.1+(1:Int)),w64 (z2+(1442695040888963407:Int)))))) (K (QcF (w64 ((z1.toNat:Int)),(c.1,c.2.1,w64 (z2+(1442695040888963407:Int))))))))):Hold (tawp QL9 (1+0) QYg (TQ 1 0 QMh K) (Qd [(.bx [(.c (.sl [(.int .u8)]) c.1),(.c TI c.2.1),(.c TI c.2.2)])])) :=
 Hold.of (by kernel_rfl) h
theorem QAL (c:((List Int) × Int × Int)) (hp:QF c):∃ t:Int × (((List Int) × Int × Int)),(QjJ c t)∧TCon Tryz.prog 183 [(.bx [(.c (.sl [(.int .u8)]) c.1),(.c TI c.2.1),(.c TI c.2.2)])] (QcF t):=by
 refine YV (tcx (n:=58) (sg:=QmZ.sg) Qg TOk.nil (by kernel_rfl) (by kernel_rfl) (QSq (fun r'=>∃ t,(QjJ c t)∧r'=QcF t) c ?_))
 conv=>zeta
 have h1:=hp.1
 have h2:=hp.2
 refine ⟨⟨by omega,by omega⟩,fun h=>⟨⟨h1,by simp at h;omega⟩,Ze ⟨(Qjw _).1,(Qjw _).2,?_,h2⟩⟩,fun h=>(Ze ⟨(Qjw _).1,(Qjw _).2,h1,h2⟩)⟩
 simp at h
 show 0≤w64 (c.2.1+1)
 rw [Qq (by omega) (by omega)];omega
theorem QfL (c:((List Int) × Int × Int)) (hp:QF c):QjJ c (Ym c):=(Classical.epsilon_spec (QAL c hp)).1
theorem QNi (c:((List Int) × Int × Int)) (hp:QF c):TCon Tryz.prog 183 [(.bx [(.c (.sl [(.int .u8)]) c.1),(.c TI c.2.1),(.c TI c.2.2)])] (QcF (Ym c)):=(Classical.epsilon_spec (QAL c hp)).2
theorem QQ8:Qe Tryz.prog QmZ:=Qh fun x h=>QNi x.1 h
def Qcb (t:Int × (((List Int) × Int × Int))):TRes:=⟨(zci t.1),[],[[(zcs [(.int .u8)] t.2.1),(zci t.2.2.1),(zci t.2.2.2)]],true,[]⟩
def Ql (x0:((List Int) × Int × Int)) (x1:Int):Int × (((List Int) × Int × Int)):=Classical.epsilon fun t:Int × (((List Int) × Int × Int))=>(QkE x0 x1 t)∧TCon Tryz.prog 108 [(.bx [(.c (.sl [(.int .u8)]) x0.1),(.c TI x0.2.1),(.c TI x0.2.2)]),(.c TI x1)] (Qcb t)
def JB:TRow:=Qf 108 [(.b [(.sl [(.int .u8)]),TI,TI]),(.c TI)] fun x=>(some (Zr x.1 x.2.1),Qcb (Ql x.1 x.2.1))
def QYq:List TRow:=[QmZ]
def QLM:TCode :=
 (zsq [(.reg [zmv 4 (zki 0)]),(zsq [(.reg [zmv 9 1,zbi 10 .leq 9 (zki 0)]),(.cond 10 (zsq [(.reg [zmv 4 (zki 0)]),.ret]) .skip)]),(zsq [(.reg [zmv 11 1,zbi 12 .leq 11 (zki 256)]),(.cond 12 (zsq [(.reg [zmv 13 0,zca 14 183 [13],zmv 15 1,zbi 16 .rem 14 15,zmv 4 16]),.ret]) .skip)]),(.reg [zmv 17 0,zca 18 183 [17],zmv 5 18]),(.reg [zmv 19 0,zca 20 183 [19],zmv 6 20]),(.reg [zmv 21 0,zca 22 183 [21],zmv 7 22]),(.reg [zmv 23 0,zca 24 183 [23],zmv 8 24]),(.reg [zmv 25 5,zbi 26 .mul 25 (zki 16777216),zmv 27 6,zbi 28 .mul 27 (zki 65536),zbi 29 .add 26 28,zmv 30 7,zbi 31 .mul 30 (zki 256),zbi 32 .add 29 31,zmv 33 8,zbi 34 .add 32 33,zmv 35 1,zbi 36 .rem 34 35,zmv 4 36]),.ret])
def QFa:List (ARv × Md):=[(.t 4,.one .d)]
theorem QKt (c:((List Int) × Int × Int)) (n:Int) (h :
 (zif (decide (n≤(0:Int))) (K (Qcb ((0:Int),c))) (zif (decide (n≤(256:Int))) (((QF c)∧(¬ (n:Int)=0))∧K (Qcb ((Int.tmod ((Ym c).1) n),((Ym c).2)))) ((QF c)∧((QF ((Ym c).2))∧((QF ((Ym ((Ym c).2)).2))∧((QF ((Ym ((Ym ((Ym c).2)).2)).2))∧((¬ (n:Int)=0)∧K (Qcb ((Int.tmod (w64 ((w64 ((w64 ((w64 (((Ym c).1)*(16777216:Int)))+(w64 (((Ym ((Ym c).2)).1)*(65536:Int)))))+(w64 (((Ym ((Ym ((Ym c).2)).2)).1)*(256:Int)))))+((Ym ((Ym ((Ym ((Ym c).2)).2)).2)).1))) n),((Ym ((Ym ((Ym ((Ym c).2)).2)).2)).2))))))))))):Hold (tawp QYq (1+0) QLM (TQ 1 0 QFa K) (Qd [(.bx [(.c (.sl [(.int .u8)]) c.1),(.c TI c.2.1),(.c TI c.2.2)]),(.c TI n)])) :=
 Hold.of (by kernel_rfl) h
theorem QvU (c:((List Int) × Int × Int)) (n:Int) (hp:Zr c n):∃ t:Int × (((List Int) × Int × Int)),(QkE c n t)∧TCon Tryz.prog 108 [(.bx [(.c (.sl [(.int .u8)]) c.1),(.c TI c.2.1),(.c TI c.2.2)]),(.c TI n)] (Qcb t):=by
 refine YV (tcx (n:=37) (sg:=JB.sg) Qg (TOk.cons QQ8 TOk.nil) (by kernel_rfl) (by kernel_rfl) (QKt (fun r'=>∃ t,(QkE c n t)∧r'=Qcb t) c n ?_))
 refine ⟨fun h=>(Ze ⟨Int.le_refl 0,fun h2=>by simp at h;omega,fun _=>rfl,hp⟩),fun h=>⟨fun h2=>?_,fun h2=>?_⟩⟩
 ·have b1:=QfL c hp
  simp at h
  exact ⟨⟨hp,by omega⟩,Ze ⟨Int.tmod_nonneg _ b1.1,fun h0=>Int.tmod_lt_of_pos _ h0,fun h0=>by omega,b1.2.2⟩⟩
 ·have b1:=QfL c hp
  have b2:=QfL _ b1.2.2
  have b3:=QfL _ b2.2.2
  have b4:=QfL _ b3.2.2
  simp at h
  refine ⟨hp,b1.2.2,b2.2.2,b3.2.2,by omega,Ze ⟨Int.tmod_nonneg _ ?_,fun h0=>Int.tmod_lt_of_pos _ h0,fun h0=>by omega,b4.2.2⟩⟩
  have h1:=b1.1
  have h2:=b1.2.1
  have h3:=b2.1
  have h4:=b2.2.1
  have h5:=b3.1
  have h6:=b3.2.1
  have h7:=b4.1
  have h8:=b4.2.1
  clear b1 b2 b3 b4
  rw [Qq (x:=_*16777216) (by omega) (by omega),Qq (x:=_*65536) (by omega) (by omega),Qq (x:=_*256) (by omega) (by omega)]
  rw [Qq (x:=_*16777216+_) (by omega) (by omega),Qq (x:=_+_*256) (by omega) (by omega),Qq (by omega) (by omega)]
  omega
theorem Yh (c:((List Int) × Int × Int)) (n:Int) (hp:Zr c n):QkE c n (Ql c n):=(Classical.epsilon_spec (QvU c n hp)).1
theorem QYk (c:((List Int) × Int × Int)) (n:Int) (hp:Zr c n):TCon Tryz.prog 108 [(.bx [(.c (.sl [(.int .u8)]) c.1),(.c TI c.2.1),(.c TI c.2.2)]),(.c TI n)] (Qcb (Ql c n)):=(Classical.epsilon_spec (QvU c n hp)).2
theorem J2:Qe Tryz.prog JB:=Qh fun x h=>QYk x.1 x.2.1 h
def Qek (t:Bool × (((List Int) × Int × Int))):TRes:=⟨(zcb t.1),[],[[(zcs [(.int .u8)] t.2.1),(zci t.2.2.1),(zci t.2.2.2)]],true,[]⟩
def ZW (x0:((List Int) × Int × Int)) (x1:Int):Bool × (((List Int) × Int × Int)):=Classical.epsilon fun t:Bool × (((List Int) × Int × Int))=>(Qkx x0 x1 t)∧TCon Tryz.prog 106 [(.bx [(.c (.sl [(.int .u8)]) x0.1),(.c TI x0.2.1),(.c TI x0.2.2)]),(.c TI x1)] (Qek t)
def QfX:TRow:=Qf 106 [(.b [(.sl [(.int .u8)]),TI,TI]),(.c TI)] fun x=>(some (Zr x.1 x.2.1),Qek (ZW x.1 x.2.1))
def QIG:List TRow:=[JB]
def QHt:TCode :=
 (zsq [(.reg [zmv 4 (zkb false)]),(.reg [zmv 5 0,zmv 6 1,zca 7 108 [5,6],zbi 8 .eql 7 (zki 0),zmv 4 8]),.ret])
def QJV:List (ARv × Md):=[(.t 4,.one .d)]
theorem QPl (c:((List Int) × Int × Int)) (n:Int) (h :
 ((Zr c n)∧K (Qek ((((Ql c n).1)==(0:Int)),((Ql c n).2))))):Hold (tawp QIG (1+0) QHt (TQ 1 0 QJV K) (Qd [(.bx [(.c (.sl [(.int .u8)]) c.1),(.c TI c.2.1),(.c TI c.2.2)]),(.c TI n)])) :=
 Hold.of (by kernel_rfl) h
theorem QuR (c:((List Int) × Int × Int)) (n:Int) (hp:Zr c n):∃ t:Bool × (((List Int) × Int × Int)),(Qkx c n t)∧TCon Tryz.prog 106 [(.bx [(.c (.sl [(.int .u8)]) c.1),(.c TI c.2.1),(.c TI c.2.2)]),(.c TI n)] (Qek t):=by
 refine YV (tcx (n:=9) (sg:=QfX.sg) Qg (TOk.cons J2 TOk.nil) (by kernel_rfl) (by kernel_rfl) (QPl (fun r'=>∃ t,(Qkx c n t)∧r'=Qek t) c n ?_))
 exact ⟨hp,Ze ((Yh c n hp).2.2.2)⟩
theorem QpU (c:((List Int) × Int × Int)) (n:Int) (hp:Zr c n):Qkx c n (ZW c n):=(Classical.epsilon_spec (QuR c n hp)).1
theorem QVn (c:((List Int) × Int × Int)) (n:Int) (hp:Zr c n):TCon Tryz.prog 106 [(.bx [(.c (.sl [(.int .u8)]) c.1),(.c TI c.2.1),(.c TI c.2.2)]),(.c TI n)] (Qek (ZW c n)):=(Classical.epsilon_spec (QuR c n hp)).2
theorem QpF:Qe Tryz.prog QfX:=Qh fun x h=>QVn x.1 x.2.1 h
def Qd3 (t:Int × (((List Int) × Int × Int))):TRes:=⟨(zci t.1),[],[[(zcs [(.int .u8)] t.2.1),(zci t.2.2.1),(zci t.2.2.2)]],true,[]⟩
def ZN (x0:((List Int) × Int × Int)) (x1:List Int):Int × (((List Int) × Int × Int)):=Classical.epsilon fun t:Int × (((List Int) × Int × Int))=>(Qhl x0 x1 t)∧TCon Tryz.prog 145 [(.bx [(.c (.sl [(.int .u8)]) x0.1),(.c TI x0.2.1),(.c TI x0.2.2)]),(.c (.sl [TI]) x1)] (Qd3 t)
def Qb2:TRow:=Qf 145 [(.b [(.sl [(.int .u8)]),TI,TI]),(.c (.sl [TI]))] fun x=>(some (Y9 x.1 x.2.1),Qd3 (ZN x.1 x.2.1))
def QWg:List TRow:=[JB]
def QJi:TCode :=
 (zsq [(.reg [zmv 4 (zki 0)]),(.reg [zmv 5 1,zmv 6 0,zmv 7 1,zle 8 7,zca 9 108 [6,8],zia 10 5 9 [TI],zld 11 10 1,zmv 4 11]),.ret])
def QIy:List (ARv × Md):=[(.t 4,.one .d)]
theorem QGw (c:((List Int) × Int × Int)) (list:List Int) (h :
 (((Zr c (list.length:Int))∧((0:Int)≤(Ql c (list.length:Int)).1∧Int.toNat ((Ql c (list.length:Int)).1)<list.length))∧K (Qd3 ((gtd (0:Int) list (Int.toNat ((Ql c (list.length:Int)).1))),((Ql c (list.length:Int)).2))))):Hold (tawp QWg (1+0) QJi (TQ 1 0 QIy K) (Qd [(.bx [(.c (.sl [(.int .u8)]) c.1),(.c TI c.2.1),(.c TI c.2.2)]),(.c (.sl [TI]) list)])) :=
 Hold.of (by kernel_rfl) h
theorem QDy (c:((List Int) × Int × Int)) (list:List Int) (hp:Y9 c list):∃ t:Int × (((List Int) × Int × Int)),(Qhl c list t)∧TCon Tryz.prog 145 [(.bx [(.c (.sl [(.int .u8)]) c.1),(.c TI c.2.1),(.c TI c.2.2)]),(.c (.sl [TI]) list)] (Qd3 t):=by
 refine YV (tcx (n:=12) (sg:=Qb2.sg) Qg (TOk.cons J2 TOk.nil) (by kernel_rfl) (by kernel_rfl) (QGw (fun r'=>∃ t,(Qhl c list t)∧r'=Qd3 t) c list ?_))
 have b:=Yh c list.length hp.1
 have h1:=hp.2.1
 have h2:=b.2.1 (by omega)
 have h3:=b.1
 exact ⟨⟨hp.1,h3,by omega⟩,Ze ⟨JP (by omega) _,b.2.2.2⟩⟩
theorem Qd9 (c:((List Int) × Int × Int)) (list:List Int) (hp:Y9 c list):Qhl c list (ZN c list):=(Classical.epsilon_spec (QDy c list hp)).1
theorem QLz (c:((List Int) × Int × Int)) (list:List Int) (hp:Y9 c list):TCon Tryz.prog 145 [(.bx [(.c (.sl [(.int .u8)]) c.1),(.c TI c.2.1),(.c TI c.2.2)]),(.c (.sl [TI]) list)] (Qd3 (ZN c list)):=(Classical.epsilon_spec (QDy c list hp)).2
theorem Qej:Qe Tryz.prog Qb2:=Qh fun x h=>QLz x.1 x.2.1 h
def QmF (t:Bool):TRes:=zre (zcb t)
def Qo2:TRow:=Qf 13 [(.c (.sl [(.int .u8)]))] fun x=>(none,QmF (Qgn x.1))
def QOD:List TRow:=[]
def QSc:TCode :=
 (zsq [(.reg [zmv 2 (zkb false)]),(.reg [zmv 3 0,zle 4 3,zbi 5 .gtr 4 (zki 1048576),zmv 2 5]),.ret])
def QW8:List (ARv × Md):=[(.t 2,.one .d)]
theorem QJq (code:List Int) (h :
 K (QmF (decide ((code.length:Int)>(1048576:Int))))):Hold (tawp QOD (0+0) QSc (TQ 0 0 QW8 K) (Qd [(.c (.sl [(.int .u8)]) code)])) :=
 Hold.of (by kernel_rfl) h
theorem QLX (code:List Int):TCon Tryz.prog 13 [(.c (.sl [(.int .u8)]) code)] (QmF (Qgn code)):=by
 refine Qj rfl fun hb=>tcg (n:=6) (sg:=Qo2.sg) Qg TOk.nil (by kernel_rfl) (by kernel_rfl) (QJq _ code ?_)
 have hl_code:code.length≤9223372036854775807:=hb.1.1
 exact R_eq rfl
theorem QOx:Qe Tryz.prog Qo2:=Qh fun x _=>QLX x.1
def Qkr (t:Int):TRes:=zre (zci t)
def QmI:TRow:=Qf 29 [(.c (.sl [(.int .u8)])),(.c TI)] fun x=>(some (p_at x.1 x.2.1),Qkr (m_at x.1 x.2.1))
def QWI:List TRow:=[]
def QJz:TCode :=
 (zsq [(.reg [zmv 4 (zki 0)]),(zsq [(.reg [zmv 5 1,zmv 6 0,zle 7 6,zbi 8 .lss 5 7]),(.cond 8 (zsq [(.reg [zmv 9 0,zmv 10 1,zia 11 9 10 [(.int .u8)],zld 12 11 1,zop 13 (.conv .i64 12),zmv 4 13]),.ret]) .skip)]),(.reg [zmv 14 1,zbi 15 .mul 14 (zki 37),zmv 16 0,zle 17 16,zbi 18 .mul 17 (zki 11),zbi 19 .add 15 18,zbi 20 .rem 19 (zki 256),zmv 4 20]),.ret])
def QWG:List (ARv × Md):=[(.t 4,.one .d)]
theorem QEK (code:List Int) (i:Int) (h :
 (zif (decide (i<(code.length:Int))) (((0:Int)≤i∧Int.toNat i<code.length)∧K (Qkr (w64 ((gtd (0:Int) code (Int.toNat i)))))) ((¬ ((256:Int):Int)=0)∧K (Qkr (Int.tmod (w64 ((w64 (i*(37:Int)))+(w64 ((code.length:Int)*(11:Int))))) (256:Int)))))):Hold (tawp QWI (0+0) QJz (TQ 0 0 QWG K) (Qd [(.c (.sl [(.int .u8)]) code),(.c TI i)])) :=
 Hold.of (by kernel_rfl) h
theorem QN2 (code:List Int) (i:Int) (hp:p_at code i):TCon Tryz.prog 29 [(.c (.sl [(.int .u8)]) code),(.c TI i)] (Qkr (m_at code i)):=by
 refine Qj rfl fun hb=>tcg (n:=21) (sg:=QmI.sg) Qg TOk.nil (by kernel_rfl) (by kernel_rfl) (QEK _ code i ?_)
 have hl_code:code.length≤9223372036854775807:=hb.1.1
 have h0:0≤i:=hp
 refine ⟨fun h=>⟨⟨h0,by simp at h;omega⟩,R_eq ?_⟩,fun h=>⟨by omega,R_eq ?_⟩⟩
 ·rw [m_at,if_pos (by simpa using h)]
 ·rw [m_at,if_neg (by simpa using h)]
theorem QPu:Qe Tryz.prog QmI:=Qh fun x h=>QN2 x.1 x.2.1 h
end
end Go.Proofs.YtjbdljkhbglnhaaGreat.Am

