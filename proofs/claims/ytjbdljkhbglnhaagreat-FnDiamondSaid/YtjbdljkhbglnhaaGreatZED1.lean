/- -/
import Derived.Test.YtjbdljkhbglnhaaGreatZEG9
namespace Go.Proofs.YtjbdljkhbglnhaaGreat.Am
open Go Go.RowKit Go.Proofs.YtjbdljkhbglnhaaGreat
set_option linter.all false
set_option maxHeartbeats 2000000
noncomputable section
variable (K:TRes→Prop)
def QaX (t:(((List Int) × Int × Int))):TRes:=⟨(.p 0 0 0),[(.box [(zcs [(.int .u8)] t.1),(zci t.2.1),(zci t.2.2)])],[],true,[]⟩
def Qeq (x0:List Int):(((List Int) × Int × Int)):=Classical.epsilon fun t:(((List Int) × Int × Int))=>(QbU x0 t)∧TCon Tryz.prog 69 [(.c (.sl [(.int .u8)]) x0)] (QaX t)
def Qnc:TRow:=Qk 69 [(.c (.sl [(.int .u8)]))] fun x=>(some (J9 x.1),QaX (Qeq x.1))
def QmG:List TRow:=[]
def Qrh:TCode :=
 (zsq [(zsq [(.reg [zmv 8 4,zmv 9 0,zle 10 9,zbi 11 .lss 8 10,zmv 12 11,.grp 12 true [zmv 13 4,zbi 14 .lss 13 (zki 4000)] 15 14]),(.cond 15 .skip (.exit 0))]),(.block 1 (.reg [zmv 18 3,zbi 19 .mul 18 (zki 131),zmv 20 0,zmv 21 4,zia 22 20 21 [(.int .u8)],zld 23 22 1,zop 24 (.conv .i64 23),zbi 25 .add 19 24,zbi 26 .add 25 (zki 7),zbi 27 .and 26 (zki 1073741823),zmv 3 27])),(.reg [zmv 16 4,zbi 17 .add 16 (zki 1),zmv 4 17])])
def Qw7:List (Nat × Md):=zdl [0,3,4]
def QtS:TCode :=
 (zsq [(.reg [zmv 28 0,zmv 29 3,zop 30 (.build (z0s [(.sl [(.int .u8)]),TI,TI]) [(0,1,28),(2,1,29)]),zop 31 (.box 157 30 3),zmv 2 31]),.ret])
def QRm:TCode :=
 (zsq [(.reg [zmv 2 (.k (.c .nilp ()))]),(.reg [zmv 5 0,zle 6 5,zbi 7 .add (zki 10101) 6,zmv 3 7]),(zsq [(.reg [zmv 4 (zki 0)]),(.block 0 (.loop Qw7 Qrh))]),QtS])
def QrH:List (ARv × Md):=[(.t 2,.b [.d,.d,.d])]
def Qq5:Qb:=TQ 0 0 QrH K
def QN0:Qb:=Qseq (tawp QmG 0 QtS (Qq5 K)) (Qq5 K)
def QIB:Qb:=Qblk 0 (QN0 K)
def Qf7 (code:List Int) (h1:Int) (i:Int):Prop:=Loop QmG 0 Qw7 Qrh (QIB K) ⟨[(0,(zcs [(.int .u8)] code)),(3,(zci h1)),(4,(zci i))],[],0⟩
theorem QEP (code:List Int) (h1:Int) (i:Int) (h :
 (zif ((decide (i<(code.length:Int)))&&(decide (i<(4000:Int)))) (((0:Int)≤i∧Int.toNat i<code.length)∧(Qf7 K code (w64 (((BitVec.ofInt (IntKind.i64.bits) (w64 ((w64 ((w64 (h1*(131:Int)))+(w64 ((gtd (0:Int) code (Int.toNat i))))))+(7:Int))) &&& BitVec.ofInt (IntKind.i64.bits) (1073741823:Int)).toNat:Int))) (w64 (i+(1:Int))))) (K (QaX (code,(0:Int),h1))))):Qf7 K code h1 i :=
 Loop.of (by kernel_rfl) h
theorem QUY (code:List Int) (h :
 (Qf7 K code (w64 ((10101:Int)+(code.length:Int))) 0)):Hold (tawp QmG (0+0) QRm (TQ 0 0 QrH K) (Qg [(.c (.sl [(.int .u8)]) code)])) :=
 Hold.of (by kernel_rfl) h
theorem Qwk (code:List Int) (hp:J9 code):∃ t:(((List Int) × Int × Int)),(QbU code t)∧TCon Tryz.prog 69 [(.c (.sl [(.int .u8)]) code)] (QaX t):=by
 refine YT (tcx (n:=32) (sg:=Qnc.sg) Qm TOk.nil (by kernel_rfl) (by kernel_rfl) (QUY (fun r'=>∃ t,(QbU code t)∧r'=QaX t) code ?_))
 have hp':code.length≤1048576:=hp
 suffices h:∀ x:Int,Qf7 (fun r'=>∃ t,(QbU code t)∧r'=QaX t) code x ((0:Nat):Int) from h _
 refine Y4 (min code.length 4000) (fun k=>∀ x:Int,Qf7 (fun r'=>∃ t,(QbU code t)∧r'=QaX t) code x (k:Int)) ?_ ?_
 ·intro x
  refine QEP (fun r'=>∃ t,(QbU code t)∧r'=QaX t) code _ _ ⟨fun h=>?_,fun _=>(Zg ⟨Int.le_refl 0,hp⟩)⟩
  simp at h;omega
 ·intro k hk ih x
  refine QEP (fun r'=>∃ t,(QbU code t)∧r'=QaX t) code _ _ ⟨fun _=>⟨⟨by omega,by omega⟩,?_⟩,fun h=>?_⟩
  ·rw [sc1 (by omega)];exact ih _
  ·simp at h;omega
theorem Qus (code:List Int) (hp:J9 code):QbU code (Qeq code):=(Classical.epsilon_spec (Qwk code hp)).1
theorem QGC (code:List Int) (hp:J9 code):TCon Tryz.prog 69 [(.c (.sl [(.int .u8)]) code)] (QaX (Qeq code)):=(Classical.epsilon_spec (Qwk code hp)).2
theorem QXW:Qj Tryz.prog Qnc:=Qn fun x h=>QGC x.1 h
def Qdu (t:Int × (((List Int) × Int × Int))):TRes:=⟨(zci t.1),[],[[(zcs [(.int .u8)] t.2.1),(zci t.2.2.1),(zci t.2.2.2)]],true,[]⟩
def Ys (x0:((List Int) × Int × Int)):Int × (((List Int) × Int × Int)):=Classical.epsilon fun t:Int × (((List Int) × Int × Int))=>(QjF x0 t)∧TCon Tryz.prog 183 [(.bx [(.c (.sl [(.int .u8)]) x0.1),(.c TI x0.2.1),(.c TI x0.2.2)])] (Qdu t)
def Qm9:TRow:=Qk 183 [(.b [(.sl [(.int .u8)]),TI,TI])] fun x=>(some (QM x.1),Qdu (Ys x.1))
def QJ3:List TRow:=[]
def QXn:TCode :=
 (zsq [(.reg [zmv 2 (zki 0)]),(.reg [zmv 4 0,zmv 5 0,zop 6 (.nilc 5),zfa 7 6 2,zld 8 7 1,zbi 9 .mul 8 (zki 6364136223846793005),zbi 10 .add 9 (zki 1442695040888963407),zop 11 (.nilc 4),zfa 12 11 2,zst 12 10 1]),(.draw [zmv 13 0,zop 14 (.nilc 13),zfa 15 14 2,zld 16 15 1,zbi 17 .shr 16 (.k (.c (.int .u64) (33:Int))),zmv 18 0,zop 19 (.nilc 18),zfa 20 19 2,zld 21 20 1,zbi 22 .shr 21 (.k (.c (.int .u64) (45:Int))),zbi 23 .xor 17 22,zbi 24 .and 23 (zki 255),zmv 3 24] []),(zsq [(.draw [zmv 25 0,zop 26 (.nilc 25),zfa 27 26 1,zld 28 27 1,zmv 29 0,zop 30 (.nilc 29),zfa 31 30 0,zld 32 31 1,zle 33 32,zbi 34 .lss 28 33] []),(.cond 34 (zsq [(.draw [zmv 35 3,zmv 36 0,zop 37 (.nilc 36),zfa 38 37 0,zld 39 38 1,zmv 40 0,zop 41 (.nilc 40),zfa 42 41 1,zld 43 42 1,zia 44 39 43 [(.int .u8)],zld 45 44 1,zop 46 (.conv .i64 45),zbi 47 .add 35 46,zbi 48 .and 47 (zki 255),zmv 3 48] []),(.reg [zmv 49 0,zmv 50 0,zop 51 (.nilc 50),zfa 52 51 1,zld 53 52 1,zbi 54 .add 53 (zki 1),zop 55 (.nilc 49),zfa 56 55 1,zst 56 54 1])]) .skip)]),(.reg [zmv 57 3,zmv 2 57]),.ret])
def QKs:List (ARv × Md):=[(.t 2,.one .d)]
theorem QVS (c:((List Int) × Int × Int)) (h :
 let z2:=w64 (c.2.2*(6364136223846793005:Int))
 let z1:=BitVec.ofInt (IntKind.i64.bits) (w64 (((BitVec.ofInt (IntKind.i64.bits) (Int.fdiv (w64 (z2+(1442695040888963407:Int))) (2 ^ (min (Int.toNat (33:Int)) (IntKind.i64.bits)))) ^^^ BitVec.ofInt (IntKind.i64.bits) (Int.fdiv (w64 (z2+(1442695040888963407:Int))) (2 ^ (min (Int.toNat (45:Int)) (IntKind.i64.bits))))).toNat:Int))) &&& BitVec.ofInt (IntKind.i64.bits) (255:Int)
 ((((0:Int)≤(33:Int))∧((0:Int)≤(45:Int)))∧(zif (decide (c.2.1<((c.1).length:Int))) (((0:Int)≤c.2.1∧Int.toNat c.2.1<(c.1).length)∧K (Qdu (w64 (((BitVec.ofInt (IntKind.i64.bits) (w64 ((w64 ((z1.toNat:Int)))+(w64 ((gtd (0:Int) c.1 (Int.toNat c.2.1)))))) &&& BitVec.ofInt (IntKind.i64.bits) (255:Int)).toNat:Int)),(c.1,w64 (c.2.1+(1:Int)),w64 (z2+(1442695040888963407:Int)))))) (K (Qdu (w64 ((z1.toNat:Int)),(c.1,c.2.1,w64 (z2+(1442695040888963407:Int))))))))):Hold (tawp QJ3 (1+0) QXn (TQ 1 0 QKs K) (Qg [(.bx [(.c (.sl [(.int .u8)]) c.1),(.c TI c.2.1),(.c TI c.2.2)])])) :=
 Hold.of (by kernel_rfl) h
theorem Qzr (c:((List Int) × Int × Int)) (hp:QM c):∃ t:Int × (((List Int) × Int × Int)),(QjF c t)∧TCon Tryz.prog 183 [(.bx [(.c (.sl [(.int .u8)]) c.1),(.c TI c.2.1),(.c TI c.2.2)])] (Qdu t):=by
 refine YT (tcx (n:=58) (sg:=Qm9.sg) Qm TOk.nil (by kernel_rfl) (by kernel_rfl) (QVS (fun r'=>∃ t,(QjF c t)∧r'=Qdu t) c ?_))
 conv=>zeta
 have h1:=hp.1
 have h2:=hp.2
 refine ⟨⟨by omega,by omega⟩,fun h=>⟨⟨h1,by simp at h;omega⟩,Zg ⟨(Qiv _).1,(Qiv _).2,?_,h2⟩⟩,fun h=>(Zg ⟨(Qiv _).1,(Qiv _).2,h1,h2⟩)⟩
 simp at h
 show 0≤w64 (c.2.1+1)
 rw [Qr (by omega) (by omega)];omega
theorem Qfz (c:((List Int) × Int × Int)) (hp:QM c):QjF c (Ys c):=(Classical.epsilon_spec (Qzr c hp)).1
theorem QYo (c:((List Int) × Int × Int)) (hp:QM c):TCon Tryz.prog 183 [(.bx [(.c (.sl [(.int .u8)]) c.1),(.c TI c.2.1),(.c TI c.2.2)])] (Qdu (Ys c)):=(Classical.epsilon_spec (Qzr c hp)).2
theorem QIn:Qj Tryz.prog Qm9:=Qn fun x h=>QYo x.1 h
def Qcf (t:Int × (((List Int) × Int × Int))):TRes:=⟨(zci t.1),[],[[(zcs [(.int .u8)] t.2.1),(zci t.2.2.1),(zci t.2.2.2)]],true,[]⟩
def Qp (x0:((List Int) × Int × Int)) (x1:Int):Int × (((List Int) × Int × Int)):=Classical.epsilon fun t:Int × (((List Int) × Int × Int))=>(QgN x0 x1 t)∧TCon Tryz.prog 108 [(.bx [(.c (.sl [(.int .u8)]) x0.1),(.c TI x0.2.1),(.c TI x0.2.2)]),(.c TI x1)] (Qcf t)
def JK:TRow:=Qk 108 [(.b [(.sl [(.int .u8)]),TI,TI]),(.c TI)] fun x=>(some (Zq x.1 x.2.1),Qcf (Qp x.1 x.2.1))
def QMH:List TRow:=[Qm9]
def QWM:TCode :=
 (zsq [(.reg [zmv 4 (zki 0)]),(zsq [(.reg [zmv 9 1,zbi 10 .leq 9 (zki 0)]),(.cond 10 (zsq [(.reg [zmv 4 (zki 0)]),.ret]) .skip)]),(zsq [(.reg [zmv 11 1,zbi 12 .leq 11 (zki 256)]),(.cond 12 (zsq [(.reg [zmv 13 0,zca 14 183 [13],zmv 15 1,zbi 16 .rem 14 15,zmv 4 16]),.ret]) .skip)]),(.reg [zmv 17 0,zca 18 183 [17],zmv 5 18]),(.reg [zmv 19 0,zca 20 183 [19],zmv 6 20]),(.reg [zmv 21 0,zca 22 183 [21],zmv 7 22]),(.reg [zmv 23 0,zca 24 183 [23],zmv 8 24]),(.reg [zmv 25 5,zbi 26 .mul 25 (zki 16777216),zmv 27 6,zbi 28 .mul 27 (zki 65536),zbi 29 .add 26 28,zmv 30 7,zbi 31 .mul 30 (zki 256),zbi 32 .add 29 31,zmv 33 8,zbi 34 .add 32 33,zmv 35 1,zbi 36 .rem 34 35,zmv 4 36]),.ret])
def QX4:List (ARv × Md):=[(.t 4,.one .d)]
theorem QQm (c:((List Int) × Int × Int)) (n:Int) (h :
 (zif (decide (n≤(0:Int))) (K (Qcf ((0:Int),c))) (zif (decide (n≤(256:Int))) (((QM c)∧(¬ (n:Int)=0))∧K (Qcf ((Int.tmod ((Ys c).1) n),((Ys c).2)))) ((QM c)∧((QM ((Ys c).2))∧((QM ((Ys ((Ys c).2)).2))∧((QM ((Ys ((Ys ((Ys c).2)).2)).2))∧((¬ (n:Int)=0)∧K (Qcf ((Int.tmod (w64 ((w64 ((w64 ((w64 (((Ys c).1)*(16777216:Int)))+(w64 (((Ys ((Ys c).2)).1)*(65536:Int)))))+(w64 (((Ys ((Ys ((Ys c).2)).2)).1)*(256:Int)))))+((Ys ((Ys ((Ys ((Ys c).2)).2)).2)).1))) n),((Ys ((Ys ((Ys ((Ys c).2)).2)).2)).2))))))))))):Hold (tawp QMH (1+0) QWM (TQ 1 0 QX4 K) (Qg [(.bx [(.c (.sl [(.int .u8)]) c.1),(.c TI c.2.1),(.c TI c.2.2)]),(.c TI n)])) :=
 Hold.of (by kernel_rfl) h
theorem Qw6 (c:((List Int) × Int × Int)) (n:Int) (hp:Zq c n):∃ t:Int × (((List Int) × Int × Int)),(QgN c n t)∧TCon Tryz.prog 108 [(.bx [(.c (.sl [(.int .u8)]) c.1),(.c TI c.2.1),(.c TI c.2.2)]),(.c TI n)] (Qcf t):=by
 refine YT (tcx (n:=37) (sg:=JK.sg) Qm (TOk.cons QIn TOk.nil) (by kernel_rfl) (by kernel_rfl) (QQm (fun r'=>∃ t,(QgN c n t)∧r'=Qcf t) c n ?_))
 refine ⟨fun h=>(Zg ⟨Int.le_refl 0,fun h2=>by simp at h;omega,fun _=>rfl,hp⟩),fun h=>⟨fun h2=>?_,fun h2=>?_⟩⟩
 ·have b1:=Qfz c hp
  simp at h
  exact ⟨⟨hp,by omega⟩,Zg ⟨Int.tmod_nonneg _ b1.1,fun h0=>Int.tmod_lt_of_pos _ h0,fun h0=>by omega,b1.2.2⟩⟩
 ·have b1:=Qfz c hp
  have b2:=Qfz _ b1.2.2
  have b3:=Qfz _ b2.2.2
  have b4:=Qfz _ b3.2.2
  simp at h
  refine ⟨hp,b1.2.2,b2.2.2,b3.2.2,by omega,Zg ⟨Int.tmod_nonneg _ ?_,fun h0=>Int.tmod_lt_of_pos _ h0,fun h0=>by omega,b4.2.2⟩⟩
  have h1:=b1.1
  have h2:=b1.2.1
  have h3:=b2.1
  have h4:=b2.2.1
  have h5:=b3.1
  have h6:=b3.2.1
  have h7:=b4.1
  have h8:=b4.2.1
  clear b1 b2 b3 b4
  rw [Qr (x:=_*16777216) (by omega) (by omega),Qr (x:=_*65536) (by omega) (by omega),Qr (x:=_*256) (by omega) (by omega)]
  rw [Qr (x:=_*16777216+_) (by omega) (by omega),Qr (x:=_+_*256) (by omega) (by omega),Qr (by omega) (by omega)]
  omega
theorem Yq (c:((List Int) × Int × Int)) (n:Int) (hp:Zq c n):QgN c n (Qp c n):=(Classical.epsilon_spec (Qw6 c n hp)).1
theorem QLg (c:((List Int) × Int × Int)) (n:Int) (hp:Zq c n):TCon Tryz.prog 108 [(.bx [(.c (.sl [(.int .u8)]) c.1),(.c TI c.2.1),(.c TI c.2.2)]),(.c TI n)] (Qcf (Qp c n)):=(Classical.epsilon_spec (Qw6 c n hp)).2
theorem Qak:Qj Tryz.prog JK:=Qn fun x h=>QLg x.1 x.2.1 h
def QeD (t:Bool × (((List Int) × Int × Int))):TRes:=⟨(zcb t.1),[],[[(zcs [(.int .u8)] t.2.1),(zci t.2.2.1),(zci t.2.2.2)]],true,[]⟩
def ZW (x0:((List Int) × Int × Int)) (x1:Int):Bool × (((List Int) × Int × Int)):=Classical.epsilon fun t:Bool × (((List Int) × Int × Int))=>(Qg1 x0 x1 t)∧TCon Tryz.prog 106 [(.bx [(.c (.sl [(.int .u8)]) x0.1),(.c TI x0.2.1),(.c TI x0.2.2)]),(.c TI x1)] (QeD t)
def QfG:TRow:=Qk 106 [(.b [(.sl [(.int .u8)]),TI,TI]),(.c TI)] fun x=>(some (Zq x.1 x.2.1),QeD (ZW x.1 x.2.1))
def QIv:List TRow:=[JK]
def QJ5:TCode :=
 (zsq [(.reg [zmv 4 (zkb false)]),(.reg [zmv 5 0,zmv 6 1,zca 7 108 [5,6],zbi 8 .eql 7 (zki 0),zmv 4 8]),.ret])
def QQl:List (ARv × Md):=[(.t 4,.one .d)]
theorem QOW (c:((List Int) × Int × Int)) (n:Int) (h :
 ((Zq c n)∧K (QeD ((((Qp c n).1)==(0:Int)),((Qp c n).2))))):Hold (tawp QIv (1+0) QJ5 (TQ 1 0 QQl K) (Qg [(.bx [(.c (.sl [(.int .u8)]) c.1),(.c TI c.2.1),(.c TI c.2.2)]),(.c TI n)])) :=
 Hold.of (by kernel_rfl) h
theorem QB1 (c:((List Int) × Int × Int)) (n:Int) (hp:Zq c n):∃ t:Bool × (((List Int) × Int × Int)),(Qg1 c n t)∧TCon Tryz.prog 106 [(.bx [(.c (.sl [(.int .u8)]) c.1),(.c TI c.2.1),(.c TI c.2.2)]),(.c TI n)] (QeD t):=by
 refine YT (tcx (n:=9) (sg:=QfG.sg) Qm (TOk.cons Qak TOk.nil) (by kernel_rfl) (by kernel_rfl) (QOW (fun r'=>∃ t,(Qg1 c n t)∧r'=QeD t) c n ?_))
 exact ⟨hp,Zg ((Yq c n hp).2.2.2)⟩
theorem Qqi (c:((List Int) × Int × Int)) (n:Int) (hp:Zq c n):Qg1 c n (ZW c n):=(Classical.epsilon_spec (QB1 c n hp)).1
theorem QNm (c:((List Int) × Int × Int)) (n:Int) (hp:Zq c n):TCon Tryz.prog 106 [(.bx [(.c (.sl [(.int .u8)]) c.1),(.c TI c.2.1),(.c TI c.2.2)]),(.c TI n)] (QeD (ZW c n)):=(Classical.epsilon_spec (QB1 c n hp)).2
theorem QlJ:Qj Tryz.prog QfG:=Qn fun x h=>QNm x.1 x.2.1 h
def Qeu (t:Int × (((List Int) × Int × Int))):TRes:=⟨(zci t.1),[],[[(zcs [(.int .u8)] t.2.1),(zci t.2.2.1),(zci t.2.2.2)]],true,[]⟩
def ZN (x0:((List Int) × Int × Int)) (x1:List Int):Int × (((List Int) × Int × Int)):=Classical.epsilon fun t:Int × (((List Int) × Int × Int))=>(Qg4 x0 x1 t)∧TCon Tryz.prog 145 [(.bx [(.c (.sl [(.int .u8)]) x0.1),(.c TI x0.2.1),(.c TI x0.2.2)]),(.c (.sl [TI]) x1)] (Qeu t)
def Qcg:TRow:=Qk 145 [(.b [(.sl [(.int .u8)]),TI,TI]),(.c (.sl [TI]))] fun x=>(some (Ja x.1 x.2.1),Qeu (ZN x.1 x.2.1))
def QX2:List TRow:=[JK]
def QJs:TCode :=
 (zsq [(.reg [zmv 4 (zki 0)]),(.reg [zmv 5 1,zmv 6 0,zmv 7 1,zle 8 7,zca 9 108 [6,8],zia 10 5 9 [TI],zld 11 10 1,zmv 4 11]),.ret])
def QWe:List (ARv × Md):=[(.t 4,.one .d)]
theorem QNI (c:((List Int) × Int × Int)) (list:List Int) (h :
 (((Zq c (list.length:Int))∧((0:Int)≤(Qp c (list.length:Int)).1∧Int.toNat ((Qp c (list.length:Int)).1)<list.length))∧K (Qeu ((gtd (0:Int) list (Int.toNat ((Qp c (list.length:Int)).1))),((Qp c (list.length:Int)).2))))):Hold (tawp QX2 (1+0) QJs (TQ 1 0 QWe K) (Qg [(.bx [(.c (.sl [(.int .u8)]) c.1),(.c TI c.2.1),(.c TI c.2.2)]),(.c (.sl [TI]) list)])) :=
 Hold.of (by kernel_rfl) h
theorem QrA (c:((List Int) × Int × Int)) (list:List Int) (hp:Ja c list):∃ t:Int × (((List Int) × Int × Int)),(Qg4 c list t)∧TCon Tryz.prog 145 [(.bx [(.c (.sl [(.int .u8)]) c.1),(.c TI c.2.1),(.c TI c.2.2)]),(.c (.sl [TI]) list)] (Qeu t):=by
 refine YT (tcx (n:=12) (sg:=Qcg.sg) Qm (TOk.cons Qak TOk.nil) (by kernel_rfl) (by kernel_rfl) (QNI (fun r'=>∃ t,(Qg4 c list t)∧r'=Qeu t) c list ?_))
 have b:=Yq c list.length hp.1
 have h1:=hp.2.1
 have h2:=b.2.1 (by omega)
 have h3:=b.1
 exact ⟨⟨hp.1,h3,by omega⟩,Zg ⟨Y5 (by omega) _,b.2.2.2⟩⟩
theorem Qei (c:((List Int) × Int × Int)) (list:List Int) (hp:Ja c list):Qg4 c list (ZN c list):=(Classical.epsilon_spec (QrA c list hp)).1
theorem QN5 (c:((List Int) × Int × Int)) (list:List Int) (hp:Ja c list):TCon Tryz.prog 145 [(.bx [(.c (.sl [(.int .u8)]) c.1),(.c TI c.2.1),(.c TI c.2.2)]),(.c (.sl [TI]) list)] (Qeu (ZN c list)):=(Classical.epsilon_spec (QrA c list hp)).2
theorem QeG:Qj Tryz.prog Qcg:=Qn fun x h=>QN5 x.1 x.2.1 h
def Qnn (t:Bool):TRes:=zre (zcb t)
def Qn9:TRow:=Qk 13 [(.c (.sl [(.int .u8)]))] fun x=>(none,Qnn (Qgm x.1))
def QGR:List TRow:=[]
def QHE:TCode :=
 (zsq [(.reg [zmv 2 (zkb false)]),(.reg [zmv 3 0,zle 4 3,zbi 5 .gtr 4 (zki 1048576),zmv 2 5]),.ret])
def QJm:List (ARv × Md):=[(.t 2,.one .d)]
theorem QFW (code:List Int) (h :
 K (Qnn (decide ((code.length:Int)>(1048576:Int))))):Hold (tawp QGR (0+0) QHE (TQ 0 0 QJm K) (Qg [(.c (.sl [(.int .u8)]) code)])) :=
 Hold.of (by kernel_rfl) h
theorem QIV (code:List Int):TCon Tryz.prog 13 [(.c (.sl [(.int .u8)]) code)] (Qnn (Qgm code)):=by
 refine Qo rfl fun hb=>tcg (n:=6) (sg:=Qn9.sg) Qm TOk.nil (by kernel_rfl) (by kernel_rfl) (QFW _ code ?_)
 have hl_code:code.length≤9223372036854775807:=hb.1.1
 exact R_eq rfl
theorem QWI:Qj Tryz.prog Qn9:=Qn fun x _=>QIV x.1
def Qhx (t:Int):TRes:=zre (zci t)
def Qia:TRow:=Qk 29 [(.c (.sl [(.int .u8)])),(.c TI)] fun x=>(some (p_at x.1 x.2.1),Qhx (m_at x.1 x.2.1))
def QKq:List TRow:=[]
def QH1:TCode :=
 (zsq [(.reg [zmv 4 (zki 0)]),(zsq [(.reg [zmv 5 1,zmv 6 0,zle 7 6,zbi 8 .lss 5 7]),(.cond 8 (zsq [(.reg [zmv 9 0,zmv 10 1,zia 11 9 10 [(.int .u8)],zld 12 11 1,zop 13 (.conv .i64 12),zmv 4 13]),.ret]) .skip)]),(.reg [zmv 14 1,zbi 15 .mul 14 (zki 37),zmv 16 0,zle 17 16,zbi 18 .mul 17 (zki 11),zbi 19 .add 15 18,zbi 20 .rem 19 (zki 256),zmv 4 20]),.ret])
def QWA:List (ARv × Md):=[(.t 4,.one .d)]
theorem QUo (code:List Int) (i:Int) (h :
 (zif (decide (i<(code.length:Int))) (((0:Int)≤i∧Int.toNat i<code.length)∧K (Qhx (w64 ((gtd (0:Int) code (Int.toNat i)))))) ((¬ ((256:Int):Int)=0)∧K (Qhx (Int.tmod (w64 ((w64 (i*(37:Int)))+(w64 ((code.length:Int)*(11:Int))))) (256:Int)))))):Hold (tawp QKq (0+0) QH1 (TQ 0 0 QWA K) (Qg [(.c (.sl [(.int .u8)]) code),(.c TI i)])) :=
 Hold.of (by kernel_rfl) h
theorem QTv (code:List Int) (i:Int) (hp:p_at code i):TCon Tryz.prog 29 [(.c (.sl [(.int .u8)]) code),(.c TI i)] (Qhx (m_at code i)):=by
 refine Qo rfl fun hb=>tcg (n:=21) (sg:=Qia.sg) Qm TOk.nil (by kernel_rfl) (by kernel_rfl) (QUo _ code i ?_)
 have hl_code:code.length≤9223372036854775807:=hb.1.1
 have h0:0≤i:=hp
 refine ⟨fun h=>⟨⟨h0,by simp at h;omega⟩,R_eq ?_⟩,fun h=>⟨by omega,R_eq ?_⟩⟩
 ·rw [m_at,if_pos (by simpa using h)]
 ·rw [m_at,if_neg (by simpa using h)]
theorem QDd:Qj Tryz.prog Qia:=Qn fun x h=>QTv x.1 x.2.1 h
def Qby (t:Bool):TRes:=zre (zcb t)
def QoD:TRow:=Qk 31 [(.c (.sl [TI])),(.c (.sl [TI]))] fun x=>(none,Qby (m_eq (α:=List Int) x.1 x.2.1))
def QmZ:List TRow:=[]
def QyO:TCode :=
 (zsq [(zsq [(.reg [zmv 11 5,zmv 12 0,zle 13 12,zbi 14 .lss 11 13]),(.cond 14 .skip (.exit 0))]),(.block 1 (zsq [(.draw [zmv 17 0,zmv 18 5,zia 19 17 18 [TI],zld 20 19 1,zmv 21 1,zmv 22 5,zia 23 21 22 [TI],zld 24 23 1,zbi 25 .neq 20 24] []),(.cond 25 (zsq [(.reg [zmv 4 (zkb false)]),.ret]) .skip)])),(.reg [zmv 15 5,zbi 16 .add 15 (zki 1),zmv 5 16])])
def QBE:List (Nat × Md):=zdl [0,1,5]
def Qxd:TCode :=
 (zsq [(.reg [zmv 4 (zkb true)]),.ret])
def QQA:TCode :=
 (zsq [(.reg [zmv 4 (zkb false)]),(zsq [(.reg [zmv 6 0,zle 7 6,zmv 8 1,zle 9 8,zbi 10 .neq 7 9]),(.cond 10 (zsq [(.reg [zmv 4 (zkb false)]),.ret]) .skip)]),(zsq [(.reg [zmv 5 (zki 0)]),(.block 0 (.loop QBE QyO))]),Qxd])
def QvH:List (ARv × Md):=[(.t 4,.one .d)]
def Qu0:Qb:=TQ 0 0 QvH K
def QHm:Qb:=Qseq (tawp QmZ 0 Qxd (Qu0 K)) (Qu0 K)
def QHU:Qb:=Qblk 0 (QHm K)
def Qmy (a:List Int) (b:List Int) (i:Int):Prop:=Loop QmZ 0 QBE QyO (QHU K) ⟨[(0,(zcs [TI] a)),(1,(zcs [TI] b)),(5,(zci i))],[],0⟩
theorem QYF (a:List Int) (b:List Int) (i:Int) (h :
 (zif (decide (i<(a.length:Int))) ((((0:Int)≤i∧Int.toNat i<a.length)∧((0:Int)≤i∧Int.toNat i<b.length))∧(zif ((gtd (0:Int) a (Int.toNat i)) != (gtd (0:Int) b (Int.toNat i))) (K (Qby false)) (Qmy K a b (w64 (i+(1:Int)))))) (K (Qby true)))):Qmy K a b i :=
 Loop.of (by kernel_rfl) h
theorem QYg (a:List Int) (b:List Int) (h :
 (zif ((a.length:Int) != (b.length:Int)) (K (Qby false)) (Qmy K a b 0))):Hold (tawp QmZ (0+0) QQA (TQ 0 0 QvH K) (Qg [(.c (.sl [TI]) a),(.c (.sl [TI]) b)])) :=
 Hold.of (by kernel_rfl) h
theorem QNq (a:List Int) (b:List Int):TCon Tryz.prog 31 [(.c (.sl [TI]) a),(.c (.sl [TI]) b)] (Qby (m_eq (α:=List Int) a b)):=by
 refine Qo rfl fun hb=>tcg (n:=26) (sg:=QoD.sg) Qm TOk.nil (by kernel_rfl) (by kernel_rfl) (QYg _ a b ?_)
 have hl_a:a.length≤9223372036854775807:=hb.1.1
 have hl_b:b.length≤9223372036854775807:=hb.2.1.1
 exact QCp hb.1.1 (fun i h=>QYF (fun r'=>r'=Qby (m_eq (α:=List Int) a b)) a b i h) (Q:=fun x=>Qby x=Qby (m_eq (α:=List Int) a b)) rfl
theorem QME:Qj Tryz.prog QoD:=Qn fun x _=>QNq x.1 x.2.1
end
end Go.Proofs.YtjbdljkhbglnhaaGreat.Am

