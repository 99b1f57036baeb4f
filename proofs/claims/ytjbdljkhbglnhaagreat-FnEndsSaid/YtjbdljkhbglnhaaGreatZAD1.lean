/- -/
import Derived.Test.YtjbdljkhbglnhaaGreatZAG9
namespace Go.Proofs.YtjbdljkhbglnhaaGreat.Am
open Go Go.RowKit Go.Proofs.YtjbdljkhbglnhaaGreat
set_option linter.all false
set_option maxHeartbeats 2000000
noncomputable section
variable (K:TRes→Prop)
def QaF (t:(((List Int) × Int × Int))):TRes:=⟨(.p 0 0 0),[(.box [(zcs [(.int .u8)] t.1),(zci t.2.1),(zci t.2.2)])],[],true,[]⟩
def Qd3 (x0:List Int):(((List Int) × Int × Int)):=Classical.epsilon fun t:(((List Int) × Int × Int))=>(Qb2 x0 t)∧TCon Tryz.prog 69 [(.c (.sl [(.int .u8)]) x0)] (QaF t)
def Qlt:TRow:=Qj 69 [(.c (.sl [(.int .u8)]))] fun x=>(some (Qam x.1),QaF (Qd3 x.1))
def QkX:List TRow:=[]
def Qui:TCode :=
 (zsq [(zsq [(.reg [zmv 8 4,zmv 9 0,zle 10 9,zbi 11 .lss 8 10,zmv 12 11,.grp 12 true [zmv 13 4,zbi 14 .lss 13 (zki 4000)] 15 14]),(.cond 15 .skip (.exit 0))]),(.block 1 (.reg [zmv 18 3,zbi 19 .mul 18 (zki 131),zmv 20 0,zmv 21 4,zia 22 20 21 [(.int .u8)],zld 23 22 1,zop 24 (.conv .i64 23),zbi 25 .add 19 24,zbi 26 .add 25 (zki 7),zbi 27 .and 26 (zki 1073741823),zmv 3 27])),(.reg [zmv 16 4,zbi 17 .add 16 (zki 1),zmv 4 17])])
def Quw:List (Nat × Md):=zdl [0,3,4]
def Qpz:TCode :=
 (zsq [(.reg [zmv 28 0,zmv 29 3,zop 30 (.build (z0s [(.sl [(.int .u8)]),TI,TI]) [(0,1,28),(2,1,29)]),zop 31 (.box 157 30 3),zmv 2 31]),.ret])
def QKi:TCode :=
 (zsq [(.reg [zmv 2 (.k (.c .nilp ()))]),(.reg [zmv 5 0,zle 6 5,zbi 7 .add (zki 10101) 6,zmv 3 7]),(zsq [(.reg [zmv 4 (zki 0)]),(.block 0 (.loop Quw Qui))]),Qpz])
def QxG:List (ARv × Md):=[(.t 2,.b [.d,.d,.d])]
def QsY:Qb:=TQ 0 0 QxG K
def QQz:Qb:=Qseq (tawp QkX 0 Qpz (QsY K)) (QsY K)
def QHl:Qb:=Qblk 0 (QQz K)
def Qem (code:List Int) (h1:Int) (i:Int):Prop:=Loop QkX 0 Quw Qui (QHl K) ⟨[(0,(zcs [(.int .u8)] code)),(3,(zci h1)),(4,(zci i))],[],0⟩
theorem Qtz (code:List Int) (h1:Int) (i:Int) (h :
 (zif ((decide (i<(code.length:Int)))&&(decide (i<(4000:Int)))) (((0:Int)≤i∧Int.toNat i<code.length)∧(Qem K code (w64 (((BitVec.ofInt (IntKind.i64.bits) (w64 ((w64 ((w64 (h1*(131:Int)))+(w64 ((gtd (0:Int) code (Int.toNat i))))))+(7:Int))) &&& BitVec.ofInt (IntKind.i64.bits) (1073741823:Int)).toNat:Int))) (w64 (i+(1:Int))))) (K (QaF (code,(0:Int),h1))))):Qem K code h1 i :=
 Loop.of (by kernel_rfl) h
theorem QLc (code:List Int) (h :
 (Qem K code (w64 ((10101:Int)+(code.length:Int))) 0)):Hold (tawp QkX (0+0) QKi (TQ 0 0 QxG K) (Qf [(.c (.sl [(.int .u8)]) code)])) :=
 Hold.of (by kernel_rfl) h
theorem Qrr (code:List Int) (hp:Qam code):∃ t:(((List Int) × Int × Int)),(Qb2 code t)∧TCon Tryz.prog 69 [(.c (.sl [(.int .u8)]) code)] (QaF t):=by
 refine YP (tcx (n:=32) (sg:=Qlt.sg) Ql TOk.nil (by kernel_rfl) (by kernel_rfl) (QLc (fun r'=>∃ t,(Qb2 code t)∧r'=QaF t) code ?_))
 have hp':code.length≤1048576:=hp
 suffices h:∀ x:Int,Qem (fun r'=>∃ t,(Qb2 code t)∧r'=QaF t) code x ((0:Nat):Int) from h _
 refine QaG (min code.length 4000) (fun k=>∀ x:Int,Qem (fun r'=>∃ t,(Qb2 code t)∧r'=QaF t) code x (k:Int)) ?_ ?_
 ·intro x
  refine Qtz (fun r'=>∃ t,(Qb2 code t)∧r'=QaF t) code _ _ ⟨fun h=>?_,fun _=>(Q4 ⟨Int.le_refl 0,hp⟩)⟩
  simp at h;omega
 ·intro k hk ih x
  refine Qtz (fun r'=>∃ t,(Qb2 code t)∧r'=QaF t) code _ _ ⟨fun _=>⟨⟨by omega,by omega⟩,?_⟩,fun h=>?_⟩
  ·rw [sc1 (by omega)];exact ih _
  ·simp at h;omega
theorem Qwq (code:List Int) (hp:Qam code):Qb2 code (Qd3 code):=(Classical.epsilon_spec (Qrr code hp)).1
theorem QEl (code:List Int) (hp:Qam code):TCon Tryz.prog 69 [(.c (.sl [(.int .u8)]) code)] (QaF (Qd3 code)):=(Classical.epsilon_spec (Qrr code hp)).2
theorem QFk:Qi Tryz.prog Qlt:=Qm fun x h=>QEl x.1 h
def QcI (t:Int × (((List Int) × Int × Int))):TRes:=⟨(zci t.1),[],[[(zcs [(.int .u8)] t.2.1),(zci t.2.2.1),(zci t.2.2.2)]],true,[]⟩
def Z5 (x0:((List Int) × Int × Int)):Int × (((List Int) × Int × Int)):=Classical.epsilon fun t:Int × (((List Int) × Int × Int))=>(Qif x0 t)∧TCon Tryz.prog 183 [(.bx [(.c (.sl [(.int .u8)]) x0.1),(.c TI x0.2.1),(.c TI x0.2.2)])] (QcI t)
def QmD:TRow:=Qj 183 [(.b [(.sl [(.int .u8)]),TI,TI])] fun x=>(some (Qx x.1),QcI (Z5 x.1))
def QG4:List TRow:=[]
def QQN:TCode :=
 (zsq [(.reg [zmv 2 (zki 0)]),(.reg [zmv 4 0,zmv 5 0,zop 6 (.nilc 5),zfa 7 6 2,zld 8 7 1,zbi 9 .mul 8 (zki 6364136223846793005),zbi 10 .add 9 (zki 1442695040888963407),zop 11 (.nilc 4),zfa 12 11 2,zst 12 10 1]),(.draw [zmv 13 0,zop 14 (.nilc 13),zfa 15 14 2,zld 16 15 1,zbi 17 .shr 16 (.k (.c (.int .u64) (33:Int))),zmv 18 0,zop 19 (.nilc 18),zfa 20 19 2,zld 21 20 1,zbi 22 .shr 21 (.k (.c (.int .u64) (45:Int))),zbi 23 .xor 17 22,zbi 24 .and 23 (zki 255),zmv 3 24] []),(zsq [(.draw [zmv 25 0,zop 26 (.nilc 25),zfa 27 26 1,zld 28 27 1,zmv 29 0,zop 30 (.nilc 29),zfa 31 30 0,zld 32 31 1,zle 33 32,zbi 34 .lss 28 33] []),(.cond 34 (zsq [(.draw [zmv 35 3,zmv 36 0,zop 37 (.nilc 36),zfa 38 37 0,zld 39 38 1,zmv 40 0,zop 41 (.nilc 40),zfa 42 41 1,zld 43 42 1,zia 44 39 43 [(.int .u8)],zld 45 44 1,zop 46 (.conv .i64 45),zbi 47 .add 35 46,zbi 48 .and 47 (zki 255),zmv 3 48] []),(.reg [zmv 49 0,zmv 50 0,zop 51 (.nilc 50),zfa 52 51 1,zld 53 52 1,zbi 54 .add 53 (zki 1),zop 55 (.nilc 49),zfa 56 55 1,zst 56 54 1])]) .skip)]),(.reg [zmv 57 3,zmv 2 57]),.ret])
def QMI:List (ARv × Md):=[(.t 2,.one .d)]
theorem QIK (c:((List Int) × Int × Int)) (h :
 let z2:=w64 (c.2.2*(6364136223846793005:Int))
 let z1:=BitVec.ofInt (IntKind.i64.bits) (w64 (((BitVec.ofInt (IntKind.i64.bits) (Int.fdiv (w64 (z2+(1442695040888963407:Int))) (2 ^ (min (Int.toNat (33:Int)) (IntKind.i64.bits)))) ^^^ BitVec.ofInt (IntKind.i64.bits) (Int.fdiv (w64 (z2+(1442695040888963407:Int))) (2 ^ (min (Int.toNat (45:Int)) (IntKind.i64.bits))))).toNat:Int))) &&& BitVec.ofInt (IntKind.i64.bits) (255:Int)
 ((((0:Int)≤(33:Int))∧((0:Int)≤(45:Int)))∧(zif (decide (c.2.1<((c.1).length:Int))) (((0:Int)≤c.2.1∧Int.toNat c.2.1<(c.1).length)∧K (QcI (w64 (((BitVec.ofInt (IntKind.i64.bits) (w64 ((w64 ((z1.toNat:Int)))+(w64 ((gtd (0:Int) c.1 (Int.toNat c.2.1)))))) &&& BitVec.ofInt (IntKind.i64.bits) (255:Int)).toNat:Int)),(c.1,w64 (c.2.1+(1:Int)),w64 (z2+(1442695040888963407:Int)))))) (K (QcI (w64 ((z1.toNat:Int)),(c.1,c.2.1,w64 (z2+(1442695040888963407:Int))))))))):Hold (tawp QG4 (1+0) QQN (TQ 1 0 QMI K) (Qf [(.bx [(.c (.sl [(.int .u8)]) c.1),(.c TI c.2.1),(.c TI c.2.2)])])) :=
 Hold.of (by kernel_rfl) h
theorem Qz9 (c:((List Int) × Int × Int)) (hp:Qx c):∃ t:Int × (((List Int) × Int × Int)),(Qif c t)∧TCon Tryz.prog 183 [(.bx [(.c (.sl [(.int .u8)]) c.1),(.c TI c.2.1),(.c TI c.2.2)])] (QcI t):=by
 refine YP (tcx (n:=58) (sg:=QmD.sg) Ql TOk.nil (by kernel_rfl) (by kernel_rfl) (QIK (fun r'=>∃ t,(Qif c t)∧r'=QcI t) c ?_))
 conv=>zeta
 have h1:=hp.1
 have h2:=hp.2
 refine ⟨⟨by omega,by omega⟩,fun h=>⟨⟨h1,by simp at h;omega⟩,Q4 ⟨(QgW _).1,(QgW _).2,?_,h2⟩⟩,fun h=>(Q4 ⟨(QgW _).1,(QgW _).2,h1,h2⟩)⟩
 simp at h
 show 0≤w64 (c.2.1+1)
 rw [Qp (by omega) (by omega)];omega
theorem Qfj (c:((List Int) × Int × Int)) (hp:Qx c):Qif c (Z5 c):=(Classical.epsilon_spec (Qz9 c hp)).1
theorem QQM (c:((List Int) × Int × Int)) (hp:Qx c):TCon Tryz.prog 183 [(.bx [(.c (.sl [(.int .u8)]) c.1),(.c TI c.2.1),(.c TI c.2.2)])] (QcI (Z5 c)):=(Classical.epsilon_spec (Qz9 c hp)).2
theorem QLE:Qi Tryz.prog QmD:=Qm fun x h=>QQM x.1 h
def Qby (t:Int × (((List Int) × Int × Int))):TRes:=⟨(zci t.1),[],[[(zcs [(.int .u8)] t.2.1),(zci t.2.2.1),(zci t.2.2.2)]],true,[]⟩
def Qg (x0:((List Int) × Int × Int)) (x1:Int):Int × (((List Int) × Int × Int)):=Classical.epsilon fun t:Int × (((List Int) × Int × Int))=>(QiE x0 x1 t)∧TCon Tryz.prog 108 [(.bx [(.c (.sl [(.int .u8)]) x0.1),(.c TI x0.2.1),(.c TI x0.2.2)]),(.c TI x1)] (Qby t)
def Jt:TRow:=Qj 108 [(.b [(.sl [(.int .u8)]),TI,TI]),(.c TI)] fun x=>(some (Zc x.1 x.2.1),Qby (Qg x.1 x.2.1))
def QHT:List TRow:=[QmD]
def QIj:TCode :=
 (zsq [(.reg [zmv 4 (zki 0)]),(zsq [(.reg [zmv 9 1,zbi 10 .leq 9 (zki 0)]),(.cond 10 (zsq [(.reg [zmv 4 (zki 0)]),.ret]) .skip)]),(zsq [(.reg [zmv 11 1,zbi 12 .leq 11 (zki 256)]),(.cond 12 (zsq [(.reg [zmv 13 0,zca 14 183 [13],zmv 15 1,zbi 16 .rem 14 15,zmv 4 16]),.ret]) .skip)]),(.reg [zmv 17 0,zca 18 183 [17],zmv 5 18]),(.reg [zmv 19 0,zca 20 183 [19],zmv 6 20]),(.reg [zmv 21 0,zca 22 183 [21],zmv 7 22]),(.reg [zmv 23 0,zca 24 183 [23],zmv 8 24]),(.reg [zmv 25 5,zbi 26 .mul 25 (zki 16777216),zmv 27 6,zbi 28 .mul 27 (zki 65536),zbi 29 .add 26 28,zmv 30 7,zbi 31 .mul 30 (zki 256),zbi 32 .add 29 31,zmv 33 8,zbi 34 .add 32 33,zmv 35 1,zbi 36 .rem 34 35,zmv 4 36]),.ret])
def QIm:List (ARv × Md):=[(.t 4,.one .d)]
theorem QKU (c:((List Int) × Int × Int)) (n:Int) (h :
 (zif (decide (n≤(0:Int))) (K (Qby ((0:Int),c))) (zif (decide (n≤(256:Int))) (((Qx c)∧(¬ (n:Int)=0))∧K (Qby ((Int.tmod ((Z5 c).1) n),((Z5 c).2)))) ((Qx c)∧((Qx ((Z5 c).2))∧((Qx ((Z5 ((Z5 c).2)).2))∧((Qx ((Z5 ((Z5 ((Z5 c).2)).2)).2))∧((¬ (n:Int)=0)∧K (Qby ((Int.tmod (w64 ((w64 ((w64 ((w64 (((Z5 c).1)*(16777216:Int)))+(w64 (((Z5 ((Z5 c).2)).1)*(65536:Int)))))+(w64 (((Z5 ((Z5 ((Z5 c).2)).2)).1)*(256:Int)))))+((Z5 ((Z5 ((Z5 ((Z5 c).2)).2)).2)).1))) n),((Z5 ((Z5 ((Z5 ((Z5 c).2)).2)).2)).2))))))))))):Hold (tawp QHT (1+0) QIj (TQ 1 0 QIm K) (Qf [(.bx [(.c (.sl [(.int .u8)]) c.1),(.c TI c.2.1),(.c TI c.2.2)]),(.c TI n)])) :=
 Hold.of (by kernel_rfl) h
theorem Qsn (c:((List Int) × Int × Int)) (n:Int) (hp:Zc c n):∃ t:Int × (((List Int) × Int × Int)),(QiE c n t)∧TCon Tryz.prog 108 [(.bx [(.c (.sl [(.int .u8)]) c.1),(.c TI c.2.1),(.c TI c.2.2)]),(.c TI n)] (Qby t):=by
 refine YP (tcx (n:=37) (sg:=Jt.sg) Ql (TOk.cons QLE TOk.nil) (by kernel_rfl) (by kernel_rfl) (QKU (fun r'=>∃ t,(QiE c n t)∧r'=Qby t) c n ?_))
 refine ⟨fun h=>(Q4 ⟨Int.le_refl 0,fun h2=>by simp at h;omega,fun _=>rfl,hp⟩),fun h=>⟨fun h2=>?_,fun h2=>?_⟩⟩
 ·have b1:=Qfj c hp
  simp at h
  exact ⟨⟨hp,by omega⟩,Q4 ⟨Int.tmod_nonneg _ b1.1,fun h0=>Int.tmod_lt_of_pos _ h0,fun h0=>by omega,b1.2.2⟩⟩
 ·have b1:=Qfj c hp
  have b2:=Qfj _ b1.2.2
  have b3:=Qfj _ b2.2.2
  have b4:=Qfj _ b3.2.2
  simp at h
  refine ⟨hp,b1.2.2,b2.2.2,b3.2.2,by omega,Q4 ⟨Int.tmod_nonneg _ ?_,fun h0=>Int.tmod_lt_of_pos _ h0,fun h0=>by omega,b4.2.2⟩⟩
  have h1:=b1.1
  have h2:=b1.2.1
  have h3:=b2.1
  have h4:=b2.2.1
  have h5:=b3.1
  have h6:=b3.2.1
  have h7:=b4.1
  have h8:=b4.2.1
  clear b1 b2 b3 b4
  rw [Qp (x:=_*16777216) (by omega) (by omega),Qp (x:=_*65536) (by omega) (by omega),Qp (x:=_*256) (by omega) (by omega)]
  rw [Qp (x:=_*16777216+_) (by omega) (by omega),Qp (x:=_+_*256) (by omega) (by omega),Qp (by omega) (by omega)]
  omega
theorem Z4 (c:((List Int) × Int × Int)) (n:Int) (hp:Zc c n):QiE c n (Qg c n):=(Classical.epsilon_spec (Qsn c n hp)).1
theorem QA3 (c:((List Int) × Int × Int)) (n:Int) (hp:Zc c n):TCon Tryz.prog 108 [(.bx [(.c (.sl [(.int .u8)]) c.1),(.c TI c.2.1),(.c TI c.2.2)]),(.c TI n)] (Qby (Qg c n)):=(Classical.epsilon_spec (Qsn c n hp)).2
theorem JT:Qi Tryz.prog Jt:=Qm fun x h=>QA3 x.1 x.2.1 h
def Qdv (t:Bool × (((List Int) × Int × Int))):TRes:=⟨(zcb t.1),[],[[(zcs [(.int .u8)] t.2.1),(zci t.2.2.1),(zci t.2.2.2)]],true,[]⟩
def ZF (x0:((List Int) × Int × Int)) (x1:Int):Bool × (((List Int) × Int × Int)):=Classical.epsilon fun t:Bool × (((List Int) × Int × Int))=>(Qi5 x0 x1 t)∧TCon Tryz.prog 106 [(.bx [(.c (.sl [(.int .u8)]) x0.1),(.c TI x0.2.1),(.c TI x0.2.2)]),(.c TI x1)] (Qdv t)
def QeR:TRow:=Qj 106 [(.b [(.sl [(.int .u8)]),TI,TI]),(.c TI)] fun x=>(some (Zc x.1 x.2.1),Qdv (ZF x.1 x.2.1))
def QOz:List TRow:=[Jt]
def QNX:TCode :=
 (zsq [(.reg [zmv 4 (zkb false)]),(.reg [zmv 5 0,zmv 6 1,zca 7 108 [5,6],zbi 8 .eql 7 (zki 0),zmv 4 8]),.ret])
def QOo:List (ARv × Md):=[(.t 4,.one .d)]
theorem QD2 (c:((List Int) × Int × Int)) (n:Int) (h :
 ((Zc c n)∧K (Qdv ((((Qg c n).1)==(0:Int)),((Qg c n).2))))):Hold (tawp QOz (1+0) QNX (TQ 1 0 QOo K) (Qf [(.bx [(.c (.sl [(.int .u8)]) c.1),(.c TI c.2.1),(.c TI c.2.2)]),(.c TI n)])) :=
 Hold.of (by kernel_rfl) h
theorem QoE (c:((List Int) × Int × Int)) (n:Int) (hp:Zc c n):∃ t:Bool × (((List Int) × Int × Int)),(Qi5 c n t)∧TCon Tryz.prog 106 [(.bx [(.c (.sl [(.int .u8)]) c.1),(.c TI c.2.1),(.c TI c.2.2)]),(.c TI n)] (Qdv t):=by
 refine YP (tcx (n:=9) (sg:=QeR.sg) Ql (TOk.cons JT TOk.nil) (by kernel_rfl) (by kernel_rfl) (QD2 (fun r'=>∃ t,(Qi5 c n t)∧r'=Qdv t) c n ?_))
 exact ⟨hp,Q4 ((Z4 c n hp).2.2.2)⟩
theorem Qj1 (c:((List Int) × Int × Int)) (n:Int) (hp:Zc c n):Qi5 c n (ZF c n):=(Classical.epsilon_spec (QoE c n hp)).1
theorem QGv (c:((List Int) × Int × Int)) (n:Int) (hp:Zc c n):TCon Tryz.prog 106 [(.bx [(.c (.sl [(.int .u8)]) c.1),(.c TI c.2.1),(.c TI c.2.2)]),(.c TI n)] (Qdv (ZF c n)):=(Classical.epsilon_spec (QoE c n hp)).2
theorem Qj7:Qi Tryz.prog QeR:=Qm fun x h=>QGv x.1 x.2.1 h
def Qdo (t:Int × (((List Int) × Int × Int))):TRes:=⟨(zci t.1),[],[[(zcs [(.int .u8)] t.2.1),(zci t.2.2.1),(zci t.2.2.2)]],true,[]⟩
def Zx (x0:((List Int) × Int × Int)) (x1:List Int):Int × (((List Int) × Int × Int)):=Classical.epsilon fun t:Int × (((List Int) × Int × Int))=>(QhR x0 x1 t)∧TCon Tryz.prog 145 [(.bx [(.c (.sl [(.int .u8)]) x0.1),(.c TI x0.2.1),(.c TI x0.2.2)]),(.c (.sl [TI]) x1)] (Qdo t)
def QbO:TRow:=Qj 145 [(.b [(.sl [(.int .u8)]),TI,TI]),(.c (.sl [TI]))] fun x=>(some (YX x.1 x.2.1),Qdo (Zx x.1 x.2.1))
def QOx:List TRow:=[Jt]
def QB7:TCode :=
 (zsq [(.reg [zmv 4 (zki 0)]),(.reg [zmv 5 1,zmv 6 0,zmv 7 1,zle 8 7,zca 9 108 [6,8],zia 10 5 9 [TI],zld 11 10 1,zmv 4 11]),.ret])
def QNt:List (ARv × Md):=[(.t 4,.one .d)]
theorem QPP (c:((List Int) × Int × Int)) (list:List Int) (h :
 (((Zc c (list.length:Int))∧((0:Int)≤(Qg c (list.length:Int)).1∧Int.toNat ((Qg c (list.length:Int)).1)<list.length))∧K (Qdo ((gtd (0:Int) list (Int.toNat ((Qg c (list.length:Int)).1))),((Qg c (list.length:Int)).2))))):Hold (tawp QOx (1+0) QB7 (TQ 1 0 QNt K) (Qf [(.bx [(.c (.sl [(.int .u8)]) c.1),(.c TI c.2.1),(.c TI c.2.2)]),(.c (.sl [TI]) list)])) :=
 Hold.of (by kernel_rfl) h
theorem Qt1 (c:((List Int) × Int × Int)) (list:List Int) (hp:YX c list):∃ t:Int × (((List Int) × Int × Int)),(QhR c list t)∧TCon Tryz.prog 145 [(.bx [(.c (.sl [(.int .u8)]) c.1),(.c TI c.2.1),(.c TI c.2.2)]),(.c (.sl [TI]) list)] (Qdo t):=by
 refine YP (tcx (n:=12) (sg:=QbO.sg) Ql (TOk.cons JT TOk.nil) (by kernel_rfl) (by kernel_rfl) (QPP (fun r'=>∃ t,(QhR c list t)∧r'=Qdo t) c list ?_))
 have b:=Z4 c list.length hp.1
 have h1:=hp.2.1
 have h2:=b.2.1 (by omega)
 have h3:=b.1
 exact ⟨⟨hp.1,h3,by omega⟩,Q4 ⟨JB (by omega) _,b.2.2.2⟩⟩
theorem Qd1 (c:((List Int) × Int × Int)) (list:List Int) (hp:YX c list):QhR c list (Zx c list):=(Classical.epsilon_spec (Qt1 c list hp)).1
theorem QBo (c:((List Int) × Int × Int)) (list:List Int) (hp:YX c list):TCon Tryz.prog 145 [(.bx [(.c (.sl [(.int .u8)]) c.1),(.c TI c.2.1),(.c TI c.2.2)]),(.c (.sl [TI]) list)] (Qdo (Zx c list)):=(Classical.epsilon_spec (Qt1 c list hp)).2
theorem Qc8:Qi Tryz.prog QbO:=Qm fun x h=>QBo x.1 x.2.1 h
def Ql1 (t:Bool):TRes:=zre (zcb t)
def QlN:TRow:=Qj 13 [(.c (.sl [(.int .u8)]))] fun x=>(none,Ql1 (QeI x.1))
def QPj:List TRow:=[]
def QHc:TCode :=
 (zsq [(.reg [zmv 2 (zkb false)]),(.reg [zmv 3 0,zle 4 3,zbi 5 .gtr 4 (zki 1048576),zmv 2 5]),.ret])
def QNu:List (ARv × Md):=[(.t 2,.one .d)]
theorem QGn (code:List Int) (h :
 K (Ql1 (decide ((code.length:Int)>(1048576:Int))))):Hold (tawp QPj (0+0) QHc (TQ 0 0 QNu K) (Qf [(.c (.sl [(.int .u8)]) code)])) :=
 Hold.of (by kernel_rfl) h
theorem QPT (code:List Int):TCon Tryz.prog 13 [(.c (.sl [(.int .u8)]) code)] (Ql1 (QeI code)):=by
 refine Qq rfl fun hb=>tcg (n:=6) (sg:=QlN.sg) Ql TOk.nil (by kernel_rfl) (by kernel_rfl) (QGn _ code ?_)
 have hl_code:code.length≤9223372036854775807:=hb.1.1
 exact R_eq rfl
theorem QJI:Qi Tryz.prog QlN:=Qm fun x _=>QPT x.1
end
end Go.Proofs.YtjbdljkhbglnhaaGreat.Am

