/- -/
import Derived.Test.YtjbdljkhbglnhaaGreatZIG9
namespace Go.Proofs.YtjbdljkhbglnhaaGreat.Am
open Go Go.RowKit Go.Proofs.YtjbdljkhbglnhaaGreat
set_option linter.all false
set_option maxHeartbeats 2000000
noncomputable section
variable (K:TRes→Prop)
def QaW (t:(((List Int) × Int × Int))):TRes:=⟨(.p 0 0 0),[(.box [(zcs [(.int .u8)] t.1),(zci t.2.1),(zci t.2.2)])],[],true,[]⟩
def Qa4 (x0:List Int):(((List Int) × Int × Int)):=Classical.epsilon fun t:(((List Int) × Int × Int))=>(QbE x0 t)∧TCon Tryz.prog 69 [(.c (.sl [(.int .u8)]) x0)] (QaW t)
def Qo2:TRow:=Qk 69 [(.c (.sl [(.int .u8)]))] fun x=>(some (JO x.1),QaW (Qa4 x.1))
def Qkz:List TRow:=[]
def QqZ:TCode :=
 (zsq [(zsq [(.reg [zmv 8 4,zmv 9 0,zle 10 9,zbi 11 .lss 8 10,zmv 12 11,.grp 12 true [zmv 13 4,zbi 14 .lss 13 (zki 4000)] 15 14]),(.cond 15 .skip (.exit 0))]),(.block 1 (.reg [zmv 18 3,zbi 19 .mul 18 (zki 131),zmv 20 0,zmv 21 4,zia 22 20 21 [(.int .u8)],zld 23 22 1,zop 24 (.conv .i64 23),zbi 25 .add 19 24,zbi 26 .add 25 (zki 7),zbi 27 .and 26 (zki 1073741823),zmv 3 27])),(.reg [zmv 16 4,zbi 17 .add 16 (zki 1),zmv 4 17])])
def Qzo:List (Nat × Md):=zdl [0,3,4]
def QDW:TCode :=
 (zsq [(.reg [zmv 28 0,zmv 29 3,zop 30 (.build (z0s [(.sl [(.int .u8)]),TI,TI]) [(0,1,28),(2,1,29)]),zop 31 (.box 157 30 3),zmv 2 31]),.ret])
def QO9:TCode :=
 (zsq [(.reg [zmv 2 (.k (.c .nilp ()))]),(.reg [zmv 5 0,zle 6 5,zbi 7 .add (zki 10101) 6,zmv 3 7]),(zsq [(.reg [zmv 4 (zki 0)]),(.block 0 (.loop Qzo QqZ))]),QDW])
def QrI:List (ARv × Md):=[(.t 2,.b [.d,.d,.d])]
def QwL:Qb:=TQ 0 0 QrI K
def QNh:Qb:=Qseq (tawp Qkz 0 QDW (QwL K)) (QwL K)
def QWV:Qb:=Qblk 0 (QNh K)
def Qfq (code:List Int) (h1:Int) (i:Int):Prop:=Loop Qkz 0 Qzo QqZ (QWV K) ⟨[(0,(zcs [(.int .u8)] code)),(3,(zci h1)),(4,(zci i))],[],0⟩
theorem QyR (code:List Int) (h1:Int) (i:Int) (h :
 (zif ((decide (i<(code.length:Int)))&&(decide (i<(4000:Int)))) (((0:Int)≤i∧Int.toNat i<code.length)∧(Qfq K code (w64 (((BitVec.ofInt (IntKind.i64.bits) (w64 ((w64 ((w64 (h1*(131:Int)))+(w64 ((gtd (0:Int) code (Int.toNat i))))))+(7:Int))) &&& BitVec.ofInt (IntKind.i64.bits) (1073741823:Int)).toNat:Int))) (w64 (i+(1:Int))))) (K (QaW (code,(0:Int),h1))))):Qfq K code h1 i :=
 Loop.of (by kernel_rfl) h
theorem QK3 (code:List Int) (h :
 (Qfq K code (w64 ((10101:Int)+(code.length:Int))) 0)):Hold (tawp Qkz (0+0) QO9 (TQ 0 0 QrI K) (Qi [(.c (.sl [(.int .u8)]) code)])) :=
 Hold.of (by kernel_rfl) h
theorem QxA (code:List Int) (hp:JO code):∃ t:(((List Int) × Int × Int)),(QbE code t)∧TCon Tryz.prog 69 [(.c (.sl [(.int .u8)]) code)] (QaW t):=by
 refine Y8 (tcx (n:=32) (sg:=Qo2.sg) Qm TOk.nil (by kernel_rfl) (by kernel_rfl) (QK3 (fun r'=>∃ t,(QbE code t)∧r'=QaW t) code ?_))
 have hp':code.length≤1048576:=hp
 suffices h:∀ x:Int,Qfq (fun r'=>∃ t,(QbE code t)∧r'=QaW t) code x ((0:Nat):Int) from h _
 refine JH (min code.length 4000) (fun k=>∀ x:Int,Qfq (fun r'=>∃ t,(QbE code t)∧r'=QaW t) code x (k:Int)) ?_ ?_
 ·intro x
  refine QyR (fun r'=>∃ t,(QbE code t)∧r'=QaW t) code _ _ ⟨fun h=>?_,fun _=>(ZM ⟨Int.le_refl 0,hp⟩)⟩
  simp at h;omega
 ·intro k hk ih x
  refine QyR (fun r'=>∃ t,(QbE code t)∧r'=QaW t) code _ _ ⟨fun _=>⟨⟨by omega,by omega⟩,?_⟩,fun h=>?_⟩
  ·rw [sc1 (by omega)];exact ih _
  ·simp at h;omega
theorem QTj (code:List Int) (hp:JO code):QbE code (Qa4 code):=(Classical.epsilon_spec (QxA code hp)).1
theorem QJH (code:List Int) (hp:JO code):TCon Tryz.prog 69 [(.c (.sl [(.int .u8)]) code)] (QaW (Qa4 code)):=(Classical.epsilon_spec (QxA code hp)).2
theorem QXr:Ql Tryz.prog Qo2:=Qn fun x h=>QJH x.1 h
def Qdg (t:Int × (((List Int) × Int × Int))):TRes:=⟨(zci t.1),[],[[(zcs [(.int .u8)] t.2.1),(zci t.2.2.1),(zci t.2.2.2)]],true,[]⟩
def Yq (x0:((List Int) × Int × Int)):Int × (((List Int) × Int × Int)):=Classical.epsilon fun t:Int × (((List Int) × Int × Int))=>(QiS x0 t)∧TCon Tryz.prog 183 [(.bx [(.c (.sl [(.int .u8)]) x0.1),(.c TI x0.2.1),(.c TI x0.2.2)])] (Qdg t)
def Qk9:TRow:=Qk 183 [(.b [(.sl [(.int .u8)]),TI,TI])] fun x=>(some (QQ x.1),Qdg (Yq x.1))
def QN3:List TRow:=[]
def QFs:TCode :=
 (zsq [(.reg [zmv 2 (zki 0)]),(.reg [zmv 4 0,zmv 5 0,zop 6 (.nilc 5),zfa 7 6 2,zld 8 7 1,zbi 9 .mul 8 (zki 6364136223846793005),zbi 10 .add 9 (zki 1442695040888963407),zop 11 (.nilc 4),zfa 12 11 2,zst 12 10 1]),(.draw [zmv 13 0,zop 14 (.nilc 13),zfa 15 14 2,zld 16 15 1,zbi 17 .shr 16 (.k (.c (.int .u64) (33:Int))),zmv 18 0,zop 19 (.nilc 18),zfa 20 19 2,zld 21 20 1,zbi 22 .shr 21 (.k (.c (.int .u64) (45:Int))),zbi 23 .xor 17 22,zbi 24 .and 23 (zki 255),zmv 3 24] []),(zsq [(.draw [zmv 25 0,zop 26 (.nilc 25),zfa 27 26 1,zld 28 27 1,zmv 29 0,zop 30 (.nilc 29),zfa 31 30 0,zld 32 31 1,zle 33 32,zbi 34 .lss 28 33] []),(.cond 34 (zsq [(.draw [zmv 35 3,zmv 36 0,zop 37 (.nilc 36),zfa 38 37 0,zld 39 38 1,zmv 40 0,zop 41 (.nilc 40),zfa 42 41 1,zld 43 42 1,zia 44 39 43 [(.int .u8)],zld 45 44 1,zop 46 (.conv .i64 45),zbi 47 .add 35 46,zbi 48 .and 47 (zki 255),zmv 3 48] []),(.reg [zmv 49 0,zmv 50 0,zop 51 (.nilc 50),zfa 52 51 1,zld 53 52 1,zbi 54 .add 53 (zki 1),zop 55 (.nilc 49),zfa 56 55 1,zst 56 54 1])]) .skip)]),(.reg [zmv 57 3,zmv 2 57]),.ret])
def QGA:List (ARv × Md):=[(.t 2,.one .d)]
theorem QOd (c:((List Int) × Int × Int)) (h :
 let z2:=w64 (c.2.2*(6364136223846793005:Int))
 let z1:=BitVec.ofInt (IntKind.i64.bits) (w64 (((BitVec.ofInt (IntKind.i64.bits) (Int.fdiv (w64 (z2+(1442695040888963407:Int))) (2 ^ (min (Int.toNat (33:Int)) (IntKind.i64.bits)))) ^^^ BitVec.ofInt (IntKind.i64.bits) (Int.fdiv (w64 (z2+(1442695040888963407:Int))) (2 ^ (min (Int.toNat (45:Int)) (IntKind.i64.bits))))).toNat:Int))) &&& BitVec.ofInt (IntKind.i64.bits) (255:Int)
 ((((0:Int)≤(33:Int))∧((0:Int)≤(45:Int)))∧(zif (decide (c.2.1<((c.1).length:Int))) (((0:Int)≤c.2.1∧Int.toNat c.2.1<(c.1).length)∧K (Qdg (w64 (((BitVec.ofInt (IntKind.i64.bits) (w64 ((w64 ((z1.toNat:Int)))+(w64 ((gtd (0:Int) c.1 (Int.toNat c.2.1)))))) &&& BitVec.ofInt (IntKind.i64.bits) (255:Int)).toNat:Int)),(c.1,w64 (c.2.1+(1:Int)),w64 (z2+(1442695040888963407:Int)))))) (K (Qdg (w64 ((z1.toNat:Int)),(c.1,c.2.1,w64 (z2+(1442695040888963407:Int))))))))):Hold (tawp QN3 (1+0) QFs (TQ 1 0 QGA K) (Qi [(.bx [(.c (.sl [(.int .u8)]) c.1),(.c TI c.2.1),(.c TI c.2.2)])])) :=
 Hold.of (by kernel_rfl) h
theorem QvS (c:((List Int) × Int × Int)) (hp:QQ c):∃ t:Int × (((List Int) × Int × Int)),(QiS c t)∧TCon Tryz.prog 183 [(.bx [(.c (.sl [(.int .u8)]) c.1),(.c TI c.2.1),(.c TI c.2.2)])] (Qdg t):=by
 refine Y8 (tcx (n:=58) (sg:=Qk9.sg) Qm TOk.nil (by kernel_rfl) (by kernel_rfl) (QOd (fun r'=>∃ t,(QiS c t)∧r'=Qdg t) c ?_))
 conv=>zeta
 have h1:=hp.1
 have h2:=hp.2
 refine ⟨⟨by omega,by omega⟩,fun h=>⟨⟨h1,by simp at h;omega⟩,ZM ⟨(Qgo _).1,(Qgo _).2,?_,h2⟩⟩,fun h=>(ZM ⟨(Qgo _).1,(Qgo _).2,h1,h2⟩)⟩
 simp at h
 show 0≤w64 (c.2.1+1)
 rw [Qp (by omega) (by omega)];omega
theorem Qga (c:((List Int) × Int × Int)) (hp:QQ c):QiS c (Yq c):=(Classical.epsilon_spec (QvS c hp)).1
theorem QJY (c:((List Int) × Int × Int)) (hp:QQ c):TCon Tryz.prog 183 [(.bx [(.c (.sl [(.int .u8)]) c.1),(.c TI c.2.1),(.c TI c.2.2)])] (Qdg (Yq c)):=(Classical.epsilon_spec (QvS c hp)).2
theorem QFj:Ql Tryz.prog Qk9:=Qn fun x h=>QJY x.1 h
def Qb3 (t:Int × (((List Int) × Int × Int))):TRes:=⟨(zci t.1),[],[[(zcs [(.int .u8)] t.2.1),(zci t.2.2.1),(zci t.2.2.2)]],true,[]⟩
def Qs (x0:((List Int) × Int × Int)) (x1:Int):Int × (((List Int) × Int × Int)):=Classical.epsilon fun t:Int × (((List Int) × Int × Int))=>(Qid x0 x1 t)∧TCon Tryz.prog 108 [(.bx [(.c (.sl [(.int .u8)]) x0.1),(.c TI x0.2.1),(.c TI x0.2.2)]),(.c TI x1)] (Qb3 t)
def JX:TRow:=Qk 108 [(.b [(.sl [(.int .u8)]),TI,TI]),(.c TI)] fun x=>(some (Zr x.1 x.2.1),Qb3 (Qs x.1 x.2.1))
def QHO:List TRow:=[Qk9]
def QQY:TCode :=
 (zsq [(.reg [zmv 4 (zki 0)]),(zsq [(.reg [zmv 9 1,zbi 10 .leq 9 (zki 0)]),(.cond 10 (zsq [(.reg [zmv 4 (zki 0)]),.ret]) .skip)]),(zsq [(.reg [zmv 11 1,zbi 12 .leq 11 (zki 256)]),(.cond 12 (zsq [(.reg [zmv 13 0,zca 14 183 [13],zmv 15 1,zbi 16 .rem 14 15,zmv 4 16]),.ret]) .skip)]),(.reg [zmv 17 0,zca 18 183 [17],zmv 5 18]),(.reg [zmv 19 0,zca 20 183 [19],zmv 6 20]),(.reg [zmv 21 0,zca 22 183 [21],zmv 7 22]),(.reg [zmv 23 0,zca 24 183 [23],zmv 8 24]),(.reg [zmv 25 5,zbi 26 .mul 25 (zki 16777216),zmv 27 6,zbi 28 .mul 27 (zki 65536),zbi 29 .add 26 28,zmv 30 7,zbi 31 .mul 30 (zki 256),zbi 32 .add 29 31,zmv 33 8,zbi 34 .add 32 33,zmv 35 1,zbi 36 .rem 34 35,zmv 4 36]),.ret])
def QT4:List (ARv × Md):=[(.t 4,.one .d)]
theorem QOY (c:((List Int) × Int × Int)) (n:Int) (h :
 (zif (decide (n≤(0:Int))) (K (Qb3 ((0:Int),c))) (zif (decide (n≤(256:Int))) (((QQ c)∧(¬ (n:Int)=0))∧K (Qb3 ((Int.tmod ((Yq c).1) n),((Yq c).2)))) ((QQ c)∧((QQ ((Yq c).2))∧((QQ ((Yq ((Yq c).2)).2))∧((QQ ((Yq ((Yq ((Yq c).2)).2)).2))∧((¬ (n:Int)=0)∧K (Qb3 ((Int.tmod (w64 ((w64 ((w64 ((w64 (((Yq c).1)*(16777216:Int)))+(w64 (((Yq ((Yq c).2)).1)*(65536:Int)))))+(w64 (((Yq ((Yq ((Yq c).2)).2)).1)*(256:Int)))))+((Yq ((Yq ((Yq ((Yq c).2)).2)).2)).1))) n),((Yq ((Yq ((Yq ((Yq c).2)).2)).2)).2))))))))))):Hold (tawp QHO (1+0) QQY (TQ 1 0 QT4 K) (Qi [(.bx [(.c (.sl [(.int .u8)]) c.1),(.c TI c.2.1),(.c TI c.2.2)]),(.c TI n)])) :=
 Hold.of (by kernel_rfl) h
theorem QqF (c:((List Int) × Int × Int)) (n:Int) (hp:Zr c n):∃ t:Int × (((List Int) × Int × Int)),(Qid c n t)∧TCon Tryz.prog 108 [(.bx [(.c (.sl [(.int .u8)]) c.1),(.c TI c.2.1),(.c TI c.2.2)]),(.c TI n)] (Qb3 t):=by
 refine Y8 (tcx (n:=37) (sg:=JX.sg) Qm (TOk.cons QFj TOk.nil) (by kernel_rfl) (by kernel_rfl) (QOY (fun r'=>∃ t,(Qid c n t)∧r'=Qb3 t) c n ?_))
 refine ⟨fun h=>(ZM ⟨Int.le_refl 0,fun h2=>by simp at h;omega,fun _=>rfl,hp⟩),fun h=>⟨fun h2=>?_,fun h2=>?_⟩⟩
 ·have b1:=Qga c hp
  simp at h
  exact ⟨⟨hp,by omega⟩,ZM ⟨Int.tmod_nonneg _ b1.1,fun h0=>Int.tmod_lt_of_pos _ h0,fun h0=>by omega,b1.2.2⟩⟩
 ·have b1:=Qga c hp
  have b2:=Qga _ b1.2.2
  have b3:=Qga _ b2.2.2
  have b4:=Qga _ b3.2.2
  simp at h
  refine ⟨hp,b1.2.2,b2.2.2,b3.2.2,by omega,ZM ⟨Int.tmod_nonneg _ ?_,fun h0=>Int.tmod_lt_of_pos _ h0,fun h0=>by omega,b4.2.2⟩⟩
  have h1:=b1.1
  have h2:=b1.2.1
  have h3:=b2.1
  have h4:=b2.2.1
  have h5:=b3.1
  have h6:=b3.2.1
  have h7:=b4.1
  have h8:=b4.2.1
  clear b1 b2 b3 b4
  rw [Qp (x:=_*16777216) (by omega) (by omega),Qp (x:=_*65536) (by omega) (by omega),Qp (x:=_*256) (by omega) (by omega)]
  rw [Qp (x:=_*16777216+_) (by omega) (by omega),Qp (x:=_+_*256) (by omega) (by omega),Qp (by omega) (by omega)]
  omega
theorem YM (c:((List Int) × Int × Int)) (n:Int) (hp:Zr c n):Qid c n (Qs c n):=(Classical.epsilon_spec (QqF c n hp)).1
theorem QED (c:((List Int) × Int × Int)) (n:Int) (hp:Zr c n):TCon Tryz.prog 108 [(.bx [(.c (.sl [(.int .u8)]) c.1),(.c TI c.2.1),(.c TI c.2.2)]),(.c TI n)] (Qb3 (Qs c n)):=(Classical.epsilon_spec (QqF c n hp)).2
theorem Qaz:Ql Tryz.prog JX:=Qn fun x h=>QED x.1 x.2.1 h
def QeE (t:Bool × (((List Int) × Int × Int))):TRes:=⟨(zcb t.1),[],[[(zcs [(.int .u8)] t.2.1),(zci t.2.2.1),(zci t.2.2.2)]],true,[]⟩
def ZB (x0:((List Int) × Int × Int)) (x1:Int):Bool × (((List Int) × Int × Int)):=Classical.epsilon fun t:Bool × (((List Int) × Int × Int))=>(Qix x0 x1 t)∧TCon Tryz.prog 106 [(.bx [(.c (.sl [(.int .u8)]) x0.1),(.c TI x0.2.1),(.c TI x0.2.2)]),(.c TI x1)] (QeE t)
def QdY:TRow:=Qk 106 [(.b [(.sl [(.int .u8)]),TI,TI]),(.c TI)] fun x=>(some (Zr x.1 x.2.1),QeE (ZB x.1 x.2.1))
def QLr:List TRow:=[JX]
def QRb:TCode :=
 (zsq [(.reg [zmv 4 (zkb false)]),(.reg [zmv 5 0,zmv 6 1,zca 7 108 [5,6],zbi 8 .eql 7 (zki 0),zmv 4 8]),.ret])
def QVD:List (ARv × Md):=[(.t 4,.one .d)]
theorem QGK (c:((List Int) × Int × Int)) (n:Int) (h :
 ((Zr c n)∧K (QeE ((((Qs c n).1)==(0:Int)),((Qs c n).2))))):Hold (tawp QLr (1+0) QRb (TQ 1 0 QVD K) (Qi [(.bx [(.c (.sl [(.int .u8)]) c.1),(.c TI c.2.1),(.c TI c.2.2)]),(.c TI n)])) :=
 Hold.of (by kernel_rfl) h
theorem QsS (c:((List Int) × Int × Int)) (n:Int) (hp:Zr c n):∃ t:Bool × (((List Int) × Int × Int)),(Qix c n t)∧TCon Tryz.prog 106 [(.bx [(.c (.sl [(.int .u8)]) c.1),(.c TI c.2.1),(.c TI c.2.2)]),(.c TI n)] (QeE t):=by
 refine Y8 (tcx (n:=9) (sg:=QdY.sg) Qm (TOk.cons Qaz TOk.nil) (by kernel_rfl) (by kernel_rfl) (QGK (fun r'=>∃ t,(Qix c n t)∧r'=QeE t) c n ?_))
 exact ⟨hp,ZM ((YM c n hp).2.2.2)⟩
theorem QiF (c:((List Int) × Int × Int)) (n:Int) (hp:Zr c n):Qix c n (ZB c n):=(Classical.epsilon_spec (QsS c n hp)).1
theorem QRi (c:((List Int) × Int × Int)) (n:Int) (hp:Zr c n):TCon Tryz.prog 106 [(.bx [(.c (.sl [(.int .u8)]) c.1),(.c TI c.2.1),(.c TI c.2.2)]),(.c TI n)] (QeE (ZB c n)):=(Classical.epsilon_spec (QsS c n hp)).2
theorem QjG:Ql Tryz.prog QdY:=Qn fun x h=>QRi x.1 x.2.1 h
def Qd8 (t:Int × (((List Int) × Int × Int))):TRes:=⟨(zci t.1),[],[[(zcs [(.int .u8)] t.2.1),(zci t.2.2.1),(zci t.2.2.2)]],true,[]⟩
def ZK (x0:((List Int) × Int × Int)) (x1:List Int):Int × (((List Int) × Int × Int)):=Classical.epsilon fun t:Int × (((List Int) × Int × Int))=>(Qj8 x0 x1 t)∧TCon Tryz.prog 145 [(.bx [(.c (.sl [(.int .u8)]) x0.1),(.c TI x0.2.1),(.c TI x0.2.2)]),(.c (.sl [TI]) x1)] (Qd8 t)
def Qcf:TRow:=Qk 145 [(.b [(.sl [(.int .u8)]),TI,TI]),(.c (.sl [TI]))] fun x=>(some (Y9 x.1 x.2.1),Qd8 (ZK x.1 x.2.1))
def QW8:List TRow:=[JX]
def QVu:TCode :=
 (zsq [(.reg [zmv 4 (zki 0)]),(.reg [zmv 5 1,zmv 6 0,zmv 7 1,zle 8 7,zca 9 108 [6,8],zia 10 5 9 [TI],zld 11 10 1,zmv 4 11]),.ret])
def QHm:List (ARv × Md):=[(.t 4,.one .d)]
theorem QPa (c:((List Int) × Int × Int)) (list:List Int) (h :
 (((Zr c (list.length:Int))∧((0:Int)≤(Qs c (list.length:Int)).1∧Int.toNat ((Qs c (list.length:Int)).1)<list.length))∧K (Qd8 ((gtd (0:Int) list (Int.toNat ((Qs c (list.length:Int)).1))),((Qs c (list.length:Int)).2))))):Hold (tawp QW8 (1+0) QVu (TQ 1 0 QHm K) (Qi [(.bx [(.c (.sl [(.int .u8)]) c.1),(.c TI c.2.1),(.c TI c.2.2)]),(.c (.sl [TI]) list)])) :=
 Hold.of (by kernel_rfl) h
theorem Qvz (c:((List Int) × Int × Int)) (list:List Int) (hp:Y9 c list):∃ t:Int × (((List Int) × Int × Int)),(Qj8 c list t)∧TCon Tryz.prog 145 [(.bx [(.c (.sl [(.int .u8)]) c.1),(.c TI c.2.1),(.c TI c.2.2)]),(.c (.sl [TI]) list)] (Qd8 t):=by
 refine Y8 (tcx (n:=12) (sg:=Qcf.sg) Qm (TOk.cons Qaz TOk.nil) (by kernel_rfl) (by kernel_rfl) (QPa (fun r'=>∃ t,(Qj8 c list t)∧r'=Qd8 t) c list ?_))
 have b:=YM c list.length hp.1
 have h1:=hp.2.1
 have h2:=b.2.1 (by omega)
 have h3:=b.1
 exact ⟨⟨hp.1,h3,by omega⟩,ZM ⟨Jb (by omega) _,b.2.2.2⟩⟩
theorem QdO (c:((List Int) × Int × Int)) (list:List Int) (hp:Y9 c list):Qj8 c list (ZK c list):=(Classical.epsilon_spec (Qvz c list hp)).1
theorem QMc (c:((List Int) × Int × Int)) (list:List Int) (hp:Y9 c list):TCon Tryz.prog 145 [(.bx [(.c (.sl [(.int .u8)]) c.1),(.c TI c.2.1),(.c TI c.2.2)]),(.c (.sl [TI]) list)] (Qd8 (ZK c list)):=(Classical.epsilon_spec (Qvz c list hp)).2
theorem Qd0:Ql Tryz.prog Qcf:=Qn fun x h=>QMc x.1 x.2.1 h
def QpG (t:Bool):TRes:=zre (zcb t)
def Qnn:TRow:=Qk 13 [(.c (.sl [(.int .u8)]))] fun x=>(none,QpG (QfR x.1))
def QKu:List TRow:=[]
def QSW:TCode :=
 (zsq [(.reg [zmv 2 (zkb false)]),(.reg [zmv 3 0,zle 4 3,zbi 5 .gtr 4 (zki 1048576),zmv 2 5]),.ret])
def QP0:List (ARv × Md):=[(.t 2,.one .d)]
theorem QGX (code:List Int) (h :
 K (QpG (decide ((code.length:Int)>(1048576:Int))))):Hold (tawp QKu (0+0) QSW (TQ 0 0 QP0 K) (Qi [(.c (.sl [(.int .u8)]) code)])) :=
 Hold.of (by kernel_rfl) h
theorem QHq (code:List Int):TCon Tryz.prog 13 [(.c (.sl [(.int .u8)]) code)] (QpG (QfR code)):=by
 refine Qo rfl fun hb=>tcg (n:=6) (sg:=Qnn.sg) Qm TOk.nil (by kernel_rfl) (by kernel_rfl) (QGX _ code ?_)
 have hl_code:code.length≤9223372036854775807:=hb.1.1
 exact R_eq rfl
theorem QV3:Ql Tryz.prog Qnn:=Qn fun x _=>QHq x.1
def Qjn (t:Int):TRes:=zre (zci t)
def QlF:TRow:=Qk 29 [(.c (.sl [(.int .u8)])),(.c TI)] fun x=>(some (p_at x.1 x.2.1),Qjn (m_at x.1 x.2.1))
def QSz:List TRow:=[]
def QI6:TCode :=
 (zsq [(.reg [zmv 4 (zki 0)]),(zsq [(.reg [zmv 5 1,zmv 6 0,zle 7 6,zbi 8 .lss 5 7]),(.cond 8 (zsq [(.reg [zmv 9 0,zmv 10 1,zia 11 9 10 [(.int .u8)],zld 12 11 1,zop 13 (.conv .i64 12),zmv 4 13]),.ret]) .skip)]),(.reg [zmv 14 1,zbi 15 .mul 14 (zki 37),zmv 16 0,zle 17 16,zbi 18 .mul 17 (zki 11),zbi 19 .add 15 18,zbi 20 .rem 19 (zki 256),zmv 4 20]),.ret])
def QQT:List (ARv × Md):=[(.t 4,.one .d)]
theorem QSL (code:List Int) (i:Int) (h :
 (zif (decide (i<(code.length:Int))) (((0:Int)≤i∧Int.toNat i<code.length)∧K (Qjn (w64 ((gtd (0:Int) code (Int.toNat i)))))) ((¬ ((256:Int):Int)=0)∧K (Qjn (Int.tmod (w64 ((w64 (i*(37:Int)))+(w64 ((code.length:Int)*(11:Int))))) (256:Int)))))):Hold (tawp QSz (0+0) QI6 (TQ 0 0 QQT K) (Qi [(.c (.sl [(.int .u8)]) code),(.c TI i)])) :=
 Hold.of (by kernel_rfl) h
theorem QQy (code:List Int) (i:Int) (hp:p_at code i):TCon Tryz.prog 29 [(.c (.sl [(.int .u8)]) code),(.c TI i)] (Qjn (m_at code i)):=by
 refine Qo rfl fun hb=>tcg (n:=21) (sg:=QlF.sg) Qm TOk.nil (by kernel_rfl) (by kernel_rfl) (QSL _ code i ?_)
 have hl_code:code.length≤9223372036854775807:=hb.1.1
 have h0:0≤i:=hp
 refine ⟨fun h=>⟨⟨h0,by simp at h;omega⟩,R_eq ?_⟩,fun h=>⟨by omega,R_eq ?_⟩⟩
 ·rw [m_at,if_pos (by simpa using h)]
 ·rw [m_at,if_neg (by simpa using h)]
theorem QW6:Ql Tryz.prog QlF:=Qn fun x h=>QQy x.1 x.2.1 h
end
end Go.Proofs.YtjbdljkhbglnhaaGreat.Am

