/- -/
import Derived.Test.YtephkbajoofeoaaYEG9
namespace Go.Proofs.Ytephkbajoofeoaa.Am
open Go Go.RowKit Go.Proofs.Ytephkbajoofeoaa
set_option linter.all false
set_option maxHeartbeats 2000000
noncomputable section
variable (K:TRes→Prop)
def ZD (t:(((List Int) × Int × Int))):TRes:=⟨(.p 0 0 0),[(.box [(zcs [(.int .u8)] t.1),(zci t.2.1),(zci t.2.2)])],[],true,[]⟩
def YV (x0:List Int):(((List Int) × Int × Int)):=Classical.epsilon fun t:(((List Int) × Int × Int))=>(Yj x0 t)∧TCon Try.prog 114 [(.c (.sl [(.int .u8)]) x0)] (ZD t)
def Qd6:TRow:=Qp 114 [(.c (.sl [(.int .u8)]))] fun x=>(some (Zn x.1),ZD (YV x.1))
def Qdg:List TRow:=[]
def QiD:TCode :=
 (zsq [(zsq [(.reg [zmv 8 4,zmv 9 0,zle 10 9,zbi 11 .lss 8 10,zmv 12 11,.grp 12 true [zmv 13 4,zbi 14 .lss 13 (zki 4000)] 15 14]),(.cond 15 .skip (.exit 0))]),(.block 1 (.reg [zmv 18 3,zbi 19 .mul 18 (zki 131),zmv 20 0,zmv 21 4,zia 22 20 21 [(.int .u8)],zld 23 22 1,zop 24 (.conv .i64 23),zbi 25 .add 19 24,zbi 26 .add 25 (zki 7),zbi 27 .and 26 (zki 1073741823),zmv 3 27])),(.reg [zmv 16 4,zbi 17 .add 16 (zki 1),zmv 4 17])])
def Qev:List (Nat × Md):=zdl [0,3,4]
def Qey:TCode :=
 (zsq [(.reg [zmv 28 0,zmv 29 3,zop 30 (.build (z0s [(.sl [(.int .u8)]),TI,TI]) [(0,1,28),(2,1,29)]),zop 31 (.box 210 30 3),zmv 2 31]),.ret])
def QmF:TCode :=
 (zsq [(.reg [zmv 2 (.k (.c .nilp ()))]),(.reg [zmv 5 0,zle 6 5,zbi 7 .add (zki 10101) 6,zmv 3 7]),(zsq [(.reg [zmv 4 (zki 0)]),(.block 0 (.loop Qev QiD))]),Qey])
def Qef:List (ARv × Md):=[(.t 2,.b [.d,.d,.d])]
def Qgr:Qd:=TQ 0 0 Qef K
def Qpl:Qd:=Qseq (tawp Qdg 0 Qey (Qgr K)) (Qgr K)
def Qnm:Qd:=Qblk 0 (Qpl K)
def J7 (code:List Int) (h1:Int) (i:Int):Prop:=Loop Qdg 0 Qev QiD (Qnm K) ⟨[(0,(zcs [(.int .u8)] code)),(3,(zci h1)),(4,(zci i))],[],0⟩
theorem Qgh (code:List Int) (h1:Int) (i:Int) (h :
 (zif ((decide (i<(code.length:Int)))&&(decide (i<(4000:Int)))) (((0:Int)≤i∧Int.toNat i<code.length)∧(J7 K code (w64 (((BitVec.ofInt (IntKind.i64.bits) (w64 ((w64 ((w64 (h1*(131:Int)))+(w64 ((gtd (0:Int) code (Int.toNat i))))))+(7:Int))) &&& BitVec.ofInt (IntKind.i64.bits) (1073741823:Int)).toNat:Int))) (w64 (i+(1:Int))))) (K (ZD (code,(0:Int),h1))))):J7 K code h1 i :=
 Loop.of (by kernel_rfl) h
theorem Qpd (code:List Int) (h :
 (J7 K code (w64 ((10101:Int)+(code.length:Int))) 0)):Hold (tawp Qdg (0+0) QmF (TQ 0 0 Qef K) (Qj [(.c (.sl [(.int .u8)]) code)])) :=
 Hold.of (by kernel_rfl) h
theorem QeM (code:List Int) (hp:Zn code):∃ t:(((List Int) × Int × Int)),(Yj code t)∧TCon Try.prog 114 [(.c (.sl [(.int .u8)]) code)] (ZD t):=by
 refine Zh (tcx (n:=32) (sg:=Qd6.sg) Qq TOk.nil (by kernel_rfl) (by kernel_rfl) (Qpd (fun r'=>∃ t,(Yj code t)∧r'=ZD t) code ?_))
 have hp':code.length≤1048576:=hp
 suffices h:∀ x:Int,J7 (fun r'=>∃ t,(Yj code t)∧r'=ZD t) code x ((0:Nat):Int) from h _
 refine YU (min code.length 4000) (fun k=>∀ x:Int,J7 (fun r'=>∃ t,(Yj code t)∧r'=ZD t) code x (k:Int)) ?_ ?_
 ·intro x
  refine Qgh (fun r'=>∃ t,(Yj code t)∧r'=ZD t) code _ _ ⟨fun h=>?_,fun _=>(QB ⟨Int.le_refl 0,hp⟩)⟩
  simp at h;omega
 ·intro k hk ih x
  refine Qgh (fun r'=>∃ t,(Yj code t)∧r'=ZD t) code _ _ ⟨fun _=>⟨⟨by omega,by omega⟩,?_⟩,fun h=>?_⟩
  ·rw [sc1 (by omega)];exact ih _
  ·simp at h;omega
theorem Qij (code:List Int) (hp:Zn code):Yj code (YV code):=(Classical.epsilon_spec (QeM code hp)).1
theorem Qm6 (code:List Int) (hp:Zn code):TCon Try.prog 114 [(.c (.sl [(.int .u8)]) code)] (ZD (YV code)):=(Classical.epsilon_spec (QeM code hp)).2
theorem QkW:Qo Try.prog Qd6:=Qs fun x h=>Qm6 x.1 h
def YI (t:Int × (((List Int) × Int × Int))):TRes:=⟨(zci t.1),[],[[(zcs [(.int .u8)] t.2.1),(zci t.2.2.1),(zci t.2.2.2)]],true,[]⟩
def QJ (x0:((List Int) × Int × Int)):Int × (((List Int) × Int × Int)):=Classical.epsilon fun t:Int × (((List Int) × Int × Int))=>(QaK x0 t)∧TCon Try.prog 183 [(.bx [(.c (.sl [(.int .u8)]) x0.1),(.c TI x0.2.1),(.c TI x0.2.2)])] (YI t)
def QcK:TRow:=Qp 183 [(.b [(.sl [(.int .u8)]),TI,TI])] fun x=>(some (Qh x.1),YI (QJ x.1))
def Ql9:List TRow:=[]
def Qj0:TCode :=
 (zsq [(.reg [zmv 2 (zki 0)]),(.reg [zmv 4 0,zmv 5 0,zop 6 (.nilc 5),zfa 7 6 2,zld 8 7 1,zbi 9 .mul 8 (zki 6364136223846793005),zbi 10 .add 9 (zki 1442695040888963407),zop 11 (.nilc 4),zfa 12 11 2,zst 12 10 1]),(.draw [zmv 13 0,zop 14 (.nilc 13),zfa 15 14 2,zld 16 15 1,zbi 17 .shr 16 (.k (.c (.int .u64) (33:Int))),zmv 18 0,zop 19 (.nilc 18),zfa 20 19 2,zld 21 20 1,zbi 22 .shr 21 (.k (.c (.int .u64) (45:Int))),zbi 23 .xor 17 22,zbi 24 .and 23 (zki 255),zmv 3 24] []),(zsq [(.draw [zmv 25 0,zop 26 (.nilc 25),zfa 27 26 1,zld 28 27 1,zmv 29 0,zop 30 (.nilc 29),zfa 31 30 0,zld 32 31 1,zle 33 32,zbi 34 .lss 28 33] []),(.cond 34 (zsq [(.draw [zmv 35 3,zmv 36 0,zop 37 (.nilc 36),zfa 38 37 0,zld 39 38 1,zmv 40 0,zop 41 (.nilc 40),zfa 42 41 1,zld 43 42 1,zia 44 39 43 [(.int .u8)],zld 45 44 1,zop 46 (.conv .i64 45),zbi 47 .add 35 46,zbi 48 .and 47 (zki 255),zmv 3 48] []),(.reg [zmv 49 0,zmv 50 0,zop 51 (.nilc 50),zfa 52 51 1,zld 53 52 1,zbi 54 .add 53 (zki 1),zop 55 (.nilc 49),zfa 56 55 1,zst 56 54 1])]) .skip)]),(.reg [zmv 57 3,zmv 2 57]),.ret])
def Qn6:List (ARv × Md):=[(.t 2,.one .d)]
theorem Qkm (c:((List Int) × Int × Int)) (h :
 let z2:=w64 (c.2.2*(6364136223846793005:Int))
 let z1:=BitVec.ofInt (IntKind.i64.bits) (w64 (((BitVec.ofInt (IntKind.i64.bits) (Int.fdiv (w64 (z2+(1442695040888963407:Int))) (2 ^ (min (Int.toNat (33:Int)) (IntKind.i64.bits)))) ^^^ BitVec.ofInt (IntKind.i64.bits) (Int.fdiv (w64 (z2+(1442695040888963407:Int))) (2 ^ (min (Int.toNat (45:Int)) (IntKind.i64.bits))))).toNat:Int))) &&& BitVec.ofInt (IntKind.i64.bits) (255:Int)
 ((((0:Int)≤(33:Int))∧((0:Int)≤(45:Int)))∧(zif (decide (c.2.1<((c.1).length:Int))) (((0:Int)≤c.2.1∧Int.toNat c.2.1<(c.1).length)∧K (YI (w64 (((BitVec.ofInt (IntKind.i64.bits) (w64 ((w64 ((z1.toNat:Int)))+(w64 ((gtd (0:Int) c.1 (Int.toNat c.2.1)))))) &&& BitVec.ofInt (IntKind.i64.bits) (255:Int)).toNat:Int)),(c.1,w64 (c.2.1+(1:Int)),w64 (z2+(1442695040888963407:Int)))))) (K (YI (w64 ((z1.toNat:Int)),(c.1,c.2.1,w64 (z2+(1442695040888963407:Int))))))))):Hold (tawp Ql9 (1+0) Qj0 (TQ 1 0 Qn6 K) (Qj [(.bx [(.c (.sl [(.int .u8)]) c.1),(.c TI c.2.1),(.c TI c.2.2)])])) :=
 Hold.of (by kernel_rfl) h
theorem Qej (c:((List Int) × Int × Int)) (hp:Qh c):∃ t:Int × (((List Int) × Int × Int)),(QaK c t)∧TCon Try.prog 183 [(.bx [(.c (.sl [(.int .u8)]) c.1),(.c TI c.2.1),(.c TI c.2.2)])] (YI t):=by
 refine Zh (tcx (n:=58) (sg:=QcK.sg) Qq TOk.nil (by kernel_rfl) (by kernel_rfl) (Qkm (fun r'=>∃ t,(QaK c t)∧r'=YI t) c ?_))
 conv=>zeta
 have h1:=hp.1
 have h2:=hp.2
 refine ⟨⟨by omega,by omega⟩,fun h=>⟨⟨h1,by simp at h;omega⟩,QB ⟨(Qbw _).1,(Qbw _).2,?_,h2⟩⟩,fun h=>(QB ⟨(Qbw _).1,(Qbw _).2,h1,h2⟩)⟩
 simp at h
 show 0≤w64 (c.2.1+1)
 rw [Qi (by omega) (by omega)];omega
theorem JS (c:((List Int) × Int × Int)) (hp:Qh c):QaK c (QJ c):=(Classical.epsilon_spec (Qej c hp)).1
theorem Qov (c:((List Int) × Int × Int)) (hp:Qh c):TCon Try.prog 183 [(.bx [(.c (.sl [(.int .u8)]) c.1),(.c TI c.2.1),(.c TI c.2.2)])] (YI (QJ c)):=(Classical.epsilon_spec (Qej c hp)).2
theorem Qlo:Qo Try.prog QcK:=Qs fun x h=>Qov x.1 h
def Yf (t:Int × (((List Int) × Int × Int))):TRes:=⟨(zci t.1),[],[[(zcs [(.int .u8)] t.2.1),(zci t.2.2.1),(zci t.2.2.2)]],true,[]⟩
def Qc (x0:((List Int) × Int × Int)) (x1:Int):Int × (((List Int) × Int × Int)):=Classical.epsilon fun t:Int × (((List Int) × Int × Int))=>(QaO x0 x1 t)∧TCon Try.prog 116 [(.bx [(.c (.sl [(.int .u8)]) x0.1),(.c TI x0.2.1),(.c TI x0.2.2)]),(.c TI x1)] (Yf t)
def Zx:TRow:=Qp 116 [(.b [(.sl [(.int .u8)]),TI,TI]),(.c TI)] fun x=>(some (QI x.1 x.2.1),Yf (Qc x.1 x.2.1))
def QlM:List TRow:=[QcK]
def QkF:TCode :=
 (zsq [(.reg [zmv 4 (zki 0)]),(zsq [(.reg [zmv 9 1,zbi 10 .leq 9 (zki 0)]),(.cond 10 (zsq [(.reg [zmv 4 (zki 0)]),.ret]) .skip)]),(zsq [(.reg [zmv 11 1,zbi 12 .leq 11 (zki 256)]),(.cond 12 (zsq [(.reg [zmv 13 0,zca 14 183 [13],zmv 15 1,zbi 16 .rem 14 15,zmv 4 16]),.ret]) .skip)]),(.reg [zmv 17 0,zca 18 183 [17],zmv 5 18]),(.reg [zmv 19 0,zca 20 183 [19],zmv 6 20]),(.reg [zmv 21 0,zca 22 183 [21],zmv 7 22]),(.reg [zmv 23 0,zca 24 183 [23],zmv 8 24]),(.reg [zmv 25 5,zbi 26 .mul 25 (zki 16777216),zmv 27 6,zbi 28 .mul 27 (zki 65536),zbi 29 .add 26 28,zmv 30 7,zbi 31 .mul 30 (zki 256),zbi 32 .add 29 31,zmv 33 8,zbi 34 .add 32 33,zmv 35 1,zbi 36 .rem 34 35,zmv 4 36]),.ret])
def QmY:List (ARv × Md):=[(.t 4,.one .d)]
theorem QmA (c:((List Int) × Int × Int)) (n:Int) (h :
 (zif (decide (n≤(0:Int))) (K (Yf ((0:Int),c))) (zif (decide (n≤(256:Int))) (((Qh c)∧(¬ (n:Int)=0))∧K (Yf ((Int.tmod ((QJ c).1) n),((QJ c).2)))) ((Qh c)∧((Qh ((QJ c).2))∧((Qh ((QJ ((QJ c).2)).2))∧((Qh ((QJ ((QJ ((QJ c).2)).2)).2))∧((¬ (n:Int)=0)∧K (Yf ((Int.tmod (w64 ((w64 ((w64 ((w64 (((QJ c).1)*(16777216:Int)))+(w64 (((QJ ((QJ c).2)).1)*(65536:Int)))))+(w64 (((QJ ((QJ ((QJ c).2)).2)).1)*(256:Int)))))+((QJ ((QJ ((QJ ((QJ c).2)).2)).2)).1))) n),((QJ ((QJ ((QJ ((QJ c).2)).2)).2)).2))))))))))):Hold (tawp QlM (1+0) QkF (TQ 1 0 QmY K) (Qj [(.bx [(.c (.sl [(.int .u8)]) c.1),(.c TI c.2.1),(.c TI c.2.2)]),(.c TI n)])) :=
 Hold.of (by kernel_rfl) h
theorem QgJ (c:((List Int) × Int × Int)) (n:Int) (hp:QI c n):∃ t:Int × (((List Int) × Int × Int)),(QaO c n t)∧TCon Try.prog 116 [(.bx [(.c (.sl [(.int .u8)]) c.1),(.c TI c.2.1),(.c TI c.2.2)]),(.c TI n)] (Yf t):=by
 refine Zh (tcx (n:=37) (sg:=Zx.sg) Qq (TOk.cons Qlo TOk.nil) (by kernel_rfl) (by kernel_rfl) (QmA (fun r'=>∃ t,(QaO c n t)∧r'=Yf t) c n ?_))
 refine ⟨fun h=>(QB ⟨Int.le_refl 0,fun h2=>by simp at h;omega,fun _=>rfl,hp⟩),fun h=>⟨fun h2=>?_,fun h2=>?_⟩⟩
 ·have b1:=JS c hp
  simp at h
  exact ⟨⟨hp,by omega⟩,QB ⟨Int.tmod_nonneg _ b1.1,fun h0=>Int.tmod_lt_of_pos _ h0,fun h0=>by omega,b1.2.2⟩⟩
 ·have b1:=JS c hp
  have b2:=JS _ b1.2.2
  have b3:=JS _ b2.2.2
  have b4:=JS _ b3.2.2
  simp at h
  refine ⟨hp,b1.2.2,b2.2.2,b3.2.2,by omega,QB ⟨Int.tmod_nonneg _ ?_,fun h0=>Int.tmod_lt_of_pos _ h0,fun h0=>by omega,b4.2.2⟩⟩
  have h1:=b1.1
  have h2:=b1.2.1
  have h3:=b2.1
  have h4:=b2.2.1
  have h5:=b3.1
  have h6:=b3.2.1
  have h7:=b4.1
  have h8:=b4.2.1
  clear b1 b2 b3 b4
  rw [Qi (x:=_*16777216) (by omega) (by omega),Qi (x:=_*65536) (by omega) (by omega),Qi (x:=_*256) (by omega) (by omega)]
  rw [Qi (x:=_*16777216+_) (by omega) (by omega),Qi (x:=_+_*256) (by omega) (by omega),Qi (by omega) (by omega)]
  omega
theorem QX (c:((List Int) × Int × Int)) (n:Int) (hp:QI c n):QaO c n (Qc c n):=(Classical.epsilon_spec (QgJ c n hp)).1
theorem QkQ (c:((List Int) × Int × Int)) (n:Int) (hp:QI c n):TCon Try.prog 116 [(.bx [(.c (.sl [(.int .u8)]) c.1),(.c TI c.2.1),(.c TI c.2.2)]),(.c TI n)] (Yf (Qc c n)):=(Classical.epsilon_spec (QgJ c n hp)).2
theorem Ye:Qo Try.prog Zx:=Qs fun x h=>QkQ x.1 x.2.1 h
def Jf (t:Bool × (((List Int) × Int × Int))):TRes:=⟨(zcb t.1),[],[[(zcs [(.int .u8)] t.2.1),(zci t.2.2.1),(zci t.2.2.2)]],true,[]⟩
def Zs (x0:((List Int) × Int × Int)) (x1:Int):Bool × (((List Int) × Int × Int)):=Classical.epsilon fun t:Bool × (((List Int) × Int × Int))=>(QbB x0 x1 t)∧TCon Try.prog 136 [(.bx [(.c (.sl [(.int .u8)]) x0.1),(.c TI x0.2.1),(.c TI x0.2.2)]),(.c TI x1)] (Jf t)
def QcQ:TRow:=Qp 136 [(.b [(.sl [(.int .u8)]),TI,TI]),(.c TI)] fun x=>(some (QI x.1 x.2.1),Jf (Zs x.1 x.2.1))
def QpA:List TRow:=[Zx]
def Qk6:TCode :=
 (zsq [(.reg [zmv 4 (zkb false)]),(.reg [zmv 5 0,zmv 6 1,zca 7 116 [5,6],zbi 8 .eql 7 (zki 0),zmv 4 8]),.ret])
def Qk5:List (ARv × Md):=[(.t 4,.one .d)]
theorem Qpe (c:((List Int) × Int × Int)) (n:Int) (h :
 ((QI c n)∧K (Jf ((((Qc c n).1)==(0:Int)),((Qc c n).2))))):Hold (tawp QpA (1+0) Qk6 (TQ 1 0 Qk5 K) (Qj [(.bx [(.c (.sl [(.int .u8)]) c.1),(.c TI c.2.1),(.c TI c.2.2)]),(.c TI n)])) :=
 Hold.of (by kernel_rfl) h
theorem QgH (c:((List Int) × Int × Int)) (n:Int) (hp:QI c n):∃ t:Bool × (((List Int) × Int × Int)),(QbB c n t)∧TCon Try.prog 136 [(.bx [(.c (.sl [(.int .u8)]) c.1),(.c TI c.2.1),(.c TI c.2.2)]),(.c TI n)] (Jf t):=by
 refine Zh (tcx (n:=9) (sg:=QcQ.sg) Qq (TOk.cons Ye TOk.nil) (by kernel_rfl) (by kernel_rfl) (Qpe (fun r'=>∃ t,(QbB c n t)∧r'=Jf t) c n ?_))
 exact ⟨hp,QB ((QX c n hp).2.2.2)⟩
theorem QpR (c:((List Int) × Int × Int)) (n:Int) (hp:QI c n):QbB c n (Zs c n):=(Classical.epsilon_spec (QgH c n hp)).1
theorem Ql2 (c:((List Int) × Int × Int)) (n:Int) (hp:QI c n):TCon Try.prog 136 [(.bx [(.c (.sl [(.int .u8)]) c.1),(.c TI c.2.1),(.c TI c.2.2)]),(.c TI n)] (Jf (Zs c n)):=(Classical.epsilon_spec (QgH c n hp)).2
theorem Qkv:Qo Try.prog QcQ:=Qs fun x h=>Ql2 x.1 x.2.1 h
def Jb (t:Int × (((List Int) × Int × Int))):TRes:=⟨(zci t.1),[],[[(zcs [(.int .u8)] t.2.1),(zci t.2.2.1),(zci t.2.2.2)]],true,[]⟩
def Zd (x0:((List Int) × Int × Int)) (x1:List Int):Int × (((List Int) × Int × Int)):=Classical.epsilon fun t:Int × (((List Int) × Int × Int))=>(Qa4 x0 x1 t)∧TCon Try.prog 182 [(.bx [(.c (.sl [(.int .u8)]) x0.1),(.c TI x0.2.1),(.c TI x0.2.2)]),(.c (.sl [TI]) x1)] (Jb t)
def JZ:TRow:=Qp 182 [(.b [(.sl [(.int .u8)]),TI,TI]),(.c (.sl [TI]))] fun x=>(some (Zw x.1 x.2.1),Jb (Zd x.1 x.2.1))
def QoX:List TRow:=[Zx]
def Qoc:TCode :=
 (zsq [(.reg [zmv 4 (zki 0)]),(.reg [zmv 5 1,zmv 6 0,zmv 7 1,zle 8 7,zca 9 116 [6,8],zia 10 5 9 [TI],zld 11 10 1,zmv 4 11]),.ret])
def QjS:List (ARv × Md):=[(.t 4,.one .d)]
theorem Qlf (c:((List Int) × Int × Int)) (list:List Int) (h :
 (((QI c (list.length:Int))∧((0:Int)≤(Qc c (list.length:Int)).1∧Int.toNat ((Qc c (list.length:Int)).1)<list.length))∧K (Jb ((gtd (0:Int) list (Int.toNat ((Qc c (list.length:Int)).1))),((Qc c (list.length:Int)).2))))):Hold (tawp QoX (1+0) Qoc (TQ 1 0 QjS K) (Qj [(.bx [(.c (.sl [(.int .u8)]) c.1),(.c TI c.2.1),(.c TI c.2.2)]),(.c (.sl [TI]) list)])) :=
 Hold.of (by kernel_rfl) h
theorem Qik (c:((List Int) × Int × Int)) (list:List Int) (hp:Zw c list):∃ t:Int × (((List Int) × Int × Int)),(Qa4 c list t)∧TCon Try.prog 182 [(.bx [(.c (.sl [(.int .u8)]) c.1),(.c TI c.2.1),(.c TI c.2.2)]),(.c (.sl [TI]) list)] (Jb t):=by
 refine Zh (tcx (n:=12) (sg:=JZ.sg) Qq (TOk.cons Ye TOk.nil) (by kernel_rfl) (by kernel_rfl) (Qlf (fun r'=>∃ t,(Qa4 c list t)∧r'=Jb t) c list ?_))
 have b:=QX c list.length hp.1
 have h1:=hp.2.1
 have h2:=b.2.1 (by omega)
 have h3:=b.1
 exact ⟨⟨hp.1,h3,by omega⟩,QB ⟨QaB (by omega) _,b.2.2.2⟩⟩
theorem Qbo (c:((List Int) × Int × Int)) (list:List Int) (hp:Zw c list):Qa4 c list (Zd c list):=(Classical.epsilon_spec (Qik c list hp)).1
theorem QmG (c:((List Int) × Int × Int)) (list:List Int) (hp:Zw c list):TCon Try.prog 182 [(.bx [(.c (.sl [(.int .u8)]) c.1),(.c TI c.2.1),(.c TI c.2.2)]),(.c (.sl [TI]) list)] (Jb (Zd c list)):=(Classical.epsilon_spec (Qik c list hp)).2
theorem Qdm:Qo Try.prog JZ:=Qs fun x h=>QmG x.1 x.2.1 h
def Qdt (t:Bool):TRes:=zre (zcb t)
def QcU:TRow:=Qp 26 [(.c (.sl [(.int .u8)]))] fun x=>(none,Qdt (JH x.1))
def Qj7:List TRow:=[]
def QlX:TCode :=
 (zsq [(.reg [zmv 2 (zkb false)]),(.reg [zmv 3 0,zle 4 3,zbi 5 .gtr 4 (zki 1048576),zmv 2 5]),.ret])
def Qo5:List (ARv × Md):=[(.t 2,.one .d)]
theorem QoH (code:List Int) (h :
 K (Qdt (decide ((code.length:Int)>(1048576:Int))))):Hold (tawp Qj7 (0+0) QlX (TQ 0 0 Qo5 K) (Qj [(.c (.sl [(.int .u8)]) code)])) :=
 Hold.of (by kernel_rfl) h
theorem Qnu (code:List Int):TCon Try.prog 26 [(.c (.sl [(.int .u8)]) code)] (Qdt (JH code)):=by
 refine QG rfl fun hb=>tcg (n:=6) (sg:=QcU.sg) Qq TOk.nil (by kernel_rfl) (by kernel_rfl) (QoH _ code ?_)
 have hl_code:code.length≤9223372036854775807:=hb.1.1
 exact R_eq rfl
theorem QnH:Qo Try.prog QcU:=Qs fun x _=>Qnu x.1
def Yn (t:Bool):TRes:=zre (zcb t)
def Qdy:TRow:=Qp 33 [(.c (.sl [TI])),(.c (.sl [TI]))] fun x=>(none,Yn (m_eq (α:=List Int) x.1 x.2.1))
def QdD:List TRow:=[]
def QfS:TCode :=
 (zsq [(zsq [(.reg [zmv 11 5,zmv 12 0,zle 13 12,zbi 14 .lss 11 13]),(.cond 14 .skip (.exit 0))]),(.block 1 (zsq [(.draw [zmv 17 0,zmv 18 5,zia 19 17 18 [TI],zld 20 19 1,zmv 21 1,zmv 22 5,zia 23 21 22 [TI],zld 24 23 1,zbi 25 .neq 20 24] []),(.cond 25 (zsq [(.reg [zmv 4 (zkb false)]),.ret]) .skip)])),(.reg [zmv 15 5,zbi 16 .add 15 (zki 1),zmv 5 16])])
def Qgi:List (Nat × Md):=zdl [0,1,5]
def Qfe:TCode :=
 (zsq [(.reg [zmv 4 (zkb true)]),.ret])
def Qon:TCode :=
 (zsq [(.reg [zmv 4 (zkb false)]),(zsq [(.reg [zmv 6 0,zle 7 6,zmv 8 1,zle 9 8,zbi 10 .neq 7 9]),(.cond 10 (zsq [(.reg [zmv 4 (zkb false)]),.ret]) .skip)]),(zsq [(.reg [zmv 5 (zki 0)]),(.block 0 (.loop Qgi QfS))]),Qfe])
def Qhh:List (ARv × Md):=[(.t 4,.one .d)]
def Qfg:Qd:=TQ 0 0 Qhh K
def Qme:Qd:=Qseq (tawp QdD 0 Qfe (Qfg K)) (Qfg K)
def Qkc:Qd:=Qblk 0 (Qme K)
def Qdj (a:List Int) (b:List Int) (i:Int):Prop:=Loop QdD 0 Qgi QfS (Qkc K) ⟨[(0,(zcs [TI] a)),(1,(zcs [TI] b)),(5,(zci i))],[],0⟩
theorem Qpq (a:List Int) (b:List Int) (i:Int) (h :
 (zif (decide (i<(a.length:Int))) ((((0:Int)≤i∧Int.toNat i<a.length)∧((0:Int)≤i∧Int.toNat i<b.length))∧(zif ((gtd (0:Int) a (Int.toNat i)) != (gtd (0:Int) b (Int.toNat i))) (K (Yn false)) (Qdj K a b (w64 (i+(1:Int)))))) (K (Yn true)))):Qdj K a b i :=
 Loop.of (by kernel_rfl) h
theorem Qmk (a:List Int) (b:List Int) (h :
 (zif ((a.length:Int) != (b.length:Int)) (K (Yn false)) (Qdj K a b 0))):Hold (tawp QdD (0+0) Qon (TQ 0 0 Qhh K) (Qj [(.c (.sl [TI]) a),(.c (.sl [TI]) b)])) :=
 Hold.of (by kernel_rfl) h
theorem Qkn (a:List Int) (b:List Int):TCon Try.prog 33 [(.c (.sl [TI]) a),(.c (.sl [TI]) b)] (Yn (m_eq (α:=List Int) a b)):=by
 refine QG rfl fun hb=>tcg (n:=26) (sg:=Qdy.sg) Qq TOk.nil (by kernel_rfl) (by kernel_rfl) (Qmk _ a b ?_)
 have hl_a:a.length≤9223372036854775807:=hb.1.1
 have hl_b:b.length≤9223372036854775807:=hb.2.1.1
 exact QpH hb.1.1 (fun i h=>Qpq (fun r'=>r'=Yn (m_eq (α:=List Int) a b)) a b i h) (Q:=fun x=>Yn x=Yn (m_eq (α:=List Int) a b)) rfl
theorem Qms:Qo Try.prog Qdy:=Qs fun x _=>Qkn x.1 x.2.1
end
end Go.Proofs.Ytephkbajoofeoaa.Am

