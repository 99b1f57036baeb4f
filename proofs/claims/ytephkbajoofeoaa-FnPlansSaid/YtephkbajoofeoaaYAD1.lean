/- -/
import Derived.Test.YtephkbajoofeoaaYAG9
namespace Go.Proofs.Ytephkbajoofeoaa.Am
open Go Go.RowKit Go.Proofs.Ytephkbajoofeoaa
set_option linter.all false
set_option maxHeartbeats 2000000
noncomputable section
variable (K:TRes→Prop)
def Zv (t:(((List Int) × Int × Int))):TRes:=⟨(.p 0 0 0),[(.box [(zcs [(.int .u8)] t.1),(zci t.2.1),(zci t.2.2)])],[],true,[]⟩
def QL (x0:List Int):(((List Int) × Int × Int)):=Classical.epsilon fun t:(((List Int) × Int × Int))=>(ZT x0 t)∧TCon Try.prog 114 [(.c (.sl [(.int .u8)]) x0)] (Zv t)
def JS:TRow:=Qy 114 [(.c (.sl [(.int .u8)]))] fun x=>(some (QU x.1),Zv (QL x.1))
def QbL:List TRow:=[]
def Qgs:TCode :=
 (zsq [(zsq [(.reg [zmv 8 4,zmv 9 0,zle 10 9,zbi 11 .lss 8 10,zmv 12 11,.grp 12 true [zmv 13 4,zbi 14 .lss 13 (zki 4000)] 15 14]),(.cond 15 .skip (.exit 0))]),(.block 1 (.reg [zmv 18 3,zbi 19 .mul 18 (zki 131),zmv 20 0,zmv 21 4,zia 22 20 21 [(.int .u8)],zld 23 22 1,zop 24 (.conv .i64 23),zbi 25 .add 19 24,zbi 26 .add 25 (zki 7),zbi 27 .and 26 (zki 1073741823),zmv 3 27])),(.reg [zmv 16 4,zbi 17 .add 16 (zki 1),zmv 4 17])])
def Qgy:List (Nat × Md):=zdl [0,3,4]
def QfX:TCode :=
 (zsq [(.reg [zmv 28 0,zmv 29 3,zop 30 (.build (z0s [(.sl [(.int .u8)]),TI,TI]) [(0,1,28),(2,1,29)]),zop 31 (.box 210 30 3),zmv 2 31]),.ret])
def Qje:TCode :=
 (zsq [(.reg [zmv 2 (.k (.c .nilp ()))]),(.reg [zmv 5 0,zle 6 5,zbi 7 .add (zki 10101) 6,zmv 3 7]),(zsq [(.reg [zmv 4 (zki 0)]),(.block 0 (.loop Qgy Qgs))]),QfX])
def Qdq:List (ARv × Md):=[(.t 2,.b [.d,.d,.d])]
def QfD:Qd:=TQ 0 0 Qdq K
def Qjy:Qd:=Qseq (tawp QbL 0 QfX (QfD K)) (QfD K)
def Qlp:Qd:=Qblk 0 (Qjy K)
def JC (code:List Int) (h1:Int) (i:Int):Prop:=Loop QbL 0 Qgy Qgs (Qlp K) ⟨[(0,(zcs [(.int .u8)] code)),(3,(zci h1)),(4,(zci i))],[],0⟩
theorem QgD (code:List Int) (h1:Int) (i:Int) (h :
 (zif ((decide (i<(code.length:Int)))&&(decide (i<(4000:Int)))) (((0:Int)≤i∧Int.toNat i<code.length)∧(JC K code (w64 (((BitVec.ofInt (IntKind.i64.bits) (w64 ((w64 ((w64 (h1*(131:Int)))+(w64 ((gtd (0:Int) code (Int.toNat i))))))+(7:Int))) &&& BitVec.ofInt (IntKind.i64.bits) (1073741823:Int)).toNat:Int))) (w64 (i+(1:Int))))) (K (Zv (code,(0:Int),h1))))):JC K code h1 i :=
 Loop.of (by kernel_rfl) h
theorem QjR (code:List Int) (h :
 (JC K code (w64 ((10101:Int)+(code.length:Int))) 0)):Hold (tawp QbL (0+0) Qje (TQ 0 0 Qdq K) (Qn [(.c (.sl [(.int .u8)]) code)])) :=
 Hold.of (by kernel_rfl) h
theorem QfW (code:List Int) (hp:QU code):∃ t:(((List Int) × Int × Int)),(ZT code t)∧TCon Try.prog 114 [(.c (.sl [(.int .u8)]) code)] (Zv t):=by
 refine ZP (tcx (n:=32) (sg:=JS.sg) QC TOk.nil (by kernel_rfl) (by kernel_rfl) (QjR (fun r'=>∃ t,(ZT code t)∧r'=Zv t) code ?_))
 have hp':code.length≤1048576:=hp
 suffices h:∀ x:Int,JC (fun r'=>∃ t,(ZT code t)∧r'=Zv t) code x ((0:Nat):Int) from h _
 refine Zq (min code.length 4000) (fun k=>∀ x:Int,JC (fun r'=>∃ t,(ZT code t)∧r'=Zv t) code x (k:Int)) ?_ ?_
 ·intro x
  refine QgD (fun r'=>∃ t,(ZT code t)∧r'=Zv t) code _ _ ⟨fun h=>?_,fun _=>(Zo ⟨Int.le_refl 0,hp⟩)⟩
  simp at h;omega
 ·intro k hk ih x
  refine QgD (fun r'=>∃ t,(ZT code t)∧r'=Zv t) code _ _ ⟨fun _=>⟨⟨by omega,by omega⟩,?_⟩,fun h=>?_⟩
  ·rw [sc1 (by omega)];exact ih _
  ·simp at h;omega
theorem Qc2 (code:List Int) (hp:QU code):ZT code (QL code):=(Classical.epsilon_spec (QfW code hp)).1
theorem Qh9 (code:List Int) (hp:QU code):TCon Try.prog 114 [(.c (.sl [(.int .u8)]) code)] (Zv (QL code)):=(Classical.epsilon_spec (QfW code hp)).2
theorem Qgd:Qx Try.prog JS:=QD fun x h=>Qh9 x.1 h
def Z9 (t:Int × (((List Int) × Int × Int))):TRes:=⟨(zci t.1),[],[[(zcs [(.int .u8)] t.2.1),(zci t.2.2.1),(zci t.2.2.2)]],true,[]⟩
def QF (x0:((List Int) × Int × Int)):Int × (((List Int) × Int × Int)):=Classical.epsilon fun t:Int × (((List Int) × Int × Int))=>(Qan x0 t)∧TCon Try.prog 183 [(.bx [(.c (.sl [(.int .u8)]) x0.1),(.c TI x0.2.1),(.c TI x0.2.2)])] (Z9 t)
def Qb6:TRow:=Qy 183 [(.b [(.sl [(.int .u8)]),TI,TI])] fun x=>(some (QE x.1),Z9 (QF x.1))
def Qk2:List TRow:=[]
def QiJ:TCode :=
 (zsq [(.reg [zmv 2 (zki 0)]),(.reg [zmv 4 0,zmv 5 0,zop 6 (.nilc 5),zfa 7 6 2,zld 8 7 1,zbi 9 .mul 8 (zki 6364136223846793005),zbi 10 .add 9 (zki 1442695040888963407),zop 11 (.nilc 4),zfa 12 11 2,zst 12 10 1]),(.draw [zmv 13 0,zop 14 (.nilc 13),zfa 15 14 2,zld 16 15 1,zbi 17 .shr 16 (.k (.c (.int .u64) (33:Int))),zmv 18 0,zop 19 (.nilc 18),zfa 20 19 2,zld 21 20 1,zbi 22 .shr 21 (.k (.c (.int .u64) (45:Int))),zbi 23 .xor 17 22,zbi 24 .and 23 (zki 255),zmv 3 24] []),(zsq [(.draw [zmv 25 0,zop 26 (.nilc 25),zfa 27 26 1,zld 28 27 1,zmv 29 0,zop 30 (.nilc 29),zfa 31 30 0,zld 32 31 1,zle 33 32,zbi 34 .lss 28 33] []),(.cond 34 (zsq [(.draw [zmv 35 3,zmv 36 0,zop 37 (.nilc 36),zfa 38 37 0,zld 39 38 1,zmv 40 0,zop 41 (.nilc 40),zfa 42 41 1,zld 43 42 1,zia 44 39 43 [(.int .u8)],zld 45 44 1,zop 46 (.conv .i64 45),zbi 47 .add 35 46,zbi 48 .and 47 (zki 255),zmv 3 48] []),(.reg [zmv 49 0,zmv 50 0,zop 51 (.nilc 50),zfa 52 51 1,zld 53 52 1,zbi 54 .add 53 (zki 1),zop 55 (.nilc 49),zfa 56 55 1,zst 56 54 1])]) .skip)]),(.reg [zmv 57 3,zmv 2 57]),.ret])
def Qh6:List (ARv × Md):=[(.t 2,.one .d)]
theorem Qji (c:((List Int) × Int × Int)) (h :
 let z2:=w64 (c.2.2*(6364136223846793005:Int))
 let z1:=BitVec.ofInt (IntKind.i64.bits) (w64 (((BitVec.ofInt (IntKind.i64.bits) (Int.fdiv (w64 (z2+(1442695040888963407:Int))) (2 ^ (min (Int.toNat (33:Int)) (IntKind.i64.bits)))) ^^^ BitVec.ofInt (IntKind.i64.bits) (Int.fdiv (w64 (z2+(1442695040888963407:Int))) (2 ^ (min (Int.toNat (45:Int)) (IntKind.i64.bits))))).toNat:Int))) &&& BitVec.ofInt (IntKind.i64.bits) (255:Int)
 ((((0:Int)≤(33:Int))∧((0:Int)≤(45:Int)))∧(zif (decide (c.2.1<((c.1).length:Int))) (((0:Int)≤c.2.1∧Int.toNat c.2.1<(c.1).length)∧K (Z9 (w64 (((BitVec.ofInt (IntKind.i64.bits) (w64 ((w64 ((z1.toNat:Int)))+(w64 ((gtd (0:Int) c.1 (Int.toNat c.2.1)))))) &&& BitVec.ofInt (IntKind.i64.bits) (255:Int)).toNat:Int)),(c.1,w64 (c.2.1+(1:Int)),w64 (z2+(1442695040888963407:Int)))))) (K (Z9 (w64 ((z1.toNat:Int)),(c.1,c.2.1,w64 (z2+(1442695040888963407:Int))))))))):Hold (tawp Qk2 (1+0) QiJ (TQ 1 0 Qh6 K) (Qn [(.bx [(.c (.sl [(.int .u8)]) c.1),(.c TI c.2.1),(.c TI c.2.2)])])) :=
 Hold.of (by kernel_rfl) h
theorem Qeg (c:((List Int) × Int × Int)) (hp:QE c):∃ t:Int × (((List Int) × Int × Int)),(Qan c t)∧TCon Try.prog 183 [(.bx [(.c (.sl [(.int .u8)]) c.1),(.c TI c.2.1),(.c TI c.2.2)])] (Z9 t):=by
 refine ZP (tcx (n:=58) (sg:=Qb6.sg) QC TOk.nil (by kernel_rfl) (by kernel_rfl) (Qji (fun r'=>∃ t,(Qan c t)∧r'=Z9 t) c ?_))
 conv=>zeta
 have h1:=hp.1
 have h2:=hp.2
 refine ⟨⟨by omega,by omega⟩,fun h=>⟨⟨h1,by simp at h;omega⟩,Zo ⟨(QaL _).1,(QaL _).2,?_,h2⟩⟩,fun h=>(Zo ⟨(QaL _).1,(QaL _).2,h1,h2⟩)⟩
 simp at h
 show 0≤w64 (c.2.1+1)
 rw [Qk (by omega) (by omega)];omega
theorem Jo (c:((List Int) × Int × Int)) (hp:QE c):Qan c (QF c):=(Classical.epsilon_spec (Qeg c hp)).1
theorem QlX (c:((List Int) × Int × Int)) (hp:QE c):TCon Try.prog 183 [(.bx [(.c (.sl [(.int .u8)]) c.1),(.c TI c.2.1),(.c TI c.2.2)])] (Z9 (QF c)):=(Classical.epsilon_spec (Qeg c hp)).2
theorem Qiw:Qx Try.prog Qb6:=QD fun x h=>QlX x.1 h
def ZZ (t:Int × (((List Int) × Int × Int))):TRes:=⟨(zci t.1),[],[[(zcs [(.int .u8)] t.2.1),(zci t.2.2.1),(zci t.2.2.2)]],true,[]⟩
def Qq (x0:((List Int) × Int × Int)) (x1:Int):Int × (((List Int) × Int × Int)):=Classical.epsilon fun t:Int × (((List Int) × Int × Int))=>(QaF x0 x1 t)∧TCon Try.prog 116 [(.bx [(.c (.sl [(.int .u8)]) x0.1),(.c TI x0.2.1),(.c TI x0.2.2)]),(.c TI x1)] (ZZ t)
def Yw:TRow:=Qy 116 [(.b [(.sl [(.int .u8)]),TI,TI]),(.c TI)] fun x=>(some (QQ x.1 x.2.1),ZZ (Qq x.1 x.2.1))
def QkS:List TRow:=[Qb6]
def Qha:TCode :=
 (zsq [(.reg [zmv 4 (zki 0)]),(zsq [(.reg [zmv 9 1,zbi 10 .leq 9 (zki 0)]),(.cond 10 (zsq [(.reg [zmv 4 (zki 0)]),.ret]) .skip)]),(zsq [(.reg [zmv 11 1,zbi 12 .leq 11 (zki 256)]),(.cond 12 (zsq [(.reg [zmv 13 0,zca 14 183 [13],zmv 15 1,zbi 16 .rem 14 15,zmv 4 16]),.ret]) .skip)]),(.reg [zmv 17 0,zca 18 183 [17],zmv 5 18]),(.reg [zmv 19 0,zca 20 183 [19],zmv 6 20]),(.reg [zmv 21 0,zca 22 183 [21],zmv 7 22]),(.reg [zmv 23 0,zca 24 183 [23],zmv 8 24]),(.reg [zmv 25 5,zbi 26 .mul 25 (zki 16777216),zmv 27 6,zbi 28 .mul 27 (zki 65536),zbi 29 .add 26 28,zmv 30 7,zbi 31 .mul 30 (zki 256),zbi 32 .add 29 31,zmv 33 8,zbi 34 .add 32 33,zmv 35 1,zbi 36 .rem 34 35,zmv 4 36]),.ret])
def Qj1:List (ARv × Md):=[(.t 4,.one .d)]
theorem QjW (c:((List Int) × Int × Int)) (n:Int) (h :
 (zif (decide (n≤(0:Int))) (K (ZZ ((0:Int),c))) (zif (decide (n≤(256:Int))) (((QE c)∧(¬ (n:Int)=0))∧K (ZZ ((Int.tmod ((QF c).1) n),((QF c).2)))) ((QE c)∧((QE ((QF c).2))∧((QE ((QF ((QF c).2)).2))∧((QE ((QF ((QF ((QF c).2)).2)).2))∧((¬ (n:Int)=0)∧K (ZZ ((Int.tmod (w64 ((w64 ((w64 ((w64 (((QF c).1)*(16777216:Int)))+(w64 (((QF ((QF c).2)).1)*(65536:Int)))))+(w64 (((QF ((QF ((QF c).2)).2)).1)*(256:Int)))))+((QF ((QF ((QF ((QF c).2)).2)).2)).1))) n),((QF ((QF ((QF ((QF c).2)).2)).2)).2))))))))))):Hold (tawp QkS (1+0) Qha (TQ 1 0 Qj1 K) (Qn [(.bx [(.c (.sl [(.int .u8)]) c.1),(.c TI c.2.1),(.c TI c.2.2)]),(.c TI n)])) :=
 Hold.of (by kernel_rfl) h
theorem Qd3 (c:((List Int) × Int × Int)) (n:Int) (hp:QQ c n):∃ t:Int × (((List Int) × Int × Int)),(QaF c n t)∧TCon Try.prog 116 [(.bx [(.c (.sl [(.int .u8)]) c.1),(.c TI c.2.1),(.c TI c.2.2)]),(.c TI n)] (ZZ t):=by
 refine ZP (tcx (n:=37) (sg:=Yw.sg) QC (TOk.cons Qiw TOk.nil) (by kernel_rfl) (by kernel_rfl) (QjW (fun r'=>∃ t,(QaF c n t)∧r'=ZZ t) c n ?_))
 refine ⟨fun h=>(Zo ⟨Int.le_refl 0,fun h2=>by simp at h;omega,fun _=>rfl,hp⟩),fun h=>⟨fun h2=>?_,fun h2=>?_⟩⟩
 ·have b1:=Jo c hp
  simp at h
  exact ⟨⟨hp,by omega⟩,Zo ⟨Int.tmod_nonneg _ b1.1,fun h0=>Int.tmod_lt_of_pos _ h0,fun h0=>by omega,b1.2.2⟩⟩
 ·have b1:=Jo c hp
  have b2:=Jo _ b1.2.2
  have b3:=Jo _ b2.2.2
  have b4:=Jo _ b3.2.2
  simp at h
  refine ⟨hp,b1.2.2,b2.2.2,b3.2.2,by omega,Zo ⟨Int.tmod_nonneg _ ?_,fun h0=>Int.tmod_lt_of_pos _ h0,fun h0=>by omega,b4.2.2⟩⟩
  have h1:=b1.1
  have h2:=b1.2.1
  have h3:=b2.1
  have h4:=b2.2.1
  have h5:=b3.1
  have h6:=b3.2.1
  have h7:=b4.1
  have h8:=b4.2.1
  clear b1 b2 b3 b4
  rw [Qk (x:=_*16777216) (by omega) (by omega),Qk (x:=_*65536) (by omega) (by omega),Qk (x:=_*256) (by omega) (by omega)]
  rw [Qk (x:=_*16777216+_) (by omega) (by omega),Qk (x:=_+_*256) (by omega) (by omega),Qk (by omega) (by omega)]
  omega
theorem Z1 (c:((List Int) × Int × Int)) (n:Int) (hp:QQ c n):QaF c n (Qq c n):=(Classical.epsilon_spec (Qd3 c n hp)).1
theorem Qhf (c:((List Int) × Int × Int)) (n:Int) (hp:QQ c n):TCon Try.prog 116 [(.bx [(.c (.sl [(.int .u8)]) c.1),(.c TI c.2.1),(.c TI c.2.2)]),(.c TI n)] (ZZ (Qq c n)):=(Classical.epsilon_spec (Qd3 c n hp)).2
theorem JZ:Qx Try.prog Yw:=QD fun x h=>Qhf x.1 x.2.1 h
def YS (t:Bool × (((List Int) × Int × Int))):TRes:=⟨(zcb t.1),[],[[(zcs [(.int .u8)] t.2.1),(zci t.2.2.1),(zci t.2.2.2)]],true,[]⟩
def Zx (x0:((List Int) × Int × Int)) (x1:Int):Bool × (((List Int) × Int × Int)):=Classical.epsilon fun t:Bool × (((List Int) × Int × Int))=>(Qa4 x0 x1 t)∧TCon Try.prog 136 [(.bx [(.c (.sl [(.int .u8)]) x0.1),(.c TI x0.2.1),(.c TI x0.2.2)]),(.c TI x1)] (YS t)
def Qac:TRow:=Qy 136 [(.b [(.sl [(.int .u8)]),TI,TI]),(.c TI)] fun x=>(some (QQ x.1 x.2.1),YS (Zx x.1 x.2.1))
def Qiv:List TRow:=[Yw]
def QkI:TCode :=
 (zsq [(.reg [zmv 4 (zkb false)]),(.reg [zmv 5 0,zmv 6 1,zca 7 116 [5,6],zbi 8 .eql 7 (zki 0),zmv 4 8]),.ret])
def Ql4:List (ARv × Md):=[(.t 4,.one .d)]
theorem Qjk (c:((List Int) × Int × Int)) (n:Int) (h :
 ((QQ c n)∧K (YS ((((Qq c n).1)==(0:Int)),((Qq c n).2))))):Hold (tawp Qiv (1+0) QkI (TQ 1 0 Ql4 K) (Qn [(.bx [(.c (.sl [(.int .u8)]) c.1),(.c TI c.2.1),(.c TI c.2.2)]),(.c TI n)])) :=
 Hold.of (by kernel_rfl) h
theorem QgL (c:((List Int) × Int × Int)) (n:Int) (hp:QQ c n):∃ t:Bool × (((List Int) × Int × Int)),(Qa4 c n t)∧TCon Try.prog 136 [(.bx [(.c (.sl [(.int .u8)]) c.1),(.c TI c.2.1),(.c TI c.2.2)]),(.c TI n)] (YS t):=by
 refine ZP (tcx (n:=9) (sg:=Qac.sg) QC (TOk.cons JZ TOk.nil) (by kernel_rfl) (by kernel_rfl) (Qjk (fun r'=>∃ t,(Qa4 c n t)∧r'=YS t) c n ?_))
 exact ⟨hp,Zo ((Z1 c n hp).2.2.2)⟩
theorem QdS (c:((List Int) × Int × Int)) (n:Int) (hp:QQ c n):Qa4 c n (Zx c n):=(Classical.epsilon_spec (QgL c n hp)).1
theorem QkU (c:((List Int) × Int × Int)) (n:Int) (hp:QQ c n):TCon Try.prog 136 [(.bx [(.c (.sl [(.int .u8)]) c.1),(.c TI c.2.1),(.c TI c.2.2)]),(.c TI n)] (YS (Zx c n)):=(Classical.epsilon_spec (QgL c n hp)).2
theorem Qe9:Qx Try.prog Qac:=QD fun x h=>QkU x.1 x.2.1 h
def YR (t:Int × (((List Int) × Int × Int))):TRes:=⟨(zci t.1),[],[[(zcs [(.int .u8)] t.2.1),(zci t.2.2.1),(zci t.2.2.2)]],true,[]⟩
def QG (x0:((List Int) × Int × Int)) (x1:List Int):Int × (((List Int) × Int × Int)):=Classical.epsilon fun t:Int × (((List Int) × Int × Int))=>(Qar x0 x1 t)∧TCon Try.prog 182 [(.bx [(.c (.sl [(.int .u8)]) x0.1),(.c TI x0.2.1),(.c TI x0.2.2)]),(.c (.sl [TI]) x1)] (YR t)
def QbZ:TRow:=Qy 182 [(.b [(.sl [(.int .u8)]),TI,TI]),(.c (.sl [TI]))] fun x=>(some (ZA x.1 x.2.1),YR (QG x.1 x.2.1))
def QjT:List TRow:=[Yw]
def QlZ:TCode :=
 (zsq [(.reg [zmv 4 (zki 0)]),(.reg [zmv 5 1,zmv 6 0,zmv 7 1,zle 8 7,zca 9 116 [6,8],zia 10 5 9 [TI],zld 11 10 1,zmv 4 11]),.ret])
def QlW:List (ARv × Md):=[(.t 4,.one .d)]
theorem Qh0 (c:((List Int) × Int × Int)) (list:List Int) (h :
 (((QQ c (list.length:Int))∧((0:Int)≤(Qq c (list.length:Int)).1∧Int.toNat ((Qq c (list.length:Int)).1)<list.length))∧K (YR ((gtd (0:Int) list (Int.toNat ((Qq c (list.length:Int)).1))),((Qq c (list.length:Int)).2))))):Hold (tawp QjT (1+0) QlZ (TQ 1 0 QlW K) (Qn [(.bx [(.c (.sl [(.int .u8)]) c.1),(.c TI c.2.1),(.c TI c.2.2)]),(.c (.sl [TI]) list)])) :=
 Hold.of (by kernel_rfl) h
theorem Qfz (c:((List Int) × Int × Int)) (list:List Int) (hp:ZA c list):∃ t:Int × (((List Int) × Int × Int)),(Qar c list t)∧TCon Try.prog 182 [(.bx [(.c (.sl [(.int .u8)]) c.1),(.c TI c.2.1),(.c TI c.2.2)]),(.c (.sl [TI]) list)] (YR t):=by
 refine ZP (tcx (n:=12) (sg:=QbZ.sg) QC (TOk.cons JZ TOk.nil) (by kernel_rfl) (by kernel_rfl) (Qh0 (fun r'=>∃ t,(Qar c list t)∧r'=YR t) c list ?_))
 have b:=Z1 c list.length hp.1
 have h1:=hp.2.1
 have h2:=b.2.1 (by omega)
 have h3:=b.1
 exact ⟨⟨hp.1,h3,by omega⟩,Zo ⟨Qba (by omega) _,b.2.2.2⟩⟩
theorem QlE (c:((List Int) × Int × Int)) (list:List Int) (hp:ZA c list):Qar c list (QG c list):=(Classical.epsilon_spec (Qfz c list hp)).1
theorem Qhr (c:((List Int) × Int × Int)) (list:List Int) (hp:ZA c list):TCon Try.prog 182 [(.bx [(.c (.sl [(.int .u8)]) c.1),(.c TI c.2.1),(.c TI c.2.2)]),(.c (.sl [TI]) list)] (YR (QG c list)):=(Classical.epsilon_spec (Qfz c list hp)).2
theorem QiN:Qx Try.prog QbZ:=QD fun x h=>Qhr x.1 x.2.1 h
def QbV (t:Bool):TRes:=zre (zcb t)
def QcA:TRow:=Qy 26 [(.c (.sl [(.int .u8)]))] fun x=>(none,QbV (Jb x.1))
def QlP:List TRow:=[]
def QiI:TCode :=
 (zsq [(.reg [zmv 2 (zkb false)]),(.reg [zmv 3 0,zle 4 3,zbi 5 .gtr 4 (zki 1048576),zmv 2 5]),.ret])
def QlR:List (ARv × Md):=[(.t 2,.one .d)]
theorem Qg3 (code:List Int) (h :
 K (QbV (decide ((code.length:Int)>(1048576:Int))))):Hold (tawp QlP (0+0) QiI (TQ 0 0 QlR K) (Qn [(.c (.sl [(.int .u8)]) code)])) :=
 Hold.of (by kernel_rfl) h
theorem Qi2 (code:List Int):TCon Try.prog 26 [(.c (.sl [(.int .u8)]) code)] (QbV (Jb code)):=by
 refine QN rfl fun hb=>tcg (n:=6) (sg:=QcA.sg) QC TOk.nil (by kernel_rfl) (by kernel_rfl) (Qg3 _ code ?_)
 have hl_code:code.length≤9223372036854775807:=hb.1.1
 exact R_eq rfl
theorem Qjh:Qx Try.prog QcA:=QD fun x _=>Qi2 x.1
end
end Go.Proofs.Ytephkbajoofeoaa.Am

