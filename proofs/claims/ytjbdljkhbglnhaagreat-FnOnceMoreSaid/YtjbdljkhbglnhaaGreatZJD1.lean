/- -/
import Derived.Test.YtjbdljkhbglnhaaGreatZJG9
namespace Go.Proofs.YtjbdljkhbglnhaaGreat.Am
open Go Go.RowKit Go.Proofs.YtjbdljkhbglnhaaGreat
set_option linter.all false
set_option maxHeartbeats 2000000
noncomputable section
variable (K:TRes→Prop)
def Jl (t:(((List Int) × Int × Int))):TRes:=⟨(.p 0 0 0),[(.box [(zcs [(.int .u8)] t.1),(zci t.2.1),(zci t.2.2)])],[],true,[]⟩
def YZ (x0:List Int):(((List Int) × Int × Int)):=Classical.epsilon fun t:(((List Int) × Int × Int))=>(Qaf x0 t)∧TCon Tryz.prog 69 [(.c (.sl [(.int .u8)]) x0)] (Jl t)
def Qjg:TRow:=Qg 69 [(.c (.sl [(.int .u8)]))] fun x=>(some (YQ x.1),Jl (YZ x.1))
def Qju:List TRow:=[]
def QmY:TCode :=
 (zsq [(zsq [(.reg [zmv 8 4,zmv 9 0,zle 10 9,zbi 11 .lss 8 10,zmv 12 11,.grp 12 true [zmv 13 4,zbi 14 .lss 13 (zki 4000)] 15 14]),(.cond 15 .skip (.exit 0))]),(.block 1 (.reg [zmv 18 3,zbi 19 .mul 18 (zki 131),zmv 20 0,zmv 21 4,zia 22 20 21 [(.int .u8)],zld 23 22 1,zop 24 (.conv .i64 23),zbi 25 .add 19 24,zbi 26 .add 25 (zki 7),zbi 27 .and 26 (zki 1073741823),zmv 3 27])),(.reg [zmv 16 4,zbi 17 .add 16 (zki 1),zmv 4 17])])
def QqN:List (Nat × Md):=zdl [0,3,4]
def QlK:TCode :=
 (zsq [(.reg [zmv 28 0,zmv 29 3,zop 30 (.build (z0s [(.sl [(.int .u8)]),TI,TI]) [(0,1,28),(2,1,29)]),zop 31 (.box 157 30 3),zmv 2 31]),.ret])
def QD8:TCode :=
 (zsq [(.reg [zmv 2 (.k (.c .nilp ()))]),(.reg [zmv 5 0,zle 6 5,zbi 7 .add (zki 10101) 6,zmv 3 7]),(zsq [(.reg [zmv 4 (zki 0)]),(.block 0 (.loop QqN QmY))]),QlK])
def QuA:List (ARv × Md):=[(.t 2,.b [.d,.d,.d])]
def QpV:Qc:=TQ 0 0 QuA K
def QIR:Qc:=Qseq (tawp Qju 0 QlK (QpV K)) (QpV K)
def Qx6:Qc:=Qblk 0 (QIR K)
def Qcz (code:List Int) (h1:Int) (i:Int):Prop:=Loop Qju 0 QqN QmY (Qx6 K) ⟨[(0,(zcs [(.int .u8)] code)),(3,(zci h1)),(4,(zci i))],[],0⟩
theorem Qq5 (code:List Int) (h1:Int) (i:Int) (h :
 (zif ((decide (i<(code.length:Int)))&&(decide (i<(4000:Int)))) (((0:Int)≤i∧Int.toNat i<code.length)∧(Qcz K code (w64 (((BitVec.ofInt (IntKind.i64.bits) (w64 ((w64 ((w64 (h1*(131:Int)))+(w64 ((gtd (0:Int) code (Int.toNat i))))))+(7:Int))) &&& BitVec.ofInt (IntKind.i64.bits) (1073741823:Int)).toNat:Int))) (w64 (i+(1:Int))))) (K (Jl (code,(0:Int),h1))))):Qcz K code h1 i :=
 Loop.of (by kernel_rfl) h
theorem QBi (code:List Int) (h :
 (Qcz K code (w64 ((10101:Int)+(code.length:Int))) 0)):Hold (tawp Qju (0+0) QD8 (TQ 0 0 QuA K) (Qe [(.c (.sl [(.int .u8)]) code)])) :=
 Hold.of (by kernel_rfl) h
theorem Qsp (code:List Int) (hp:YQ code):∃ t:(((List Int) × Int × Int)),(Qaf code t)∧TCon Tryz.prog 69 [(.c (.sl [(.int .u8)]) code)] (Jl t):=by
 refine YB (tcx (n:=32) (sg:=Qjg.sg) Qi TOk.nil (by kernel_rfl) (by kernel_rfl) (QBi (fun r'=>∃ t,(Qaf code t)∧r'=Jl t) code ?_))
 have hp':code.length≤1048576:=hp
 suffices h:∀ x:Int,Qcz (fun r'=>∃ t,(Qaf code t)∧r'=Jl t) code x ((0:Nat):Int) from h _
 refine Y7 (min code.length 4000) (fun k=>∀ x:Int,Qcz (fun r'=>∃ t,(Qaf code t)∧r'=Jl t) code x (k:Int)) ?_ ?_
 ·intro x
  refine Qq5 (fun r'=>∃ t,(Qaf code t)∧r'=Jl t) code _ _ ⟨fun h=>?_,fun _=>(ZD ⟨Int.le_refl 0,hp⟩)⟩
  simp at h;omega
 ·intro k hk ih x
  refine Qq5 (fun r'=>∃ t,(Qaf code t)∧r'=Jl t) code _ _ ⟨fun _=>⟨⟨by omega,by omega⟩,?_⟩,fun h=>?_⟩
  ·rw [sc1 (by omega)];exact ih _
  ·simp at h;omega
theorem Qwj (code:List Int) (hp:YQ code):Qaf code (YZ code):=(Classical.epsilon_spec (Qsp code hp)).1
theorem QHL (code:List Int) (hp:YQ code):TCon Tryz.prog 69 [(.c (.sl [(.int .u8)]) code)] (Jl (YZ code)):=(Classical.epsilon_spec (Qsp code hp)).2
theorem QyY:Qh Tryz.prog Qjg:=Qk fun x h=>QHL x.1 h
def QaQ (t:Int × (((List Int) × Int × Int))):TRes:=⟨(zci t.1),[],[[(zcs [(.int .u8)] t.2.1),(zci t.2.2.1),(zci t.2.2.2)]],true,[]⟩
def ZL (x0:((List Int) × Int × Int)):Int × (((List Int) × Int × Int)):=Classical.epsilon fun t:Int × (((List Int) × Int × Int))=>(Qe3 x0 t)∧TCon Tryz.prog 183 [(.bx [(.c (.sl [(.int .u8)]) x0.1),(.c TI x0.2.1),(.c TI x0.2.2)])] (QaQ t)
def Qhm:TRow:=Qg 183 [(.b [(.sl [(.int .u8)]),TI,TI])] fun x=>(some (QF x.1),QaQ (ZL x.1))
def QGn:List TRow:=[]
def QCU:TCode :=
 (zsq [(.reg [zmv 2 (zki 0)]),(.reg [zmv 4 0,zmv 5 0,zop 6 (.nilc 5),zfa 7 6 2,zld 8 7 1,zbi 9 .mul 8 (zki 6364136223846793005),zbi 10 .add 9 (zki 1442695040888963407),zop 11 (.nilc 4),zfa 12 11 2,zst 12 10 1]),(.draw [zmv 13 0,zop 14 (.nilc 13),zfa 15 14 2,zld 16 15 1,zbi 17 .shr 16 (.k (.c (.int .u64) (33:Int))),zmv 18 0,zop 19 (.nilc 18),zfa 20 19 2,zld 21 20 1,zbi 22 .shr 21 (.k (.c (.int .u64) (45:Int))),zbi 23 .xor 17 22,zbi 24 .and 23 (zki 255),zmv 3 24] []),(zsq [(.draw [zmv 25 0,zop 26 (.nilc 25),zfa 27 26 1,zld 28 27 1,zmv 29 0,zop 30 (.nilc 29),zfa 31 30 0,zld 32 31 1,zle 33 32,zbi 34 .lss 28 33] []),(.cond 34 (zsq [(.draw [zmv 35 3,zmv 36 0,zop 37 (.nilc 36),zfa 38 37 0,zld 39 38 1,zmv 40 0,zop 41 (.nilc 40),zfa 42 41 1,zld 43 42 1,zia 44 39 43 [(.int .u8)],zld 45 44 1,zop 46 (.conv .i64 45),zbi 47 .add 35 46,zbi 48 .and 47 (zki 255),zmv 3 48] []),(.reg [zmv 49 0,zmv 50 0,zop 51 (.nilc 50),zfa 52 51 1,zld 53 52 1,zbi 54 .add 53 (zki 1),zop 55 (.nilc 49),zfa 56 55 1,zst 56 54 1])]) .skip)]),(.reg [zmv 57 3,zmv 2 57]),.ret])
def QHi:List (ARv × Md):=[(.t 2,.one .d)]
theorem Qvm (c:((List Int) × Int × Int)) (h :
 let z2:=w64 (c.2.2*(6364136223846793005:Int))
 let z1:=BitVec.ofInt (IntKind.i64.bits) (w64 (((BitVec.ofInt (IntKind.i64.bits) (Int.fdiv (w64 (z2+(1442695040888963407:Int))) (2 ^ (min (Int.toNat (33:Int)) (IntKind.i64.bits)))) ^^^ BitVec.ofInt (IntKind.i64.bits) (Int.fdiv (w64 (z2+(1442695040888963407:Int))) (2 ^ (min (Int.toNat (45:Int)) (IntKind.i64.bits))))).toNat:Int))) &&& BitVec.ofInt (IntKind.i64.bits) (255:Int)
 ((((0:Int)≤(33:Int))∧((0:Int)≤(45:Int)))∧(zif (decide (c.2.1<((c.1).length:Int))) (((0:Int)≤c.2.1∧Int.toNat c.2.1<(c.1).length)∧K (QaQ (w64 (((BitVec.ofInt (IntKind.i64.bits) (w64 ((w64 ((z1.toNat:Int)))+(w64 ((gtd (0:Int) c.1 (Int.toNat c.2.1)))))) &&& BitVec.ofInt (IntKind.i64.bits) (255:Int)).toNat:Int)),(c.1,w64 (c.2.1+(1:Int)),w64 (z2+(1442695040888963407:Int)))))) (K (QaQ (w64 ((z1.toNat:Int)),(c.1,c.2.1,w64 (z2+(1442695040888963407:Int))))))))):Hold (tawp QGn (1+0) QCU (TQ 1 0 QHi K) (Qe [(.bx [(.c (.sl [(.int .u8)]) c.1),(.c TI c.2.1),(.c TI c.2.2)])])) :=
 Hold.of (by kernel_rfl) h
theorem Qsk (c:((List Int) × Int × Int)) (hp:QF c):∃ t:Int × (((List Int) × Int × Int)),(Qe3 c t)∧TCon Tryz.prog 183 [(.bx [(.c (.sl [(.int .u8)]) c.1),(.c TI c.2.1),(.c TI c.2.2)])] (QaQ t):=by
 refine YB (tcx (n:=58) (sg:=Qhm.sg) Qi TOk.nil (by kernel_rfl) (by kernel_rfl) (Qvm (fun r'=>∃ t,(Qe3 c t)∧r'=QaQ t) c ?_))
 conv=>zeta
 have h1:=hp.1
 have h2:=hp.2
 refine ⟨⟨by omega,by omega⟩,fun h=>⟨⟨h1,by simp at h;omega⟩,ZD ⟨(QeZ _).1,(QeZ _).2,?_,h2⟩⟩,fun h=>(ZD ⟨(QeZ _).1,(QeZ _).2,h1,h2⟩)⟩
 simp at h
 show 0≤w64 (c.2.1+1)
 rw [Qs (by omega) (by omega)];omega
theorem QcE (c:((List Int) × Int × Int)) (hp:QF c):Qe3 c (ZL c):=(Classical.epsilon_spec (Qsk c hp)).1
theorem QDn (c:((List Int) × Int × Int)) (hp:QF c):TCon Tryz.prog 183 [(.bx [(.c (.sl [(.int .u8)]) c.1),(.c TI c.2.1),(.c TI c.2.2)])] (QaQ (ZL c)):=(Classical.epsilon_spec (Qsk c hp)).2
theorem QIe:Qh Tryz.prog Qhm:=Qk fun x h=>QDn x.1 h
def JU (t:Int × (((List Int) × Int × Int))):TRes:=⟨(zci t.1),[],[[(zcs [(.int .u8)] t.2.1),(zci t.2.2.1),(zci t.2.2.2)]],true,[]⟩
def Qm (x0:((List Int) × Int × Int)) (x1:Int):Int × (((List Int) × Int × Int)):=Classical.epsilon fun t:Int × (((List Int) × Int × Int))=>(QdC x0 x1 t)∧TCon Tryz.prog 108 [(.bx [(.c (.sl [(.int .u8)]) x0.1),(.c TI x0.2.1),(.c TI x0.2.2)]),(.c TI x1)] (JU t)
def Y6:TRow:=Qg 108 [(.b [(.sl [(.int .u8)]),TI,TI]),(.c TI)] fun x=>(some (Zq x.1 x.2.1),JU (Qm x.1 x.2.1))
def QFg:List TRow:=[Qhm]
def QAP:TCode :=
 (zsq [(.reg [zmv 4 (zki 0)]),(zsq [(.reg [zmv 9 1,zbi 10 .leq 9 (zki 0)]),(.cond 10 (zsq [(.reg [zmv 4 (zki 0)]),.ret]) .skip)]),(zsq [(.reg [zmv 11 1,zbi 12 .leq 11 (zki 256)]),(.cond 12 (zsq [(.reg [zmv 13 0,zca 14 183 [13],zmv 15 1,zbi 16 .rem 14 15,zmv 4 16]),.ret]) .skip)]),(.reg [zmv 17 0,zca 18 183 [17],zmv 5 18]),(.reg [zmv 19 0,zca 20 183 [19],zmv 6 20]),(.reg [zmv 21 0,zca 22 183 [21],zmv 7 22]),(.reg [zmv 23 0,zca 24 183 [23],zmv 8 24]),(.reg [zmv 25 5,zbi 26 .mul 25 (zki 16777216),zmv 27 6,zbi 28 .mul 27 (zki 65536),zbi 29 .add 26 28,zmv 30 7,zbi 31 .mul 30 (zki 256),zbi 32 .add 29 31,zmv 33 8,zbi 34 .add 32 33,zmv 35 1,zbi 36 .rem 34 35,zmv 4 36]),.ret])
def Qwb:List (ARv × Md):=[(.t 4,.one .d)]
theorem QBo (c:((List Int) × Int × Int)) (n:Int) (h :
 (zif (decide (n≤(0:Int))) (K (JU ((0:Int),c))) (zif (decide (n≤(256:Int))) (((QF c)∧(¬ (n:Int)=0))∧K (JU ((Int.tmod ((ZL c).1) n),((ZL c).2)))) ((QF c)∧((QF ((ZL c).2))∧((QF ((ZL ((ZL c).2)).2))∧((QF ((ZL ((ZL ((ZL c).2)).2)).2))∧((¬ (n:Int)=0)∧K (JU ((Int.tmod (w64 ((w64 ((w64 ((w64 (((ZL c).1)*(16777216:Int)))+(w64 (((ZL ((ZL c).2)).1)*(65536:Int)))))+(w64 (((ZL ((ZL ((ZL c).2)).2)).1)*(256:Int)))))+((ZL ((ZL ((ZL ((ZL c).2)).2)).2)).1))) n),((ZL ((ZL ((ZL ((ZL c).2)).2)).2)).2))))))))))):Hold (tawp QFg (1+0) QAP (TQ 1 0 Qwb K) (Qe [(.bx [(.c (.sl [(.int .u8)]) c.1),(.c TI c.2.1),(.c TI c.2.2)]),(.c TI n)])) :=
 Hold.of (by kernel_rfl) h
theorem Qqm (c:((List Int) × Int × Int)) (n:Int) (hp:Zq c n):∃ t:Int × (((List Int) × Int × Int)),(QdC c n t)∧TCon Tryz.prog 108 [(.bx [(.c (.sl [(.int .u8)]) c.1),(.c TI c.2.1),(.c TI c.2.2)]),(.c TI n)] (JU t):=by
 refine YB (tcx (n:=37) (sg:=Y6.sg) Qi (TOk.cons QIe TOk.nil) (by kernel_rfl) (by kernel_rfl) (QBo (fun r'=>∃ t,(QdC c n t)∧r'=JU t) c n ?_))
 refine ⟨fun h=>(ZD ⟨Int.le_refl 0,fun h2=>by simp at h;omega,fun _=>rfl,hp⟩),fun h=>⟨fun h2=>?_,fun h2=>?_⟩⟩
 ·have b1:=QcE c hp
  simp at h
  exact ⟨⟨hp,by omega⟩,ZD ⟨Int.tmod_nonneg _ b1.1,fun h0=>Int.tmod_lt_of_pos _ h0,fun h0=>by omega,b1.2.2⟩⟩
 ·have b1:=QcE c hp
  have b2:=QcE _ b1.2.2
  have b3:=QcE _ b2.2.2
  have b4:=QcE _ b3.2.2
  simp at h
  refine ⟨hp,b1.2.2,b2.2.2,b3.2.2,by omega,ZD ⟨Int.tmod_nonneg _ ?_,fun h0=>Int.tmod_lt_of_pos _ h0,fun h0=>by omega,b4.2.2⟩⟩
  have h1:=b1.1
  have h2:=b1.2.1
  have h3:=b2.1
  have h4:=b2.2.1
  have h5:=b3.1
  have h6:=b3.2.1
  have h7:=b4.1
  have h8:=b4.2.1
  clear b1 b2 b3 b4
  rw [Qs (x:=_*16777216) (by omega) (by omega),Qs (x:=_*65536) (by omega) (by omega),Qs (x:=_*256) (by omega) (by omega)]
  rw [Qs (x:=_*16777216+_) (by omega) (by omega),Qs (x:=_+_*256) (by omega) (by omega),Qs (by omega) (by omega)]
  omega
theorem Yi (c:((List Int) × Int × Int)) (n:Int) (hp:Zq c n):QdC c n (Qm c n):=(Classical.epsilon_spec (Qqm c n hp)).1
theorem QB0 (c:((List Int) × Int × Int)) (n:Int) (hp:Zq c n):TCon Tryz.prog 108 [(.bx [(.c (.sl [(.int .u8)]) c.1),(.c TI c.2.1),(.c TI c.2.2)]),(.c TI n)] (JU (Qm c n)):=(Classical.epsilon_spec (Qqm c n hp)).2
theorem Jy:Qh Tryz.prog Y6:=Qk fun x h=>QB0 x.1 x.2.1 h
def QbN (t:Bool × (((List Int) × Int × Int))):TRes:=⟨(zcb t.1),[],[[(zcs [(.int .u8)] t.2.1),(zci t.2.2.1),(zci t.2.2.2)]],true,[]⟩
def Q1 (x0:((List Int) × Int × Int)) (x1:Int):Bool × (((List Int) × Int × Int)):=Classical.epsilon fun t:Bool × (((List Int) × Int × Int))=>(Qf9 x0 x1 t)∧TCon Tryz.prog 106 [(.bx [(.c (.sl [(.int .u8)]) x0.1),(.c TI x0.2.1),(.c TI x0.2.2)]),(.c TI x1)] (QbN t)
def QcW:TRow:=Qg 106 [(.b [(.sl [(.int .u8)]),TI,TI]),(.c TI)] fun x=>(some (Zq x.1 x.2.1),QbN (Q1 x.1 x.2.1))
def QCc:List TRow:=[Y6]
def Qyn:TCode :=
 (zsq [(.reg [zmv 4 (zkb false)]),(.reg [zmv 5 0,zmv 6 1,zca 7 108 [5,6],zbi 8 .eql 7 (zki 0),zmv 4 8]),.ret])
def QFm:List (ARv × Md):=[(.t 4,.one .d)]
theorem QHX (c:((List Int) × Int × Int)) (n:Int) (h :
 ((Zq c n)∧K (QbN ((((Qm c n).1)==(0:Int)),((Qm c n).2))))):Hold (tawp QCc (1+0) Qyn (TQ 1 0 QFm K) (Qe [(.bx [(.c (.sl [(.int .u8)]) c.1),(.c TI c.2.1),(.c TI c.2.2)]),(.c TI n)])) :=
 Hold.of (by kernel_rfl) h
theorem Quz (c:((List Int) × Int × Int)) (n:Int) (hp:Zq c n):∃ t:Bool × (((List Int) × Int × Int)),(Qf9 c n t)∧TCon Tryz.prog 106 [(.bx [(.c (.sl [(.int .u8)]) c.1),(.c TI c.2.1),(.c TI c.2.2)]),(.c TI n)] (QbN t):=by
 refine YB (tcx (n:=9) (sg:=QcW.sg) Qi (TOk.cons Jy TOk.nil) (by kernel_rfl) (by kernel_rfl) (QHX (fun r'=>∃ t,(Qf9 c n t)∧r'=QbN t) c n ?_))
 exact ⟨hp,ZD ((Yi c n hp).2.2.2)⟩
theorem Qcw (c:((List Int) × Int × Int)) (n:Int) (hp:Zq c n):Qf9 c n (Q1 c n):=(Classical.epsilon_spec (Quz c n hp)).1
theorem QGb (c:((List Int) × Int × Int)) (n:Int) (hp:Zq c n):TCon Tryz.prog 106 [(.bx [(.c (.sl [(.int .u8)]) c.1),(.c TI c.2.1),(.c TI c.2.2)]),(.c TI n)] (QbN (Q1 c n)):=(Classical.epsilon_spec (Quz c n hp)).2
theorem QhG:Qh Tryz.prog QcW:=Qk fun x h=>QGb x.1 x.2.1 h
def Qb3 (t:Int × (((List Int) × Int × Int))):TRes:=⟨(zci t.1),[],[[(zcs [(.int .u8)] t.2.1),(zci t.2.2.1),(zci t.2.2.2)]],true,[]⟩
def ZQ (x0:((List Int) × Int × Int)) (x1:List Int):Int × (((List Int) × Int × Int)):=Classical.epsilon fun t:Int × (((List Int) × Int × Int))=>(Qfo x0 x1 t)∧TCon Tryz.prog 145 [(.bx [(.c (.sl [(.int .u8)]) x0.1),(.c TI x0.2.1),(.c TI x0.2.2)]),(.c (.sl [TI]) x1)] (Qb3 t)
def QbT:TRow:=Qg 145 [(.b [(.sl [(.int .u8)]),TI,TI]),(.c (.sl [TI]))] fun x=>(some (YA x.1 x.2.1),Qb3 (ZQ x.1 x.2.1))
def QyO:List TRow:=[Y6]
def QEt:TCode :=
 (zsq [(.reg [zmv 4 (zki 0)]),(.reg [zmv 5 1,zmv 6 0,zmv 7 1,zle 8 7,zca 9 108 [6,8],zia 10 5 9 [TI],zld 11 10 1,zmv 4 11]),.ret])
def Qy8:List (ARv × Md):=[(.t 4,.one .d)]
theorem QGJ (c:((List Int) × Int × Int)) (list:List Int) (h :
 (((Zq c (list.length:Int))∧((0:Int)≤(Qm c (list.length:Int)).1∧Int.toNat ((Qm c (list.length:Int)).1)<list.length))∧K (Qb3 ((gtd (0:Int) list (Int.toNat ((Qm c (list.length:Int)).1))),((Qm c (list.length:Int)).2))))):Hold (tawp QyO (1+0) QEt (TQ 1 0 Qy8 K) (Qe [(.bx [(.c (.sl [(.int .u8)]) c.1),(.c TI c.2.1),(.c TI c.2.2)]),(.c (.sl [TI]) list)])) :=
 Hold.of (by kernel_rfl) h
theorem QnK (c:((List Int) × Int × Int)) (list:List Int) (hp:YA c list):∃ t:Int × (((List Int) × Int × Int)),(Qfo c list t)∧TCon Tryz.prog 145 [(.bx [(.c (.sl [(.int .u8)]) c.1),(.c TI c.2.1),(.c TI c.2.2)]),(.c (.sl [TI]) list)] (Qb3 t):=by
 refine YB (tcx (n:=12) (sg:=QbT.sg) Qi (TOk.cons Jy TOk.nil) (by kernel_rfl) (by kernel_rfl) (QGJ (fun r'=>∃ t,(Qfo c list t)∧r'=Qb3 t) c list ?_))
 have b:=Yi c list.length hp.1
 have h1:=hp.2.1
 have h2:=b.2.1 (by omega)
 have h3:=b.1
 exact ⟨⟨hp.1,h3,by omega⟩,ZD ⟨JZ (by omega) _,b.2.2.2⟩⟩
theorem QcO (c:((List Int) × Int × Int)) (list:List Int) (hp:YA c list):Qfo c list (ZQ c list):=(Classical.epsilon_spec (QnK c list hp)).1
theorem QJe (c:((List Int) × Int × Int)) (list:List Int) (hp:YA c list):TCon Tryz.prog 145 [(.bx [(.c (.sl [(.int .u8)]) c.1),(.c TI c.2.1),(.c TI c.2.2)]),(.c (.sl [TI]) list)] (Qb3 (ZQ c list)):=(Classical.epsilon_spec (QnK c list hp)).2
theorem Qe2:Qh Tryz.prog QbT:=Qk fun x h=>QJe x.1 x.2.1 h
def Qko (t:Bool):TRes:=zre (zcb t)
def Qho:TRow:=Qg 13 [(.c (.sl [(.int .u8)]))] fun x=>(none,Qko (Qdo x.1))
def QxM:List TRow:=[]
def Qxt:TCode :=
 (zsq [(.reg [zmv 2 (zkb false)]),(.reg [zmv 3 0,zle 4 3,zbi 5 .gtr 4 (zki 1048576),zmv 2 5]),.ret])
def QHp:List (ARv × Md):=[(.t 2,.one .d)]
theorem QFU (code:List Int) (h :
 K (Qko (decide ((code.length:Int)>(1048576:Int))))):Hold (tawp QxM (0+0) Qxt (TQ 0 0 QHp K) (Qe [(.c (.sl [(.int .u8)]) code)])) :=
 Hold.of (by kernel_rfl) h
theorem QwB (code:List Int):TCon Tryz.prog 13 [(.c (.sl [(.int .u8)]) code)] (Qko (Qdo code)):=by
 refine Ql rfl fun hb=>tcg (n:=6) (sg:=Qho.sg) Qi TOk.nil (by kernel_rfl) (by kernel_rfl) (QFU _ code ?_)
 have hl_code:code.length≤9223372036854775807:=hb.1.1
 exact R_eq rfl
theorem QEv:Qh Tryz.prog Qho:=Qk fun x _=>QwB x.1
def J0 (t:Bool):TRes:=zre (zcb t)
def Qj3:TRow:=Qg 31 [(.c (.sl [TI])),(.c (.sl [TI]))] fun x=>(none,J0 (m_eq (α:=List Int) x.1 x.2.1))
def QjO:List TRow:=[]
def QsE:TCode :=
 (zsq [(zsq [(.reg [zmv 11 5,zmv 12 0,zle 13 12,zbi 14 .lss 11 13]),(.cond 14 .skip (.exit 0))]),(.block 1 (zsq [(.draw [zmv 17 0,zmv 18 5,zia 19 17 18 [TI],zld 20 19 1,zmv 21 1,zmv 22 5,zia 23 21 22 [TI],zld 24 23 1,zbi 25 .neq 20 24] []),(.cond 25 (zsq [(.reg [zmv 4 (zkb false)]),.ret]) .skip)])),(.reg [zmv 15 5,zbi 16 .add 15 (zki 1),zmv 5 16])])
def Qog:List (Nat × Md):=zdl [0,1,5]
def Qsb:TCode :=
 (zsq [(.reg [zmv 4 (zkb true)]),.ret])
def Qxa:TCode :=
 (zsq [(.reg [zmv 4 (zkb false)]),(zsq [(.reg [zmv 6 0,zle 7 6,zmv 8 1,zle 9 8,zbi 10 .neq 7 9]),(.cond 10 (zsq [(.reg [zmv 4 (zkb false)]),.ret]) .skip)]),(zsq [(.reg [zmv 5 (zki 0)]),(.block 0 (.loop Qog QsE))]),Qsb])
def Qod:List (ARv × Md):=[(.t 4,.one .d)]
def QrT:Qc:=TQ 0 0 Qod K
def QIx:Qc:=Qseq (tawp QjO 0 Qsb (QrT K)) (QrT K)
def QFW:Qc:=Qblk 0 (QIx K)
def Qlc (a:List Int) (b:List Int) (i:Int):Prop:=Loop QjO 0 Qog QsE (QFW K) ⟨[(0,(zcs [TI] a)),(1,(zcs [TI] b)),(5,(zci i))],[],0⟩
theorem Qxz (a:List Int) (b:List Int) (i:Int) (h :
 (zif (decide (i<(a.length:Int))) ((((0:Int)≤i∧Int.toNat i<a.length)∧((0:Int)≤i∧Int.toNat i<b.length))∧(zif ((gtd (0:Int) a (Int.toNat i)) != (gtd (0:Int) b (Int.toNat i))) (K (J0 false)) (Qlc K a b (w64 (i+(1:Int)))))) (K (J0 true)))):Qlc K a b i :=
 Loop.of (by kernel_rfl) h
theorem QD1 (a:List Int) (b:List Int) (h :
 (zif ((a.length:Int) != (b.length:Int)) (K (J0 false)) (Qlc K a b 0))):Hold (tawp QjO (0+0) Qxa (TQ 0 0 Qod K) (Qe [(.c (.sl [TI]) a),(.c (.sl [TI]) b)])) :=
 Hold.of (by kernel_rfl) h
theorem QBA (a:List Int) (b:List Int):TCon Tryz.prog 31 [(.c (.sl [TI]) a),(.c (.sl [TI]) b)] (J0 (m_eq (α:=List Int) a b)):=by
 refine Ql rfl fun hb=>tcg (n:=26) (sg:=Qj3.sg) Qi TOk.nil (by kernel_rfl) (by kernel_rfl) (QD1 _ a b ?_)
 have hl_a:a.length≤9223372036854775807:=hb.1.1
 have hl_b:b.length≤9223372036854775807:=hb.2.1.1
 exact QlI hb.1.1 (fun i h=>Qxz (fun r'=>r'=J0 (m_eq (α:=List Int) a b)) a b i h) (Q:=fun x=>J0 x=J0 (m_eq (α:=List Int) a b)) rfl
theorem QFt:Qh Tryz.prog Qj3:=Qk fun x _=>QBA x.1 x.2.1
end
end Go.Proofs.YtjbdljkhbglnhaaGreat.Am

