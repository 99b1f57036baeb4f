/- -/
import Derived.Test.YtjbdljkhbglnhaaGreatZAG9
namespace Go.Proofs.YtjbdljkhbglnhaaGreat.Am
open Go Go.RowKit Go.Proofs.YtjbdljkhbglnhaaGreat
set_option linter.all false
set_option maxHeartbeats 2000000
noncomputable section
variable (K:TRes→Prop)
def QaL (t:(((List Int) × Int × Int))):TRes:=⟨(.p 0 0 0),[(.box [(zcs [(.int .u8)] t.1),(zci t.2.1),(zci t.2.2)])],[],true,[]⟩
def Qd3 (x0:List Int):(((List Int) × Int × Int)):=Classical.epsilon fun t:(((List Int) × Int × Int))=>(Qbz x0 t)∧TCon Tryz.prog 69 [(.c (.sl [(.int .u8)]) x0)] (QaL t)
def QlB:TRow:=Qh 69 [(.c (.sl [(.int .u8)]))] fun x=>(some (Qah x.1),QaL (Qd3 x.1))
def QmR:List TRow:=[]
def QwR:TCode :=
 (zsq [(zsq [(.reg [zmv 8 4,zmv 9 0,zle 10 9,zbi 11 .lss 8 10,zmv 12 11,.grp 12 true [zmv 13 4,zbi 14 .lss 13 (zki 4000)] 15 14]),(.cond 15 .skip (.exit 0))]),(.block 1 (.reg [zmv 18 3,zbi 19 .mul 18 (zki 131),zmv 20 0,zmv 21 4,zia 22 20 21 [(.int .u8)],zld 23 22 1,zop 24 (.conv .i64 23),zbi 25 .add 19 24,zbi 26 .add 25 (zki 7),zbi 27 .and 26 (zki 1073741823),zmv 3 27])),(.reg [zmv 16 4,zbi 17 .add 16 (zki 1),zmv 4 17])])
def Qqa:List (Nat × Md):=zdl [0,3,4]
def Qvp:TCode :=
 (zsq [(.reg [zmv 28 0,zmv 29 3,zop 30 (.build (z0s [(.sl [(.int .u8)]),TI,TI]) [(0,1,28),(2,1,29)]),zop 31 (.box 157 30 3),zmv 2 31]),.ret])
def QQI:TCode :=
 (zsq [(.reg [zmv 2 (.k (.c .nilp ()))]),(.reg [zmv 5 0,zle 6 5,zbi 7 .add (zki 10101) 6,zmv 3 7]),(zsq [(.reg [zmv 4 (zki 0)]),(.block 0 (.loop Qqa QwR))]),Qvp])
def Qrw:List (ARv × Md):=[(.t 2,.b [.d,.d,.d])]
def QvE:Qb:=TQ 0 0 Qrw K
def QHz:Qb:=Qseq (tawp QmR 0 Qvp (QvE K)) (QvE K)
def QGs:Qb:=Qblk 0 (QHz K)
def Qfv (code:List Int) (h1:Int) (i:Int):Prop:=Loop QmR 0 Qqa QwR (QGs K) ⟨[(0,(zcs [(.int .u8)] code)),(3,(zci h1)),(4,(zci i))],[],0⟩
theorem Quo (code:List Int) (h1:Int) (i:Int) (h :
(zif ((decide (i<(code.length:Int)))&&(decide (i<(4000:Int)))) (((0:Int)≤i∧Int.toNat i<code.length)∧(Qfv K code (w64 (((BitVec.ofInt (IntKind.i64.bits) (w64 ((w64 ((w64 (h1*(131:Int)))+(w64 ((gtd (0:Int) code (Int.toNat i))))))+(7:Int))) &&& BitVec.ofInt (IntKind.i64.bits) (1073741823:Int)).toNat:Int))) (w64 (i+(1:Int))))) (K (QaL (code,(0:Int),h1))))):Qfv K code h1 i :=
 Loop.of (by kernel_rfl) h
theorem QLz (code:List Int) (h :
(Qfv K code (w64 ((10101:Int)+(code.length:Int))) 0)):Hold (tawp QmR (0+0) QQI (TQ 0 0 Qrw K) (Qf [(.c (.sl [(.int .u8)]) code)])) :=
 Hold.of (by kernel_rfl) h
theorem Qvh (code:List Int) (hp:Qah code):∃ t:(((List Int) × Int × Int)),(Qbz code t)∧TCon Tryz.prog 69 [(.c (.sl [(.int .u8)]) code)] (QaL t):=by
 refine YQ (tcx (n:=32) (sg:=QlB.sg) Ql TOk.nil (by kernel_rfl) (by kernel_rfl) (QLz (fun r'=>∃ t,(Qbz code t)∧r'=QaL t) code ?_))
 have hp':code.length≤1048576:=hp
 suffices h:∀ x:Int,Qfv (fun r'=>∃ t,(Qbz code t)∧r'=QaL t) code x ((0:Nat):Int) from h _
 refine Qau (min code.length 4000) (fun k=>∀ x:Int,Qfv (fun r'=>∃ t,(Qbz code t)∧r'=QaL t) code x (k:Int)) ?_ ?_
 ·intro x
  refine Quo (fun r'=>∃ t,(Qbz code t)∧r'=QaL t) code _ _ ⟨fun h=>?_,fun _=>(Q4 ⟨Int.le_refl 0,hp⟩)⟩
  simp at h;omega
 ·intro k hk ih x
  refine Quo (fun r'=>∃ t,(Qbz code t)∧r'=QaL t) code _ _ ⟨fun _=>⟨⟨by omega,by omega⟩,?_⟩,fun h=>?_⟩
  ·rw [sc1 (by omega)];exact ih _
  ·simp at h;omega
theorem Qxz (code:List Int) (hp:Qah code):Qbz code (Qd3 code):=(Classical.epsilon_spec (Qvh code hp)).1
theorem QHE (code:List Int) (hp:Qah code):TCon Tryz.prog 69 [(.c (.sl [(.int .u8)]) code)] (QaL (Qd3 code)):=(Classical.epsilon_spec (Qvh code hp)).2
theorem QBK:Qi Tryz.prog QlB:=Qm fun x h=>QHE x.1 h
def Qce (t:Int × (((List Int) × Int × Int))):TRes:=⟨(zci t.1),[],[[(zcs [(.int .u8)] t.2.1),(zci t.2.2.1),(zci t.2.2.2)]],true,[]⟩
def Yb (x0:((List Int) × Int × Int)):Int × (((List Int) × Int × Int)):=Classical.epsilon fun t:Int × (((List Int) × Int × Int))=>(QfM x0 t)∧TCon Tryz.prog 183 [(.bx [(.c (.sl [(.int .u8)]) x0.1),(.c TI x0.2.1),(.c TI x0.2.2)])] (Qce t)
def Qnk:TRow:=Qh 183 [(.b [(.sl [(.int .u8)]),TI,TI])] fun x=>(some (Qy x.1),Qce (Yb x.1))
def QQ3:List TRow:=[]
def QFW:TCode :=
 (zsq [(.reg [zmv 2 (zki 0)]),(.reg [zmv 4 0,zmv 5 0,zop 6 (.nilc 5),zfa 7 6 2,zld 8 7 1,zbi 9 .mul 8 (zki 6364136223846793005),zbi 10 .add 9 (zki 1442695040888963407),zop 11 (.nilc 4),zfa 12 11 2,zst 12 10 1]),(.draw [zmv 13 0,zop 14 (.nilc 13),zfa 15 14 2,zld 16 15 1,zbi 17 .shr 16 (.k (.c (.int .u64) (33:Int))),zmv 18 0,zop 19 (.nilc 18),zfa 20 19 2,zld 21 20 1,zbi 22 .shr 21 (.k (.c (.int .u64) (45:Int))),zbi 23 .xor 17 22,zbi 24 .and 23 (zki 255),zmv 3 24] []),(zsq [(.draw [zmv 25 0,zop 26 (.nilc 25),zfa 27 26 1,zld 28 27 1,zmv 29 0,zop 30 (.nilc 29),zfa 31 30 0,zld 32 31 1,zle 33 32,zbi 34 .lss 28 33] []),(.cond 34 (zsq [(.draw [zmv 35 3,zmv 36 0,zop 37 (.nilc 36),zfa 38 37 0,zld 39 38 1,zmv 40 0,zop 41 (.nilc 40),zfa 42 41 1,zld 43 42 1,zia 44 39 43 [(.int .u8)],zld 45 44 1,zop 46 (.conv .i64 45),zbi 47 .add 35 46,zbi 48 .and 47 (zki 255),zmv 3 48] []),(.reg [zmv 49 0,zmv 50 0,zop 51 (.nilc 50),zfa 52 51 1,zld 53 52 1,zbi 54 .add 53 (zki 1),zop 55 (.nilc 49),zfa 56 55 1,zst 56 54 1])]) .skip)]),(.reg [zmv 57 3,zmv 2 57]),.ret])
def QQm:List (ARv × Md):=[(.t 2,.one .d)]
theorem QCA (c:((List Int) × Int × Int)) (h :
let z2:=w64 (c.2.2*(6364136223846793005:Int))
let z1:=BitVec.ofInt (IntKind.i64.bits) (w64 (((BitVec.ofInt (IntKind.i64.bits) (Int.fdiv (w64 (z2+(1442695040888963407:Int))) (2 ^ (min (Int.toNat (33:Int)) (IntKind.i64.bits)))) ^^^ BitVec.ofInt (IntKind.i64.bits) (Int.fdiv (w64 (z2+(1442695040888963407:Int))) (2 ^ (min (Int.toNat (45:Int)) (IntKind.i64.bits))))).toNat:Int))) &&& BitVec.ofInt (IntKind.i64.bits) (255:Int)
((((0:Int)≤(33:Int))∧((0:Int)≤(45:Int)))∧(zif (decide (c.2.1<((c.1).length:Int))) (((0:Int)≤c.2.1∧Int.toNat c.2.1<(c.1).length)∧K (Qce (w64 (((BitVec.ofInt (IntKind.i64.bits) (w64 ((w64 ((z1.toNat:Int)))+(w64 ((gtd (0:Int) c.1 (Int.toNat c.2.1)))))) &&& BitVec.ofInt (IntKind.i64.bits) (255:Int)).toNat:Int)),(c.1,w64 (c.2.1+(1:Int)),w64 (z2+(1442695040888963407:Int)))))) (K (Qce (w64 ((z1.toNat:Int)),(c.1,c.2.1,w64 (z2+(1442695040888963407:Int))))))))):Hold (tawp QQ3 (1+0) QFW (TQ 1 0 QQm K) (Qf [(.bx [(.c (.sl [(.int .u8)]) c.1),(.c TI c.2.1),(.c TI c.2.2)])])) :=
 Hold.of (by kernel_rfl) h
theorem QxF (c:((List Int) × Int × Int)) (hp:Qy c):∃ t:Int × (((List Int) × Int × Int)),(QfM c t)∧TCon Tryz.prog 183 [(.bx [(.c (.sl [(.int .u8)]) c.1),(.c TI c.2.1),(.c TI c.2.2)])] (Qce t):=by
 refine YQ (tcx (n:=58) (sg:=Qnk.sg) Ql TOk.nil (by kernel_rfl) (by kernel_rfl) (QCA (fun r'=>∃ t,(QfM c t)∧r'=Qce t) c ?_))
 conv=>zeta
 have h1:=hp.1
 have h2:=hp.2
 refine ⟨⟨by omega,by omega⟩,fun h=>⟨⟨h1,by simp at h;omega⟩,Q4 ⟨(QfI _).1,(QfI _).2,?_,h2⟩⟩,fun h=>(Q4 ⟨(QfI _).1,(QfI _).2,h1,h2⟩)⟩
 simp at h
 show 0≤w64 (c.2.1+1)
 rw [Qp (by omega) (by omega)];omega
theorem Qem (c:((List Int) × Int × Int)) (hp:Qy c):QfM c (Yb c):=(Classical.epsilon_spec (QxF c hp)).1
theorem QEH (c:((List Int) × Int × Int)) (hp:Qy c):TCon Tryz.prog 183 [(.bx [(.c (.sl [(.int .u8)]) c.1),(.c TI c.2.1),(.c TI c.2.2)])] (Qce (Yb c)):=(Classical.epsilon_spec (QxF c hp)).2
theorem QNy:Qi Tryz.prog Qnk:=Qm fun x h=>QEH x.1 h
def QbP (t:Int × (((List Int) × Int × Int))):TRes:=⟨(zci t.1),[],[[(zcs [(.int .u8)] t.2.1),(zci t.2.2.1),(zci t.2.2.2)]],true,[]⟩
def Qg (x0:((List Int) × Int × Int)) (x1:Int):Int × (((List Int) × Int × Int)):=Classical.epsilon fun t:Int × (((List Int) × Int × Int))=>(Qgh x0 x1 t)∧TCon Tryz.prog 108 [(.bx [(.c (.sl [(.int .u8)]) x0.1),(.c TI x0.2.1),(.c TI x0.2.2)]),(.c TI x1)] (QbP t)
def Jy:TRow:=Qh 108 [(.b [(.sl [(.int .u8)]),TI,TI]),(.c TI)] fun x=>(some (Zb x.1 x.2.1),QbP (Qg x.1 x.2.1))
def QGi:List TRow:=[Qnk]
def QBx:TCode :=
 (zsq [(.reg [zmv 4 (zki 0)]),(zsq [(.reg [zmv 9 1,zbi 10 .leq 9 (zki 0)]),(.cond 10 (zsq [(.reg [zmv 4 (zki 0)]),.ret]) .skip)]),(zsq [(.reg [zmv 11 1,zbi 12 .leq 11 (zki 256)]),(.cond 12 (zsq [(.reg [zmv 13 0,zca 14 183 [13],zmv 15 1,zbi 16 .rem 14 15,zmv 4 16]),.ret]) .skip)]),(.reg [zmv 17 0,zca 18 183 [17],zmv 5 18]),(.reg [zmv 19 0,zca 20 183 [19],zmv 6 20]),(.reg [zmv 21 0,zca 22 183 [21],zmv 7 22]),(.reg [zmv 23 0,zca 24 183 [23],zmv 8 24]),(.reg [zmv 25 5,zbi 26 .mul 25 (zki 16777216),zmv 27 6,zbi 28 .mul 27 (zki 65536),zbi 29 .add 26 28,zmv 30 7,zbi 31 .mul 30 (zki 256),zbi 32 .add 29 31,zmv 33 8,zbi 34 .add 32 33,zmv 35 1,zbi 36 .rem 34 35,zmv 4 36]),.ret])
def QHe:List (ARv × Md):=[(.t 4,.one .d)]
theorem QAH (c:((List Int) × Int × Int)) (n:Int) (h :
(zif (decide (n≤(0:Int))) (K (QbP ((0:Int),c))) (zif (decide (n≤(256:Int))) (((Qy c)∧(¬ (n:Int)=0))∧K (QbP ((Int.tmod ((Yb c).1) n),((Yb c).2)))) ((Qy c)∧((Qy ((Yb c).2))∧((Qy ((Yb ((Yb c).2)).2))∧((Qy ((Yb ((Yb ((Yb c).2)).2)).2))∧((¬ (n:Int)=0)∧K (QbP ((Int.tmod (w64 ((w64 ((w64 ((w64 (((Yb c).1)*(16777216:Int)))+(w64 (((Yb ((Yb c).2)).1)*(65536:Int)))))+(w64 (((Yb ((Yb ((Yb c).2)).2)).1)*(256:Int)))))+((Yb ((Yb ((Yb ((Yb c).2)).2)).2)).1))) n),((Yb ((Yb ((Yb ((Yb c).2)).2)).2)).2))))))))))):Hold (tawp QGi (1+0) QBx (TQ 1 0 QHe K) (Qf [(.bx [(.c (.sl [(.int .u8)]) c.1),(.c TI c.2.1),(.c TI c.2.2)]),(.c TI n)])) :=
 Hold.of (by kernel_rfl) h
theorem QxB (c:((List Int) × Int × Int)) (n:Int) (hp:Zb c n):∃ t:Int × (((List Int) × Int × Int)),(Qgh c n t)∧TCon Tryz.prog 108 [(.bx [(.c (.sl [(.int .u8)]) c.1),(.c TI c.2.1),(.c TI c.2.2)]),(.c TI n)] (QbP t):=by
 refine YQ (tcx (n:=37) (sg:=Jy.sg) Ql (TOk.cons QNy TOk.nil) (by kernel_rfl) (by kernel_rfl) (QAH (fun r'=>∃ t,(Qgh c n t)∧r'=QbP t) c n ?_))
 refine ⟨fun h=>(Q4 ⟨Int.le_refl 0,fun h2=>by simp at h;omega,fun _=>rfl,hp⟩),fun h=>⟨fun h2=>?_,fun h2=>?_⟩⟩
 ·have b1:=Qem c hp
  simp at h
  exact ⟨⟨hp,by omega⟩,Q4 ⟨Int.tmod_nonneg _ b1.1,fun h0=>Int.tmod_lt_of_pos _ h0,fun h0=>by omega,b1.2.2⟩⟩
 ·have b1:=Qem c hp
  have b2:=Qem _ b1.2.2
  have b3:=Qem _ b2.2.2
  have b4:=Qem _ b3.2.2
  simp at h
  refine ⟨hp,b1.2.2,b2.2.2,b3.2.2,by omega,Q4 ⟨Int.tmod_nonneg _ ?_,fun h0=>Int.tmod_lt_of_pos _ h0,fun h0=>by omega,b4.2.2⟩⟩
  have h1:=b1.1
  have h2:=b1.2.1
  have h3:=b2.1
  have h4:=b2.2.1
  have h5:=b3.1
  have h6:=b3.2.1
  have h7:=b4.1
  have h8:=b4.2.1
  clear b1 b2 b3 b4
  rw [Qp (x:=_*16777216) (by omega) (by omega),Qp (x:=_*65536) (by omega) (by omega),Qp (x:=_*256) (by omega) (by omega)]
  rw [Qp (x:=_*16777216+_) (by omega) (by omega),Qp (x:=_+_*256) (by omega) (by omega),Qp (by omega) (by omega)]
  omega
theorem Z2 (c:((List Int) × Int × Int)) (n:Int) (hp:Zb c n):Qgh c n (Qg c n):=(Classical.epsilon_spec (QxB c n hp)).1
theorem QHj (c:((List Int) × Int × Int)) (n:Int) (hp:Zb c n):TCon Tryz.prog 108 [(.bx [(.c (.sl [(.int .u8)]) c.1),(.c TI c.2.1),(.c TI c.2.2)]),(.c TI n)] (QbP (Qg c n)):=(Classical.epsilon_spec (QxB c n hp)).2
theorem JT:Qi Tryz.prog Jy:=Qm fun x h=>QHj x.1 x.2.1 h
def Qdn (t:Bool × (((List Int) × Int × Int))):TRes:=⟨(zcb t.1),[],[[(zcs [(.int .u8)] t.2.1),(zci t.2.2.1),(zci t.2.2.2)]],true,[]⟩
def ZF (x0:((List Int) × Int × Int)) (x1:Int):Bool × (((List Int) × Int × Int)):=Classical.epsilon fun t:Bool × (((List Int) × Int × Int))=>(Qhf x0 x1 t)∧TCon Tryz.prog 106 [(.bx [(.c (.sl [(.int .u8)]) x0.1),(.c TI x0.2.1),(.c TI x0.2.2)]),(.c TI x1)] (Qdn t)
def Qe8:TRow:=Qh 106 [(.b [(.sl [(.int .u8)]),TI,TI]),(.c TI)] fun x=>(some (Zb x.1 x.2.1),Qdn (ZF x.1 x.2.1))
def QGm:List TRow:=[Jy]
def QPe:TCode :=
 (zsq [(.reg [zmv 4 (zkb false)]),(.reg [zmv 5 0,zmv 6 1,zca 7 108 [5,6],zbi 8 .eql 7 (zki 0),zmv 4 8]),.ret])
def QEa:List (ARv × Md):=[(.t 4,.one .d)]
theorem QBs (c:((List Int) × Int × Int)) (n:Int) (h :
((Zb c n)∧K (Qdn ((((Qg c n).1)==(0:Int)),((Qg c n).2))))):Hold (tawp QGm (1+0) QPe (TQ 1 0 QEa K) (Qf [(.bx [(.c (.sl [(.int .u8)]) c.1),(.c TI c.2.1),(.c TI c.2.2)]),(.c TI n)])) :=
 Hold.of (by kernel_rfl) h
theorem QqF (c:((List Int) × Int × Int)) (n:Int) (hp:Zb c n):∃ t:Bool × (((List Int) × Int × Int)),(Qhf c n t)∧TCon Tryz.prog 106 [(.bx [(.c (.sl [(.int .u8)]) c.1),(.c TI c.2.1),(.c TI c.2.2)]),(.c TI n)] (Qdn t):=by
 refine YQ (tcx (n:=9) (sg:=Qe8.sg) Ql (TOk.cons JT TOk.nil) (by kernel_rfl) (by kernel_rfl) (QBs (fun r'=>∃ t,(Qhf c n t)∧r'=Qdn t) c n ?_))
 exact ⟨hp,Q4 ((Z2 c n hp).2.2.2)⟩
theorem QnL (c:((List Int) × Int × Int)) (n:Int) (hp:Zb c n):Qhf c n (ZF c n):=(Classical.epsilon_spec (QqF c n hp)).1
theorem QKw (c:((List Int) × Int × Int)) (n:Int) (hp:Zb c n):TCon Tryz.prog 106 [(.bx [(.c (.sl [(.int .u8)]) c.1),(.c TI c.2.1),(.c TI c.2.2)]),(.c TI n)] (Qdn (ZF c n)):=(Classical.epsilon_spec (QqF c n hp)).2
theorem QlY:Qi Tryz.prog Qe8:=Qm fun x h=>QKw x.1 x.2.1 h
def Qdb (t:Int × (((List Int) × Int × Int))):TRes:=⟨(zci t.1),[],[[(zcs [(.int .u8)] t.2.1),(zci t.2.2.1),(zci t.2.2.2)]],true,[]⟩
def Zw (x0:((List Int) × Int × Int)) (x1:List Int):Int × (((List Int) × Int × Int)):=Classical.epsilon fun t:Int × (((List Int) × Int × Int))=>(QhE x0 x1 t)∧TCon Tryz.prog 145 [(.bx [(.c (.sl [(.int .u8)]) x0.1),(.c TI x0.2.1),(.c TI x0.2.2)]),(.c (.sl [TI]) x1)] (Qdb t)
def QbB:TRow:=Qh 145 [(.b [(.sl [(.int .u8)]),TI,TI]),(.c (.sl [TI]))] fun x=>(some (YZ x.1 x.2.1),Qdb (Zw x.1 x.2.1))
def QPk:List TRow:=[Jy]
def QGp:TCode :=
 (zsq [(.reg [zmv 4 (zki 0)]),(.reg [zmv 5 1,zmv 6 0,zmv 7 1,zle 8 7,zca 9 108 [6,8],zia 10 5 9 [TI],zld 11 10 1,zmv 4 11]),.ret])
def QF0:List (ARv × Md):=[(.t 4,.one .d)]
theorem QEl (c:((List Int) × Int × Int)) (list:List Int) (h :
(((Zb c (list.length:Int))∧((0:Int)≤(Qg c (list.length:Int)).1∧Int.toNat ((Qg c (list.length:Int)).1)<list.length))∧K (Qdb ((gtd (0:Int) list (Int.toNat ((Qg c (list.length:Int)).1))),((Qg c (list.length:Int)).2))))):Hold (tawp QPk (1+0) QGp (TQ 1 0 QF0 K) (Qf [(.bx [(.c (.sl [(.int .u8)]) c.1),(.c TI c.2.1),(.c TI c.2.2)]),(.c (.sl [TI]) list)])) :=
 Hold.of (by kernel_rfl) h
theorem Qtv (c:((List Int) × Int × Int)) (list:List Int) (hp:YZ c list):∃ t:Int × (((List Int) × Int × Int)),(QhE c list t)∧TCon Tryz.prog 145 [(.bx [(.c (.sl [(.int .u8)]) c.1),(.c TI c.2.1),(.c TI c.2.2)]),(.c (.sl [TI]) list)] (Qdb t):=by
 refine YQ (tcx (n:=12) (sg:=QbB.sg) Ql (TOk.cons JT TOk.nil) (by kernel_rfl) (by kernel_rfl) (QEl (fun r'=>∃ t,(QhE c list t)∧r'=Qdb t) c list ?_))
 have b:=Z2 c list.length hp.1
 have h1:=hp.2.1
 have h2:=b.2.1 (by omega)
 have h3:=b.1
 exact ⟨⟨hp.1,h3,by omega⟩,Q4 ⟨JK (by omega) _,b.2.2.2⟩⟩
theorem Qdc (c:((List Int) × Int × Int)) (list:List Int) (hp:YZ c list):QhE c list (Zw c list):=(Classical.epsilon_spec (Qtv c list hp)).1
theorem QHc (c:((List Int) × Int × Int)) (list:List Int) (hp:YZ c list):TCon Tryz.prog 145 [(.bx [(.c (.sl [(.int .u8)]) c.1),(.c TI c.2.1),(.c TI c.2.2)]),(.c (.sl [TI]) list)] (Qdb (Zw c list)):=(Classical.epsilon_spec (Qtv c list hp)).2
theorem QdL:Qi Tryz.prog QbB:=Qm fun x h=>QHc x.1 x.2.1 h
def QnR (t:Bool):TRes:=zre (zcb t)
def Qmh:TRow:=Qh 13 [(.c (.sl [(.int .u8)]))] fun x=>(none,QnR (Qfn x.1))
def QD8:List TRow:=[]
def QJb:TCode :=
 (zsq [(.reg [zmv 2 (zkb false)]),(.reg [zmv 3 0,zle 4 3,zbi 5 .gtr 4 (zki 1048576),zmv 2 5]),.ret])
def QBB:List (ARv × Md):=[(.t 2,.one .d)]
theorem QLo (code:List Int) (h :
K (QnR (decide ((code.length:Int)>(1048576:Int))))):Hold (tawp QD8 (0+0) QJb (TQ 0 0 QBB K) (Qf [(.c (.sl [(.int .u8)]) code)])) :=
 Hold.of (by kernel_rfl) h
theorem QDA (code:List Int):TCon Tryz.prog 13 [(.c (.sl [(.int .u8)]) code)] (QnR (Qfn code)):=by
 refine Qq rfl fun hb=>tcg (n:=6) (sg:=Qmh.sg) Ql TOk.nil (by kernel_rfl) (by kernel_rfl) (QLo _ code ?_)
 have hl_code:code.length≤9223372036854775807:=hb.1.1
 exact R_eq rfl
theorem QO0:Qi Tryz.prog Qmh:=Qm fun x _=>QDA x.1
end
end Go.Proofs.YtjbdljkhbglnhaaGreat.Am

