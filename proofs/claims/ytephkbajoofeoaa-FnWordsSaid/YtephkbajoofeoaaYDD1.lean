/- -/
import Derived.Test.YtephkbajoofeoaaYDG9
namespace Go.Proofs.Ytephkbajoofeoaa.Am
open Go Go.RowKit Go.Proofs.Ytephkbajoofeoaa
set_option linter.all false
set_option maxHeartbeats 2000000
noncomputable section
variable (K:TRes→Prop)
def ZM (t:(((List Int) × Int × Int))):TRes:=⟨(.p 0 0 0),[(.box [(zcs [(.int .u8)] t.1),(zci t.2.1),(zci t.2.2)])],[],true,[]⟩
def Jp (x0:List Int):(((List Int) × Int × Int)):=Classical.epsilon fun t:(((List Int) × Int × Int))=>(Yp x0 t)∧TCon Try.prog 114 [(.c (.sl [(.int .u8)]) x0)] (ZM t)
def QdT:TRow:=Qp 114 [(.c (.sl [(.int .u8)]))] fun x=>(some (Zy x.1),ZM (Jp x.1))
def QcY:List TRow:=[]
def Qin:TCode :=
 (zsq [(zsq [(.reg [zmv 8 4,zmv 9 0,zle 10 9,zbi 11 .lss 8 10,zmv 12 11,.grp 12 true [zmv 13 4,zbi 14 .lss 13 (zki 4000)] 15 14]),(.cond 15 .skip (.exit 0))]),(.block 1 (.reg [zmv 18 3,zbi 19 .mul 18 (zki 131),zmv 20 0,zmv 21 4,zia 22 20 21 [(.int .u8)],zld 23 22 1,zop 24 (.conv .i64 23),zbi 25 .add 19 24,zbi 26 .add 25 (zki 7),zbi 27 .and 26 (zki 1073741823),zmv 3 27])),(.reg [zmv 16 4,zbi 17 .add 16 (zki 1),zmv 4 17])])
def QhM:List (Nat × Md):=zdl [0,3,4]
def QfI:TCode :=
 (zsq [(.reg [zmv 28 0,zmv 29 3,zop 30 (.build (z0s [(.sl [(.int .u8)]),TI,TI]) [(0,1,28),(2,1,29)]),zop 31 (.box 210 30 3),zmv 2 31]),.ret])
def Qp3:TCode :=
 (zsq [(.reg [zmv 2 (.k (.c .nilp ()))]),(.reg [zmv 5 0,zle 6 5,zbi 7 .add (zki 10101) 6,zmv 3 7]),(zsq [(.reg [zmv 4 (zki 0)]),(.block 0 (.loop QhM Qin))]),QfI])
def Qg2:List (ARv × Md):=[(.t 2,.b [.d,.d,.d])]
def QgI:Qg:=TQ 0 0 Qg2 K
def QlS:Qg:=Qseq (tawp QcY 0 QfI (QgI K)) (QgI K)
def QoR:Qg:=Qblk 0 (QlS K)
def Qar (code:List Int) (h1:Int) (i:Int):Prop:=Loop QcY 0 QhM Qin (QoR K) ⟨[(0,(zcs [(.int .u8)] code)),(3,(zci h1)),(4,(zci i))],[],0⟩
theorem Qiu (code:List Int) (h1:Int) (i:Int) (h :
 (zif ((decide (i<(code.length:Int)))&&(decide (i<(4000:Int)))) (((0:Int)≤i∧Int.toNat i<code.length)∧(Qar K code (w64 (((BitVec.ofInt (IntKind.i64.bits) (w64 ((w64 ((w64 (h1*(131:Int)))+(w64 ((gtd (0:Int) code (Int.toNat i))))))+(7:Int))) &&& BitVec.ofInt (IntKind.i64.bits) (1073741823:Int)).toNat:Int))) (w64 (i+(1:Int))))) (K (ZM (code,(0:Int),h1))))):Qar K code h1 i :=
 Loop.of (by kernel_rfl) h
theorem Qkk (code:List Int) (h :
 (Qar K code (w64 ((10101:Int)+(code.length:Int))) 0)):Hold (tawp QcY (0+0) Qp3 (TQ 0 0 Qg2 K) (Qm [(.c (.sl [(.int .u8)]) code)])) :=
 Hold.of (by kernel_rfl) h
theorem QeS (code:List Int) (hp:Zy code):∃ t:(((List Int) × Int × Int)),(Yp code t)∧TCon Try.prog 114 [(.c (.sl [(.int .u8)]) code)] (ZM t):=by
 refine Q7 (tcx (n:=32) (sg:=QdT.sg) Qt TOk.nil (by kernel_rfl) (by kernel_rfl) (Qkk (fun r'=>∃ t,(Yp code t)∧r'=ZM t) code ?_))
 have hp':code.length≤1048576:=hp
 suffices h:∀ x:Int,Qar (fun r'=>∃ t,(Yp code t)∧r'=ZM t) code x ((0:Nat):Int) from h _
 refine Qea (min code.length 4000) (fun k=>∀ x:Int,Qar (fun r'=>∃ t,(Yp code t)∧r'=ZM t) code x (k:Int)) ?_ ?_
 ·intro x
  refine Qiu (fun r'=>∃ t,(Yp code t)∧r'=ZM t) code _ _ ⟨fun h=>?_,fun _=>(Qo ⟨Int.le_refl 0,hp⟩)⟩
  simp at h;omega
 ·intro k hk ih x
  refine Qiu (fun r'=>∃ t,(Yp code t)∧r'=ZM t) code _ _ ⟨fun _=>⟨⟨by omega,by omega⟩,?_⟩,fun h=>?_⟩
  ·rw [sc1 (by omega)];exact ih _
  ·simp at h;omega
theorem QhF (code:List Int) (hp:Zy code):Yp code (Jp code):=(Classical.epsilon_spec (QeS code hp)).1
theorem QmV (code:List Int) (hp:Zy code):TCon Try.prog 114 [(.c (.sl [(.int .u8)]) code)] (ZM (Jp code)):=(Classical.epsilon_spec (QeS code hp)).2
theorem QlN:Qq Try.prog QdT:=Qv fun x h=>QmV x.1 h
def Y2 (t:Int × (((List Int) × Int × Int))):TRes:=⟨(zci t.1),[],[[(zcs [(.int .u8)] t.2.1),(zci t.2.2.1),(zci t.2.2.2)]],true,[]⟩
def QX (x0:((List Int) × Int × Int)):Int × (((List Int) × Int × Int)):=Classical.epsilon fun t:Int × (((List Int) × Int × Int))=>(Qb8 x0 t)∧TCon Try.prog 183 [(.bx [(.c (.sl [(.int .u8)]) x0.1),(.c TI x0.2.1),(.c TI x0.2.2)])] (Y2 t)
def Qdk:TRow:=Qp 183 [(.b [(.sl [(.int .u8)]),TI,TI])] fun x=>(some (Qe x.1),Y2 (QX x.1))
def Qkf:List TRow:=[]
def Qn8:TCode :=
 (zsq [(.reg [zmv 2 (zki 0)]),(.reg [zmv 4 0,zmv 5 0,zop 6 (.nilc 5),zfa 7 6 2,zld 8 7 1,zbi 9 .mul 8 (zki 6364136223846793005),zbi 10 .add 9 (zki 1442695040888963407),zop 11 (.nilc 4),zfa 12 11 2,zst 12 10 1]),(.draw [zmv 13 0,zop 14 (.nilc 13),zfa 15 14 2,zld 16 15 1,zbi 17 .shr 16 (.k (.c (.int .u64) (33:Int))),zmv 18 0,zop 19 (.nilc 18),zfa 20 19 2,zld 21 20 1,zbi 22 .shr 21 (.k (.c (.int .u64) (45:Int))),zbi 23 .xor 17 22,zbi 24 .and 23 (zki 255),zmv 3 24] []),(zsq [(.draw [zmv 25 0,zop 26 (.nilc 25),zfa 27 26 1,zld 28 27 1,zmv 29 0,zop 30 (.nilc 29),zfa 31 30 0,zld 32 31 1,zle 33 32,zbi 34 .lss 28 33] []),(.cond 34 (zsq [(.draw [zmv 35 3,zmv 36 0,zop 37 (.nilc 36),zfa 38 37 0,zld 39 38 1,zmv 40 0,zop 41 (.nilc 40),zfa 42 41 1,zld 43 42 1,zia 44 39 43 [(.int .u8)],zld 45 44 1,zop 46 (.conv .i64 45),zbi 47 .add 35 46,zbi 48 .and 47 (zki 255),zmv 3 48] []),(.reg [zmv 49 0,zmv 50 0,zop 51 (.nilc 50),zfa 52 51 1,zld 53 52 1,zbi 54 .add 53 (zki 1),zop 55 (.nilc 49),zfa 56 55 1,zst 56 54 1])]) .skip)]),(.reg [zmv 57 3,zmv 2 57]),.ret])
def Ql6:List (ARv × Md):=[(.t 2,.one .d)]
theorem QmG (c:((List Int) × Int × Int)) (h :
 let z2:=w64 (c.2.2*(6364136223846793005:Int))
 let z1:=BitVec.ofInt (IntKind.i64.bits) (w64 (((BitVec.ofInt (IntKind.i64.bits) (Int.fdiv (w64 (z2+(1442695040888963407:Int))) (2 ^ (min (Int.toNat (33:Int)) (IntKind.i64.bits)))) ^^^ BitVec.ofInt (IntKind.i64.bits) (Int.fdiv (w64 (z2+(1442695040888963407:Int))) (2 ^ (min (Int.toNat (45:Int)) (IntKind.i64.bits))))).toNat:Int))) &&& BitVec.ofInt (IntKind.i64.bits) (255:Int)
 ((((0:Int)≤(33:Int))∧((0:Int)≤(45:Int)))∧(zif (decide (c.2.1<((c.1).length:Int))) (((0:Int)≤c.2.1∧Int.toNat c.2.1<(c.1).length)∧K (Y2 (w64 (((BitVec.ofInt (IntKind.i64.bits) (w64 ((w64 ((z1.toNat:Int)))+(w64 ((gtd (0:Int) c.1 (Int.toNat c.2.1)))))) &&& BitVec.ofInt (IntKind.i64.bits) (255:Int)).toNat:Int)),(c.1,w64 (c.2.1+(1:Int)),w64 (z2+(1442695040888963407:Int)))))) (K (Y2 (w64 ((z1.toNat:Int)),(c.1,c.2.1,w64 (z2+(1442695040888963407:Int))))))))):Hold (tawp Qkf (1+0) Qn8 (TQ 1 0 Ql6 K) (Qm [(.bx [(.c (.sl [(.int .u8)]) c.1),(.c TI c.2.1),(.c TI c.2.2)])])) :=
 Hold.of (by kernel_rfl) h
theorem QiA (c:((List Int) × Int × Int)) (hp:Qe c):∃ t:Int × (((List Int) × Int × Int)),(Qb8 c t)∧TCon Try.prog 183 [(.bx [(.c (.sl [(.int .u8)]) c.1),(.c TI c.2.1),(.c TI c.2.2)])] (Y2 t):=by
 refine Q7 (tcx (n:=58) (sg:=Qdk.sg) Qt TOk.nil (by kernel_rfl) (by kernel_rfl) (QmG (fun r'=>∃ t,(Qb8 c t)∧r'=Y2 t) c ?_))
 conv=>zeta
 have h1:=hp.1
 have h2:=hp.2
 refine ⟨⟨by omega,by omega⟩,fun h=>⟨⟨h1,by simp at h;omega⟩,Qo ⟨(Qb2 _).1,(Qb2 _).2,?_,h2⟩⟩,fun h=>(Qo ⟨(Qb2 _).1,(Qb2 _).2,h1,h2⟩)⟩
 simp at h
 show 0≤w64 (c.2.1+1)
 rw [Qi (by omega) (by omega)];omega
theorem Qan (c:((List Int) × Int × Int)) (hp:Qe c):Qb8 c (QX c):=(Classical.epsilon_spec (QiA c hp)).1
theorem Qnt (c:((List Int) × Int × Int)) (hp:Qe c):TCon Try.prog 183 [(.bx [(.c (.sl [(.int .u8)]) c.1),(.c TI c.2.1),(.c TI c.2.2)])] (Y2 (QX c)):=(Classical.epsilon_spec (QiA c hp)).2
theorem QoY:Qq Try.prog Qdk:=Qv fun x h=>Qnt x.1 h
def Yu (t:Int × (((List Int) × Int × Int))):TRes:=⟨(zci t.1),[],[[(zcs [(.int .u8)] t.2.1),(zci t.2.2.1),(zci t.2.2.2)]],true,[]⟩
def Qb (x0:((List Int) × Int × Int)) (x1:Int):Int × (((List Int) × Int × Int)):=Classical.epsilon fun t:Int × (((List Int) × Int × Int))=>(Qa6 x0 x1 t)∧TCon Try.prog 116 [(.bx [(.c (.sl [(.int .u8)]) x0.1),(.c TI x0.2.1),(.c TI x0.2.2)]),(.c TI x1)] (Yu t)
def Zj:TRow:=Qp 116 [(.b [(.sl [(.int .u8)]),TI,TI]),(.c TI)] fun x=>(some (Qx x.1 x.2.1),Yu (Qb x.1 x.2.1))
def QnH:List TRow:=[Qdk]
def QlL:TCode :=
 (zsq [(.reg [zmv 4 (zki 0)]),(zsq [(.reg [zmv 9 1,zbi 10 .leq 9 (zki 0)]),(.cond 10 (zsq [(.reg [zmv 4 (zki 0)]),.ret]) .skip)]),(zsq [(.reg [zmv 11 1,zbi 12 .leq 11 (zki 256)]),(.cond 12 (zsq [(.reg [zmv 13 0,zca 14 183 [13],zmv 15 1,zbi 16 .rem 14 15,zmv 4 16]),.ret]) .skip)]),(.reg [zmv 17 0,zca 18 183 [17],zmv 5 18]),(.reg [zmv 19 0,zca 20 183 [19],zmv 6 20]),(.reg [zmv 21 0,zca 22 183 [21],zmv 7 22]),(.reg [zmv 23 0,zca 24 183 [23],zmv 8 24]),(.reg [zmv 25 5,zbi 26 .mul 25 (zki 16777216),zmv 27 6,zbi 28 .mul 27 (zki 65536),zbi 29 .add 26 28,zmv 30 7,zbi 31 .mul 30 (zki 256),zbi 32 .add 29 31,zmv 33 8,zbi 34 .add 32 33,zmv 35 1,zbi 36 .rem 34 35,zmv 4 36]),.ret])
def Qmz:List (ARv × Md):=[(.t 4,.one .d)]
theorem QoW (c:((List Int) × Int × Int)) (n:Int) (h :
 (zif (decide (n≤(0:Int))) (K (Yu ((0:Int),c))) (zif (decide (n≤(256:Int))) (((Qe c)∧(¬ (n:Int)=0))∧K (Yu ((Int.tmod ((QX c).1) n),((QX c).2)))) ((Qe c)∧((Qe ((QX c).2))∧((Qe ((QX ((QX c).2)).2))∧((Qe ((QX ((QX ((QX c).2)).2)).2))∧((¬ (n:Int)=0)∧K (Yu ((Int.tmod (w64 ((w64 ((w64 ((w64 (((QX c).1)*(16777216:Int)))+(w64 (((QX ((QX c).2)).1)*(65536:Int)))))+(w64 (((QX ((QX ((QX c).2)).2)).1)*(256:Int)))))+((QX ((QX ((QX ((QX c).2)).2)).2)).1))) n),((QX ((QX ((QX ((QX c).2)).2)).2)).2))))))))))):Hold (tawp QnH (1+0) QlL (TQ 1 0 Qmz K) (Qm [(.bx [(.c (.sl [(.int .u8)]) c.1),(.c TI c.2.1),(.c TI c.2.2)]),(.c TI n)])) :=
 Hold.of (by kernel_rfl) h
theorem Qgu (c:((List Int) × Int × Int)) (n:Int) (hp:Qx c n):∃ t:Int × (((List Int) × Int × Int)),(Qa6 c n t)∧TCon Try.prog 116 [(.bx [(.c (.sl [(.int .u8)]) c.1),(.c TI c.2.1),(.c TI c.2.2)]),(.c TI n)] (Yu t):=by
 refine Q7 (tcx (n:=37) (sg:=Zj.sg) Qt (TOk.cons QoY TOk.nil) (by kernel_rfl) (by kernel_rfl) (QoW (fun r'=>∃ t,(Qa6 c n t)∧r'=Yu t) c n ?_))
 refine ⟨fun h=>(Qo ⟨Int.le_refl 0,fun h2=>by simp at h;omega,fun _=>rfl,hp⟩),fun h=>⟨fun h2=>?_,fun h2=>?_⟩⟩
 ·have b1:=Qan c hp
  simp at h
  exact ⟨⟨hp,by omega⟩,Qo ⟨Int.tmod_nonneg _ b1.1,fun h0=>Int.tmod_lt_of_pos _ h0,fun h0=>by omega,b1.2.2⟩⟩
 ·have b1:=Qan c hp
  have b2:=Qan _ b1.2.2
  have b3:=Qan _ b2.2.2
  have b4:=Qan _ b3.2.2
  simp at h
  refine ⟨hp,b1.2.2,b2.2.2,b3.2.2,by omega,Qo ⟨Int.tmod_nonneg _ ?_,fun h0=>Int.tmod_lt_of_pos _ h0,fun h0=>by omega,b4.2.2⟩⟩
  have h1:=b1.1
  have h2:=b1.2.1
  have h3:=b2.1
  have h4:=b2.2.1
  have h5:=b3.1
  have h6:=b3.2.1
  have h7:=b4.1
  have h8:=b4.2.1
  clear b1 b2 b3 b4
  rw [Qi (x:=_*16777216) (by omega) (by omega),Qi (x:=_*65536) (by omega) (by omega),Qi (x:=_*256) (by omega) (by omega)]
  rw [Qi (x:=_*16777216+_) (by omega) (by omega),Qi (x:=_+_*256) (by omega) (by omega),Qi (by omega) (by omega)]
  omega
theorem QS (c:((List Int) × Int × Int)) (n:Int) (hp:Qx c n):Qa6 c n (Qb c n):=(Classical.epsilon_spec (Qgu c n hp)).1
theorem QjB (c:((List Int) × Int × Int)) (n:Int) (hp:Qx c n):TCon Try.prog 116 [(.bx [(.c (.sl [(.int .u8)]) c.1),(.c TI c.2.1),(.c TI c.2.2)]),(.c TI n)] (Yu (Qb c n)):=(Classical.epsilon_spec (Qgu c n hp)).2
theorem Zv:Qq Try.prog Zj:=Qv fun x h=>QjB x.1 x.2.1 h
def JD (t:Bool × (((List Int) × Int × Int))):TRes:=⟨(zcb t.1),[],[[(zcs [(.int .u8)] t.2.1),(zci t.2.2.1),(zci t.2.2.2)]],true,[]⟩
def QL (x0:((List Int) × Int × Int)) (x1:Int):Bool × (((List Int) × Int × Int)):=Classical.epsilon fun t:Bool × (((List Int) × Int × Int))=>(Qbe x0 x1 t)∧TCon Try.prog 136 [(.bx [(.c (.sl [(.int .u8)]) x0.1),(.c TI x0.2.1),(.c TI x0.2.2)]),(.c TI x1)] (JD t)
def Qap:TRow:=Qp 136 [(.b [(.sl [(.int .u8)]),TI,TI]),(.c TI)] fun x=>(some (Qx x.1 x.2.1),JD (QL x.1 x.2.1))
def Qkw:List TRow:=[Zj]
def Qm8:TCode :=
 (zsq [(.reg [zmv 4 (zkb false)]),(.reg [zmv 5 0,zmv 6 1,zca 7 116 [5,6],zbi 8 .eql 7 (zki 0),zmv 4 8]),.ret])
def Qqd:List (ARv × Md):=[(.t 4,.one .d)]
theorem QoB (c:((List Int) × Int × Int)) (n:Int) (h :
 ((Qx c n)∧K (JD ((((Qb c n).1)==(0:Int)),((Qb c n).2))))):Hold (tawp Qkw (1+0) Qm8 (TQ 1 0 Qqd K) (Qm [(.bx [(.c (.sl [(.int .u8)]) c.1),(.c TI c.2.1),(.c TI c.2.2)]),(.c TI n)])) :=
 Hold.of (by kernel_rfl) h
theorem Qhk (c:((List Int) × Int × Int)) (n:Int) (hp:Qx c n):∃ t:Bool × (((List Int) × Int × Int)),(Qbe c n t)∧TCon Try.prog 136 [(.bx [(.c (.sl [(.int .u8)]) c.1),(.c TI c.2.1),(.c TI c.2.2)]),(.c TI n)] (JD t):=by
 refine Q7 (tcx (n:=9) (sg:=Qap.sg) Qt (TOk.cons Zv TOk.nil) (by kernel_rfl) (by kernel_rfl) (QoB (fun r'=>∃ t,(Qbe c n t)∧r'=JD t) c n ?_))
 exact ⟨hp,Qo ((QS c n hp).2.2.2)⟩
theorem Qdj (c:((List Int) × Int × Int)) (n:Int) (hp:Qx c n):Qbe c n (QL c n):=(Classical.epsilon_spec (Qhk c n hp)).1
theorem Qkq (c:((List Int) × Int × Int)) (n:Int) (hp:Qx c n):TCon Try.prog 136 [(.bx [(.c (.sl [(.int .u8)]) c.1),(.c TI c.2.1),(.c TI c.2.2)]),(.c TI n)] (JD (QL c n)):=(Classical.epsilon_spec (Qhk c n hp)).2
theorem Qd1:Qq Try.prog Qap:=Qv fun x h=>Qkq x.1 x.2.1 h
def Jt (t:Int × (((List Int) × Int × Int))):TRes:=⟨(zci t.1),[],[[(zcs [(.int .u8)] t.2.1),(zci t.2.2.1),(zci t.2.2.2)]],true,[]⟩
def QD (x0:((List Int) × Int × Int)) (x1:List Int):Int × (((List Int) × Int × Int)):=Classical.epsilon fun t:Int × (((List Int) × Int × Int))=>(QbC x0 x1 t)∧TCon Try.prog 182 [(.bx [(.c (.sl [(.int .u8)]) x0.1),(.c TI x0.2.1),(.c TI x0.2.2)]),(.c (.sl [TI]) x1)] (Jt t)
def Yn:TRow:=Qp 182 [(.b [(.sl [(.int .u8)]),TI,TI]),(.c (.sl [TI]))] fun x=>(some (Q9 x.1 x.2.1),Jt (QD x.1 x.2.1))
def QmE:List TRow:=[Zj]
def Qlp:TCode :=
 (zsq [(.reg [zmv 4 (zki 0)]),(.reg [zmv 5 1,zmv 6 0,zmv 7 1,zle 8 7,zca 9 116 [6,8],zia 10 5 9 [TI],zld 11 10 1,zmv 4 11]),.ret])
def QnC:List (ARv × Md):=[(.t 4,.one .d)]
theorem QjD (c:((List Int) × Int × Int)) (list:List Int) (h :
 (((Qx c (list.length:Int))∧((0:Int)≤(Qb c (list.length:Int)).1∧Int.toNat ((Qb c (list.length:Int)).1)<list.length))∧K (Jt ((gtd (0:Int) list (Int.toNat ((Qb c (list.length:Int)).1))),((Qb c (list.length:Int)).2))))):Hold (tawp QmE (1+0) Qlp (TQ 1 0 QnC K) (Qm [(.bx [(.c (.sl [(.int .u8)]) c.1),(.c TI c.2.1),(.c TI c.2.2)]),(.c (.sl [TI]) list)])) :=
 Hold.of (by kernel_rfl) h
theorem Qf5 (c:((List Int) × Int × Int)) (list:List Int) (hp:Q9 c list):∃ t:Int × (((List Int) × Int × Int)),(QbC c list t)∧TCon Try.prog 182 [(.bx [(.c (.sl [(.int .u8)]) c.1),(.c TI c.2.1),(.c TI c.2.2)]),(.c (.sl [TI]) list)] (Jt t):=by
 refine Q7 (tcx (n:=12) (sg:=Yn.sg) Qt (TOk.cons Zv TOk.nil) (by kernel_rfl) (by kernel_rfl) (QjD (fun r'=>∃ t,(QbC c list t)∧r'=Jt t) c list ?_))
 have b:=QS c list.length hp.1
 have h1:=hp.2.1
 have h2:=b.2.1 (by omega)
 have h3:=b.1
 exact ⟨⟨hp.1,h3,by omega⟩,Qo ⟨Qpd (by omega) _,b.2.2.2⟩⟩
theorem Y8 (c:((List Int) × Int × Int)) (list:List Int) (hp:Q9 c list):QbC c list (QD c list):=(Classical.epsilon_spec (Qf5 c list hp)).1
theorem Qk7 (c:((List Int) × Int × Int)) (list:List Int) (hp:Q9 c list):TCon Try.prog 182 [(.bx [(.c (.sl [(.int .u8)]) c.1),(.c TI c.2.1),(.c TI c.2.2)]),(.c (.sl [TI]) list)] (Jt (QD c list)):=(Classical.epsilon_spec (Qf5 c list hp)).2
theorem JC:Qq Try.prog Yn:=Qv fun x h=>Qk7 x.1 x.2.1 h
def Qc9 (t:Bool):TRes:=zre (zcb t)
def QdZ:TRow:=Qp 26 [(.c (.sl [(.int .u8)]))] fun x=>(none,Qc9 (JS x.1))
def QkC:List TRow:=[]
def Qqc:TCode :=
 (zsq [(.reg [zmv 2 (zkb false)]),(.reg [zmv 3 0,zle 4 3,zbi 5 .gtr 4 (zki 1048576),zmv 2 5]),.ret])
def Qny:List (ARv × Md):=[(.t 2,.one .d)]
theorem Qql (code:List Int) (h :
 K (Qc9 (decide ((code.length:Int)>(1048576:Int))))):Hold (tawp QkC (0+0) Qqc (TQ 0 0 Qny K) (Qm [(.c (.sl [(.int .u8)]) code)])) :=
 Hold.of (by kernel_rfl) h
theorem QkB (code:List Int):TCon Try.prog 26 [(.c (.sl [(.int .u8)]) code)] (Qc9 (JS code)):=by
 refine QP rfl fun hb=>tcg (n:=6) (sg:=QdZ.sg) Qt TOk.nil (by kernel_rfl) (by kernel_rfl) (Qql _ code ?_)
 have hl_code:code.length≤9223372036854775807:=hb.1.1
 exact R_eq rfl
theorem Qnz:Qq Try.prog QdZ:=Qv fun x _=>QkB x.1
def QbU (t:Int):TRes:=zre (zci t)
def Qd8:TRow:=Qp 72 [(.c (.sl [(.int .u8)])),(.c TI)] fun x=>(some (p_at x.1 x.2.1),QbU (m_at x.1 x.2.1))
def QpB:List TRow:=[]
def Qjv:TCode :=
 (zsq [(.reg [zmv 4 (zki 0)]),(zsq [(.reg [zmv 5 1,zmv 6 0,zle 7 6,zbi 8 .lss 5 7]),(.cond 8 (zsq [(.reg [zmv 9 0,zmv 10 1,zia 11 9 10 [(.int .u8)],zld 12 11 1,zop 13 (.conv .i64 12),zmv 4 13]),.ret]) .skip)]),(.reg [zmv 14 1,zbi 15 .mul 14 (zki 37),zmv 16 0,zle 17 16,zbi 18 .mul 17 (zki 11),zbi 19 .add 15 18,zbi 20 .rem 19 (zki 256),zmv 4 20]),.ret])
def Qqu:List (ARv × Md):=[(.t 4,.one .d)]
theorem Qnd (code:List Int) (i:Int) (h :
 (zif (decide (i<(code.length:Int))) (((0:Int)≤i∧Int.toNat i<code.length)∧K (QbU (w64 ((gtd (0:Int) code (Int.toNat i)))))) ((¬ ((256:Int):Int)=0)∧K (QbU (Int.tmod (w64 ((w64 (i*(37:Int)))+(w64 ((code.length:Int)*(11:Int))))) (256:Int)))))):Hold (tawp QpB (0+0) Qjv (TQ 0 0 Qqu K) (Qm [(.c (.sl [(.int .u8)]) code),(.c TI i)])) :=
 Hold.of (by kernel_rfl) h
theorem QnZ (code:List Int) (i:Int) (hp:p_at code i):TCon Try.prog 72 [(.c (.sl [(.int .u8)]) code),(.c TI i)] (QbU (m_at code i)):=by
 refine QP rfl fun hb=>tcg (n:=21) (sg:=Qd8.sg) Qt TOk.nil (by kernel_rfl) (by kernel_rfl) (Qnd _ code i ?_)
 have hl_code:code.length≤9223372036854775807:=hb.1.1
 have h0:0≤i:=hp
 refine ⟨fun h=>⟨⟨h0,by simp at h;omega⟩,R_eq ?_⟩,fun h=>⟨by omega,R_eq ?_⟩⟩
 ·rw [m_at,if_pos (by simpa using h)]
 ·rw [m_at,if_neg (by simpa using h)]
theorem Qm9:Qq Try.prog Qd8:=Qv fun x h=>QnZ x.1 x.2.1 h
end
end Go.Proofs.Ytephkbajoofeoaa.Am

