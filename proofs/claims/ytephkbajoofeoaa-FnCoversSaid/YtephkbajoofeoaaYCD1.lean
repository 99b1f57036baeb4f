/- -/
import Derived.Test.YtephkbajoofeoaaYCG9
namespace Go.Proofs.Ytephkbajoofeoaa.Am
open Go Go.RowKit Go.Proofs.Ytephkbajoofeoaa
set_option linter.all false
set_option maxHeartbeats 2000000
noncomputable section
variable (K:TRes→Prop)
def ZG (t:(((List Int) × Int × Int))):TRes:=⟨(.p 0 0 0),[(.box [(zcs [(.int .u8)] t.1),(zci t.2.1),(zci t.2.2)])],[],true,[]⟩
def Zw (x0:List Int):(((List Int) × Int × Int)):=Classical.epsilon fun t:(((List Int) × Int × Int))=>(Yn x0 t)∧TCon Try.prog 114 [(.c (.sl [(.int .u8)]) x0)] (ZG t)
def Qbt:TRow:=Qr 114 [(.c (.sl [(.int .u8)]))] fun x=>(some (Zo x.1),ZG (Zw x.1))
def QbN:List TRow:=[]
def QhK:TCode :=
 (zsq [(zsq [(.reg [zmv 8 4,zmv 9 0,zle 10 9,zbi 11 .lss 8 10,zmv 12 11,.grp 12 true [zmv 13 4,zbi 14 .lss 13 (zki 4000)] 15 14]),(.cond 15 .skip (.exit 0))]),(.block 1 (.reg [zmv 18 3,zbi 19 .mul 18 (zki 131),zmv 20 0,zmv 21 4,zia 22 20 21 [(.int .u8)],zld 23 22 1,zop 24 (.conv .i64 23),zbi 25 .add 19 24,zbi 26 .add 25 (zki 7),zbi 27 .and 26 (zki 1073741823),zmv 3 27])),(.reg [zmv 16 4,zbi 17 .add 16 (zki 1),zmv 4 17])])
def Qd1:List (Nat × Md):=zdl [0,3,4]
def Qfa:TCode :=
 (zsq [(.reg [zmv 28 0,zmv 29 3,zop 30 (.build (z0s [(.sl [(.int .u8)]),TI,TI]) [(0,1,28),(2,1,29)]),zop 31 (.box 210 30 3),zmv 2 31]),.ret])
def QlG:TCode :=
 (zsq [(.reg [zmv 2 (.k (.c .nilp ()))]),(.reg [zmv 5 0,zle 6 5,zbi 7 .add (zki 10101) 6,zmv 3 7]),(zsq [(.reg [zmv 4 (zki 0)]),(.block 0 (.loop Qd1 QhK))]),Qfa])
def Qfx:List (ARv × Md):=[(.t 2,.b [.d,.d,.d])]
def Qe0:Qd:=TQ 0 0 Qfx K
def Qkn:Qd:=Qseq (tawp QbN 0 Qfa (Qe0 K)) (Qe0 K)
def Qj5:Qd:=Qblk 0 (Qkn K)
def JO (code:List Int) (h1:Int) (i:Int):Prop:=Loop QbN 0 Qd1 QhK (Qj5 K) ⟨[(0,(zcs [(.int .u8)] code)),(3,(zci h1)),(4,(zci i))],[],0⟩
theorem QdQ (code:List Int) (h1:Int) (i:Int) (h :
 (zif ((decide (i<(code.length:Int)))&&(decide (i<(4000:Int)))) (((0:Int)≤i∧Int.toNat i<code.length)∧(JO K code (w64 (((BitVec.ofInt (IntKind.i64.bits) (w64 ((w64 ((w64 (h1*(131:Int)))+(w64 ((gtd (0:Int) code (Int.toNat i))))))+(7:Int))) &&& BitVec.ofInt (IntKind.i64.bits) (1073741823:Int)).toNat:Int))) (w64 (i+(1:Int))))) (K (ZG (code,(0:Int),h1))))):JO K code h1 i :=
 Loop.of (by kernel_rfl) h
theorem Qnj (code:List Int) (h :
 (JO K code (w64 ((10101:Int)+(code.length:Int))) 0)):Hold (tawp QbN (0+0) QlG (TQ 0 0 Qfx K) (Ql [(.c (.sl [(.int .u8)]) code)])) :=
 Hold.of (by kernel_rfl) h
theorem Qhz (code:List Int) (hp:Zo code):∃ t:(((List Int) × Int × Int)),(Yn code t)∧TCon Try.prog 114 [(.c (.sl [(.int .u8)]) code)] (ZG t):=by
 refine Q6 (tcx (n:=32) (sg:=Qbt.sg) Qv TOk.nil (by kernel_rfl) (by kernel_rfl) (Qnj (fun r'=>∃ t,(Yn code t)∧r'=ZG t) code ?_))
 have hp':code.length≤1048576:=hp
 suffices h:∀ x:Int,JO (fun r'=>∃ t,(Yn code t)∧r'=ZG t) code x ((0:Nat):Int) from h _
 refine Jf (min code.length 4000) (fun k=>∀ x:Int,JO (fun r'=>∃ t,(Yn code t)∧r'=ZG t) code x (k:Int)) ?_ ?_
 ·intro x
  refine QdQ (fun r'=>∃ t,(Yn code t)∧r'=ZG t) code _ _ ⟨fun h=>?_,fun _=>(Qx ⟨Int.le_refl 0,hp⟩)⟩
  simp at h;omega
 ·intro k hk ih x
  refine QdQ (fun r'=>∃ t,(Yn code t)∧r'=ZG t) code _ _ ⟨fun _=>⟨⟨by omega,by omega⟩,?_⟩,fun h=>?_⟩
  ·rw [sc1 (by omega)];exact ih _
  ·simp at h;omega
theorem Qe6 (code:List Int) (hp:Zo code):Yn code (Zw code):=(Classical.epsilon_spec (Qhz code hp)).1
theorem QkE (code:List Int) (hp:Zo code):TCon Try.prog 114 [(.c (.sl [(.int .u8)]) code)] (ZG (Zw code)):=(Classical.epsilon_spec (Qhz code hp)).2
theorem Qkm:Qq Try.prog Qbt:=Qy fun x h=>QkE x.1 h
def YA (t:Int × (((List Int) × Int × Int))):TRes:=⟨(zci t.1),[],[[(zcs [(.int .u8)] t.2.1),(zci t.2.2.1),(zci t.2.2.2)]],true,[]⟩
def QH (x0:((List Int) × Int × Int)):Int × (((List Int) × Int × Int)):=Classical.epsilon fun t:Int × (((List Int) × Int × Int))=>(QaR x0 t)∧TCon Try.prog 183 [(.bx [(.c (.sl [(.int .u8)]) x0.1),(.c TI x0.2.1),(.c TI x0.2.2)])] (YA t)
def Qdl:TRow:=Qr 183 [(.b [(.sl [(.int .u8)]),TI,TI])] fun x=>(some (Qf x.1),YA (QH x.1))
def Qnc:List TRow:=[]
def QlU:TCode :=
 (zsq [(.reg [zmv 2 (zki 0)]),(.reg [zmv 4 0,zmv 5 0,zop 6 (.nilc 5),zfa 7 6 2,zld 8 7 1,zbi 9 .mul 8 (zki 6364136223846793005),zbi 10 .add 9 (zki 1442695040888963407),zop 11 (.nilc 4),zfa 12 11 2,zst 12 10 1]),(.draw [zmv 13 0,zop 14 (.nilc 13),zfa 15 14 2,zld 16 15 1,zbi 17 .shr 16 (.k (.c (.int .u64) (33:Int))),zmv 18 0,zop 19 (.nilc 18),zfa 20 19 2,zld 21 20 1,zbi 22 .shr 21 (.k (.c (.int .u64) (45:Int))),zbi 23 .xor 17 22,zbi 24 .and 23 (zki 255),zmv 3 24] []),(zsq [(.draw [zmv 25 0,zop 26 (.nilc 25),zfa 27 26 1,zld 28 27 1,zmv 29 0,zop 30 (.nilc 29),zfa 31 30 0,zld 32 31 1,zle 33 32,zbi 34 .lss 28 33] []),(.cond 34 (zsq [(.draw [zmv 35 3,zmv 36 0,zop 37 (.nilc 36),zfa 38 37 0,zld 39 38 1,zmv 40 0,zop 41 (.nilc 40),zfa 42 41 1,zld 43 42 1,zia 44 39 43 [(.int .u8)],zld 45 44 1,zop 46 (.conv .i64 45),zbi 47 .add 35 46,zbi 48 .and 47 (zki 255),zmv 3 48] []),(.reg [zmv 49 0,zmv 50 0,zop 51 (.nilc 50),zfa 52 51 1,zld 53 52 1,zbi 54 .add 53 (zki 1),zop 55 (.nilc 49),zfa 56 55 1,zst 56 54 1])]) .skip)]),(.reg [zmv 57 3,zmv 2 57]),.ret])
def Qlk:List (ARv × Md):=[(.t 2,.one .d)]
theorem QlT (c:((List Int) × Int × Int)) (h :
 let z2:=w64 (c.2.2*(6364136223846793005:Int))
 let z1:=BitVec.ofInt (IntKind.i64.bits) (w64 (((BitVec.ofInt (IntKind.i64.bits) (Int.fdiv (w64 (z2+(1442695040888963407:Int))) (2 ^ (min (Int.toNat (33:Int)) (IntKind.i64.bits)))) ^^^ BitVec.ofInt (IntKind.i64.bits) (Int.fdiv (w64 (z2+(1442695040888963407:Int))) (2 ^ (min (Int.toNat (45:Int)) (IntKind.i64.bits))))).toNat:Int))) &&& BitVec.ofInt (IntKind.i64.bits) (255:Int)
 ((((0:Int)≤(33:Int))∧((0:Int)≤(45:Int)))∧(zif (decide (c.2.1<((c.1).length:Int))) (((0:Int)≤c.2.1∧Int.toNat c.2.1<(c.1).length)∧K (YA (w64 (((BitVec.ofInt (IntKind.i64.bits) (w64 ((w64 ((z1.toNat:Int)))+(w64 ((gtd (0:Int) c.1 (Int.toNat c.2.1)))))) &&& BitVec.ofInt (IntKind.i64.bits) (255:Int)).toNat:Int)),(c.1,w64 (c.2.1+(1:Int)),w64 (z2+(1442695040888963407:Int)))))) (K (YA (w64 ((z1.toNat:Int)),(c.1,c.2.1,w64 (z2+(1442695040888963407:Int))))))))):Hold (tawp Qnc (1+0) QlU (TQ 1 0 Qlk K) (Ql [(.bx [(.c (.sl [(.int .u8)]) c.1),(.c TI c.2.1),(.c TI c.2.2)])])) :=
 Hold.of (by kernel_rfl) h
theorem QhY (c:((List Int) × Int × Int)) (hp:Qf c):∃ t:Int × (((List Int) × Int × Int)),(QaR c t)∧TCon Try.prog 183 [(.bx [(.c (.sl [(.int .u8)]) c.1),(.c TI c.2.1),(.c TI c.2.2)])] (YA t):=by
 refine Q6 (tcx (n:=58) (sg:=Qdl.sg) Qv TOk.nil (by kernel_rfl) (by kernel_rfl) (QlT (fun r'=>∃ t,(QaR c t)∧r'=YA t) c ?_))
 conv=>zeta
 have h1:=hp.1
 have h2:=hp.2
 refine ⟨⟨by omega,by omega⟩,fun h=>⟨⟨h1,by simp at h;omega⟩,Qx ⟨(Qbd _).1,(Qbd _).2,?_,h2⟩⟩,fun h=>(Qx ⟨(Qbd _).1,(Qbd _).2,h1,h2⟩)⟩
 simp at h
 show 0≤w64 (c.2.1+1)
 rw [Qk (by omega) (by omega)];omega
theorem JK (c:((List Int) × Int × Int)) (hp:Qf c):QaR c (QH c):=(Classical.epsilon_spec (QhY c hp)).1
theorem Qnn (c:((List Int) × Int × Int)) (hp:Qf c):TCon Try.prog 183 [(.bx [(.c (.sl [(.int .u8)]) c.1),(.c TI c.2.1),(.c TI c.2.2)])] (YA (QH c)):=(Classical.epsilon_spec (QhY c hp)).2
theorem QjR:Qq Try.prog Qdl:=Qy fun x h=>Qnn x.1 h
def Z8 (t:Int × (((List Int) × Int × Int))):TRes:=⟨(zci t.1),[],[[(zcs [(.int .u8)] t.2.1),(zci t.2.2.1),(zci t.2.2.2)]],true,[]⟩
def Qc (x0:((List Int) × Int × Int)) (x1:Int):Int × (((List Int) × Int × Int)):=Classical.epsilon fun t:Int × (((List Int) × Int × Int))=>(QaE x0 x1 t)∧TCon Try.prog 116 [(.bx [(.c (.sl [(.int .u8)]) x0.1),(.c TI x0.2.1),(.c TI x0.2.2)]),(.c TI x1)] (Z8 t)
def ZA:TRow:=Qr 116 [(.b [(.sl [(.int .u8)]),TI,TI]),(.c TI)] fun x=>(some (QD x.1 x.2.1),Z8 (Qc x.1 x.2.1))
def QnD:List TRow:=[Qdl]
def Qn1:TCode :=
 (zsq [(.reg [zmv 4 (zki 0)]),(zsq [(.reg [zmv 9 1,zbi 10 .leq 9 (zki 0)]),(.cond 10 (zsq [(.reg [zmv 4 (zki 0)]),.ret]) .skip)]),(zsq [(.reg [zmv 11 1,zbi 12 .leq 11 (zki 256)]),(.cond 12 (zsq [(.reg [zmv 13 0,zca 14 183 [13],zmv 15 1,zbi 16 .rem 14 15,zmv 4 16]),.ret]) .skip)]),(.reg [zmv 17 0,zca 18 183 [17],zmv 5 18]),(.reg [zmv 19 0,zca 20 183 [19],zmv 6 20]),(.reg [zmv 21 0,zca 22 183 [21],zmv 7 22]),(.reg [zmv 23 0,zca 24 183 [23],zmv 8 24]),(.reg [zmv 25 5,zbi 26 .mul 25 (zki 16777216),zmv 27 6,zbi 28 .mul 27 (zki 65536),zbi 29 .add 26 28,zmv 30 7,zbi 31 .mul 30 (zki 256),zbi 32 .add 29 31,zmv 33 8,zbi 34 .add 32 33,zmv 35 1,zbi 36 .rem 34 35,zmv 4 36]),.ret])
def QiE:List (ARv × Md):=[(.t 4,.one .d)]
theorem QkY (c:((List Int) × Int × Int)) (n:Int) (h :
 (zif (decide (n≤(0:Int))) (K (Z8 ((0:Int),c))) (zif (decide (n≤(256:Int))) (((Qf c)∧(¬ (n:Int)=0))∧K (Z8 ((Int.tmod ((QH c).1) n),((QH c).2)))) ((Qf c)∧((Qf ((QH c).2))∧((Qf ((QH ((QH c).2)).2))∧((Qf ((QH ((QH ((QH c).2)).2)).2))∧((¬ (n:Int)=0)∧K (Z8 ((Int.tmod (w64 ((w64 ((w64 ((w64 (((QH c).1)*(16777216:Int)))+(w64 (((QH ((QH c).2)).1)*(65536:Int)))))+(w64 (((QH ((QH ((QH c).2)).2)).1)*(256:Int)))))+((QH ((QH ((QH ((QH c).2)).2)).2)).1))) n),((QH ((QH ((QH ((QH c).2)).2)).2)).2))))))))))):Hold (tawp QnD (1+0) Qn1 (TQ 1 0 QiE K) (Ql [(.bx [(.c (.sl [(.int .u8)]) c.1),(.c TI c.2.1),(.c TI c.2.2)]),(.c TI n)])) :=
 Hold.of (by kernel_rfl) h
theorem QeZ (c:((List Int) × Int × Int)) (n:Int) (hp:QD c n):∃ t:Int × (((List Int) × Int × Int)),(QaE c n t)∧TCon Try.prog 116 [(.bx [(.c (.sl [(.int .u8)]) c.1),(.c TI c.2.1),(.c TI c.2.2)]),(.c TI n)] (Z8 t):=by
 refine Q6 (tcx (n:=37) (sg:=ZA.sg) Qv (TOk.cons QjR TOk.nil) (by kernel_rfl) (by kernel_rfl) (QkY (fun r'=>∃ t,(QaE c n t)∧r'=Z8 t) c n ?_))
 refine ⟨fun h=>(Qx ⟨Int.le_refl 0,fun h2=>by simp at h;omega,fun _=>rfl,hp⟩),fun h=>⟨fun h2=>?_,fun h2=>?_⟩⟩
 ·have b1:=JK c hp
  simp at h
  exact ⟨⟨hp,by omega⟩,Qx ⟨Int.tmod_nonneg _ b1.1,fun h0=>Int.tmod_lt_of_pos _ h0,fun h0=>by omega,b1.2.2⟩⟩
 ·have b1:=JK c hp
  have b2:=JK _ b1.2.2
  have b3:=JK _ b2.2.2
  have b4:=JK _ b3.2.2
  simp at h
  refine ⟨hp,b1.2.2,b2.2.2,b3.2.2,by omega,Qx ⟨Int.tmod_nonneg _ ?_,fun h0=>Int.tmod_lt_of_pos _ h0,fun h0=>by omega,b4.2.2⟩⟩
  have h1:=b1.1
  have h2:=b1.2.1
  have h3:=b2.1
  have h4:=b2.2.1
  have h5:=b3.1
  have h6:=b3.2.1
  have h7:=b4.1
  have h8:=b4.2.1
  clear b1 b2 b3 b4
  rw [Qk (x:=_*16777216) (by omega) (by omega),Qk (x:=_*65536) (by omega) (by omega),Qk (x:=_*256) (by omega) (by omega)]
  rw [Qk (x:=_*16777216+_) (by omega) (by omega),Qk (x:=_+_*256) (by omega) (by omega),Qk (by omega) (by omega)]
  omega
theorem QW (c:((List Int) × Int × Int)) (n:Int) (hp:QD c n):QaE c n (Qc c n):=(Classical.epsilon_spec (QeZ c n hp)).1
theorem Qk0 (c:((List Int) × Int × Int)) (n:Int) (hp:QD c n):TCon Try.prog 116 [(.bx [(.c (.sl [(.int .u8)]) c.1),(.c TI c.2.1),(.c TI c.2.2)]),(.c TI n)] (Z8 (Qc c n)):=(Classical.epsilon_spec (QeZ c n hp)).2
theorem Yg:Qq Try.prog ZA:=Qy fun x h=>Qk0 x.1 x.2.1 h
def Y1 (t:Bool × (((List Int) × Int × Int))):TRes:=⟨(zcb t.1),[],[[(zcs [(.int .u8)] t.2.1),(zci t.2.2.1),(zci t.2.2.2)]],true,[]⟩
def QJ (x0:((List Int) × Int × Int)) (x1:Int):Bool × (((List Int) × Int × Int)):=Classical.epsilon fun t:Bool × (((List Int) × Int × Int))=>(QaT x0 x1 t)∧TCon Try.prog 136 [(.bx [(.c (.sl [(.int .u8)]) x0.1),(.c TI x0.2.1),(.c TI x0.2.2)]),(.c TI x1)] (Y1 t)
def J2:TRow:=Qr 136 [(.b [(.sl [(.int .u8)]),TI,TI]),(.c TI)] fun x=>(some (QD x.1 x.2.1),Y1 (QJ x.1 x.2.1))
def Qnf:List TRow:=[ZA]
def QmO:TCode :=
 (zsq [(.reg [zmv 4 (zkb false)]),(.reg [zmv 5 0,zmv 6 1,zca 7 116 [5,6],zbi 8 .eql 7 (zki 0),zmv 4 8]),.ret])
def Qji:List (ARv × Md):=[(.t 4,.one .d)]
theorem QlZ (c:((List Int) × Int × Int)) (n:Int) (h :
 ((QD c n)∧K (Y1 ((((Qc c n).1)==(0:Int)),((Qc c n).2))))):Hold (tawp Qnf (1+0) QmO (TQ 1 0 Qji K) (Ql [(.bx [(.c (.sl [(.int .u8)]) c.1),(.c TI c.2.1),(.c TI c.2.2)]),(.c TI n)])) :=
 Hold.of (by kernel_rfl) h
theorem Qfw (c:((List Int) × Int × Int)) (n:Int) (hp:QD c n):∃ t:Bool × (((List Int) × Int × Int)),(QaT c n t)∧TCon Try.prog 136 [(.bx [(.c (.sl [(.int .u8)]) c.1),(.c TI c.2.1),(.c TI c.2.2)]),(.c TI n)] (Y1 t):=by
 refine Q6 (tcx (n:=9) (sg:=J2.sg) Qv (TOk.cons Yg TOk.nil) (by kernel_rfl) (by kernel_rfl) (QlZ (fun r'=>∃ t,(QaT c n t)∧r'=Y1 t) c n ?_))
 exact ⟨hp,Qx ((QW c n hp).2.2.2)⟩
theorem Qdf (c:((List Int) × Int × Int)) (n:Int) (hp:QD c n):QaT c n (QJ c n):=(Classical.epsilon_spec (Qfw c n hp)).1
theorem QiO (c:((List Int) × Int × Int)) (n:Int) (hp:QD c n):TCon Try.prog 136 [(.bx [(.c (.sl [(.int .u8)]) c.1),(.c TI c.2.1),(.c TI c.2.2)]),(.c TI n)] (Y1 (QJ c n)):=(Classical.epsilon_spec (Qfw c n hp)).2
theorem Qdr:Qq Try.prog J2:=Qy fun x h=>QiO x.1 x.2.1 h
def Y6 (t:Int × (((List Int) × Int × Int))):TRes:=⟨(zci t.1),[],[[(zcs [(.int .u8)] t.2.1),(zci t.2.2.1),(zci t.2.2.2)]],true,[]⟩
def Zg (x0:((List Int) × Int × Int)) (x1:List Int):Int × (((List Int) × Int × Int)):=Classical.epsilon fun t:Int × (((List Int) × Int × Int))=>(Qal x0 x1 t)∧TCon Try.prog 182 [(.bx [(.c (.sl [(.int .u8)]) x0.1),(.c TI x0.2.1),(.c TI x0.2.2)]),(.c (.sl [TI]) x1)] (Y6 t)
def JW:TRow:=Qr 182 [(.b [(.sl [(.int .u8)]),TI,TI]),(.c (.sl [TI]))] fun x=>(some (Zv x.1 x.2.1),Y6 (Zg x.1 x.2.1))
def Qlb:List TRow:=[ZA]
def QlY:TCode :=
 (zsq [(.reg [zmv 4 (zki 0)]),(.reg [zmv 5 1,zmv 6 0,zmv 7 1,zle 8 7,zca 9 116 [6,8],zia 10 5 9 [TI],zld 11 10 1,zmv 4 11]),.ret])
def Qns:List (ARv × Md):=[(.t 4,.one .d)]
theorem QiK (c:((List Int) × Int × Int)) (list:List Int) (h :
 (((QD c (list.length:Int))∧((0:Int)≤(Qc c (list.length:Int)).1∧Int.toNat ((Qc c (list.length:Int)).1)<list.length))∧K (Y6 ((gtd (0:Int) list (Int.toNat ((Qc c (list.length:Int)).1))),((Qc c (list.length:Int)).2))))):Hold (tawp Qlb (1+0) QlY (TQ 1 0 Qns K) (Ql [(.bx [(.c (.sl [(.int .u8)]) c.1),(.c TI c.2.1),(.c TI c.2.2)]),(.c (.sl [TI]) list)])) :=
 Hold.of (by kernel_rfl) h
theorem Qer (c:((List Int) × Int × Int)) (list:List Int) (hp:Zv c list):∃ t:Int × (((List Int) × Int × Int)),(Qal c list t)∧TCon Try.prog 182 [(.bx [(.c (.sl [(.int .u8)]) c.1),(.c TI c.2.1),(.c TI c.2.2)]),(.c (.sl [TI]) list)] (Y6 t):=by
 refine Q6 (tcx (n:=12) (sg:=JW.sg) Qv (TOk.cons Yg TOk.nil) (by kernel_rfl) (by kernel_rfl) (QiK (fun r'=>∃ t,(Qal c list t)∧r'=Y6 t) c list ?_))
 have b:=QW c list.length hp.1
 have h1:=hp.2.1
 have h2:=b.2.1 (by omega)
 have h3:=b.1
 exact ⟨⟨hp.1,h3,by omega⟩,Qx ⟨Qnk (by omega) _,b.2.2.2⟩⟩
theorem Qab (c:((List Int) × Int × Int)) (list:List Int) (hp:Zv c list):Qal c list (Zg c list):=(Classical.epsilon_spec (Qer c list hp)).1
theorem Qkg (c:((List Int) × Int × Int)) (list:List Int) (hp:Zv c list):TCon Try.prog 182 [(.bx [(.c (.sl [(.int .u8)]) c.1),(.c TI c.2.1),(.c TI c.2.2)]),(.c (.sl [TI]) list)] (Y6 (Zg c list)):=(Classical.epsilon_spec (Qer c list hp)).2
theorem QbE:Qq Try.prog JW:=Qy fun x h=>Qkg x.1 x.2.1 h
def QbX (t:Bool):TRes:=zre (zcb t)
def Qct:TRow:=Qr 26 [(.c (.sl [(.int .u8)]))] fun x=>(none,QbX (JB x.1))
def Qkh:List TRow:=[]
def QmJ:TCode :=
 (zsq [(.reg [zmv 2 (zkb false)]),(.reg [zmv 3 0,zle 4 3,zbi 5 .gtr 4 (zki 1048576),zmv 2 5]),.ret])
def Qlp:List (ARv × Md):=[(.t 2,.one .d)]
theorem Qiv (code:List Int) (h :
 K (QbX (decide ((code.length:Int)>(1048576:Int))))):Hold (tawp Qkh (0+0) QmJ (TQ 0 0 Qlp K) (Ql [(.c (.sl [(.int .u8)]) code)])) :=
 Hold.of (by kernel_rfl) h
theorem Qjl (code:List Int):TCon Try.prog 26 [(.c (.sl [(.int .u8)]) code)] (QbX (JB code)):=by
 refine QY rfl fun hb=>tcg (n:=6) (sg:=Qct.sg) Qv TOk.nil (by kernel_rfl) (by kernel_rfl) (Qiv _ code ?_)
 have hl_code:code.length≤9223372036854775807:=hb.1.1
 exact R_eq rfl
theorem QiG:Qq Try.prog Qct:=Qy fun x _=>Qjl x.1
end
end Go.Proofs.Ytephkbajoofeoaa.Am

