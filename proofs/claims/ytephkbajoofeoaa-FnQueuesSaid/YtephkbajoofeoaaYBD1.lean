/- -/
import Derived.Test.YtephkbajoofeoaaYBG9
namespace Go.Proofs.Ytephkbajoofeoaa.Am
open Go Go.RowKit Go.Proofs.Ytephkbajoofeoaa
set_option linter.all false
set_option maxHeartbeats 2000000
noncomputable section
variable (K:TRes→Prop)
def Zu (t:(((List Int) × Int × Int))):TRes:=⟨(.p 0 0 0),[(.box [(zcs [(.int .u8)] t.1),(zci t.2.1),(zci t.2.2)])],[],true,[]⟩
def Zs (x0:List Int):(((List Int) × Int × Int)):=Classical.epsilon fun t:(((List Int) × Int × Int))=>(Z0 x0 t)∧TCon Try.prog 114 [(.c (.sl [(.int .u8)]) x0)] (Zu t)
def Qcd:TRow:=Qr 114 [(.c (.sl [(.int .u8)]))] fun x=>(some (Zf x.1),Zu (Zs x.1))
def Qbh:List TRow:=[]
def QfQ:TCode :=
 (zsq [(zsq [(.reg [zmv 8 4,zmv 9 0,zle 10 9,zbi 11 .lss 8 10,zmv 12 11,.grp 12 true [zmv 13 4,zbi 14 .lss 13 (zki 4000)] 15 14]),(.cond 15 .skip (.exit 0))]),(.block 1 (.reg [zmv 18 3,zbi 19 .mul 18 (zki 131),zmv 20 0,zmv 21 4,zia 22 20 21 [(.int .u8)],zld 23 22 1,zop 24 (.conv .i64 23),zbi 25 .add 19 24,zbi 26 .add 25 (zki 7),zbi 27 .and 26 (zki 1073741823),zmv 3 27])),(.reg [zmv 16 4,zbi 17 .add 16 (zki 1),zmv 4 17])])
def Qdu:List (Nat × Md):=zdl [0,3,4]
def QdG:TCode :=
 (zsq [(.reg [zmv 28 0,zmv 29 3,zop 30 (.build (z0s [(.sl [(.int .u8)]),TI,TI]) [(0,1,28),(2,1,29)]),zop 31 (.box 210 30 3),zmv 2 31]),.ret])
def Qhq:TCode :=
 (zsq [(.reg [zmv 2 (.k (.c .nilp ()))]),(.reg [zmv 5 0,zle 6 5,zbi 7 .add (zki 10101) 6,zmv 3 7]),(zsq [(.reg [zmv 4 (zki 0)]),(.block 0 (.loop Qdu QfQ))]),QdG])
def QdL:List (ARv × Md):=[(.t 2,.b [.d,.d,.d])]
def Qfn:Qi:=TQ 0 0 QdL K
def Qg5:Qi:=Qseq (tawp Qbh 0 QdG (Qfn K)) (Qfn K)
def Qj2:Qi:=Qblk 0 (Qg5 K)
def Y0 (code:List Int) (h1:Int) (i:Int):Prop:=Loop Qbh 0 Qdu QfQ (Qj2 K) ⟨[(0,(zcs [(.int .u8)] code)),(3,(zci h1)),(4,(zci i))],[],0⟩
theorem Qdv (code:List Int) (h1:Int) (i:Int) (h :
 (zif ((decide (i<(code.length:Int)))&&(decide (i<(4000:Int)))) (((0:Int)≤i∧Int.toNat i<code.length)∧(Y0 K code (w64 (((BitVec.ofInt (IntKind.i64.bits) (w64 ((w64 ((w64 (h1*(131:Int)))+(w64 ((gtd (0:Int) code (Int.toNat i))))))+(7:Int))) &&& BitVec.ofInt (IntKind.i64.bits) (1073741823:Int)).toNat:Int))) (w64 (i+(1:Int))))) (K (Zu (code,(0:Int),h1))))):Y0 K code h1 i :=
 Loop.of (by kernel_rfl) h
theorem Qju (code:List Int) (h :
 (Y0 K code (w64 ((10101:Int)+(code.length:Int))) 0)):Hold (tawp Qbh (0+0) Qhq (TQ 0 0 QdL K) (Ql [(.c (.sl [(.int .u8)]) code)])) :=
 Hold.of (by kernel_rfl) h
theorem QdB (code:List Int) (hp:Zf code):∃ t:(((List Int) × Int × Int)),(Z0 code t)∧TCon Try.prog 114 [(.c (.sl [(.int .u8)]) code)] (Zu t):=by
 refine Zj (tcx (n:=32) (sg:=Qcd.sg) Qv TOk.nil (by kernel_rfl) (by kernel_rfl) (Qju (fun r'=>∃ t,(Z0 code t)∧r'=Zu t) code ?_))
 have hp':code.length≤1048576:=hp
 suffices h:∀ x:Int,Y0 (fun r'=>∃ t,(Z0 code t)∧r'=Zu t) code x ((0:Nat):Int) from h _
 refine Qb7 (min code.length 4000) (fun k=>∀ x:Int,Y0 (fun r'=>∃ t,(Z0 code t)∧r'=Zu t) code x (k:Int)) ?_ ?_
 ·intro x
  refine Qdv (fun r'=>∃ t,(Z0 code t)∧r'=Zu t) code _ _ ⟨fun h=>?_,fun _=>(QK ⟨Int.le_refl 0,hp⟩)⟩
  simp at h;omega
 ·intro k hk ih x
  refine Qdv (fun r'=>∃ t,(Z0 code t)∧r'=Zu t) code _ _ ⟨fun _=>⟨⟨by omega,by omega⟩,?_⟩,fun h=>?_⟩
  ·rw [sc1 (by omega)];exact ih _
  ·simp at h;omega
theorem QkZ (code:List Int) (hp:Zf code):Z0 code (Zs code):=(Classical.epsilon_spec (QdB code hp)).1
theorem Qhx (code:List Int) (hp:Zf code):TCon Try.prog 114 [(.c (.sl [(.int .u8)]) code)] (Zu (Zs code)):=(Classical.epsilon_spec (QdB code hp)).2
theorem Qi3:Qq Try.prog Qcd:=Qy fun x h=>Qhx x.1 h
def Yd (t:Int × (((List Int) × Int × Int))):TRes:=⟨(zci t.1),[],[[(zcs [(.int .u8)] t.2.1),(zci t.2.2.1),(zci t.2.2.2)]],true,[]⟩
def QD (x0:((List Int) × Int × Int)):Int × (((List Int) × Int × Int)):=Classical.epsilon fun t:Int × (((List Int) × Int × Int))=>(JY x0 t)∧TCon Try.prog 183 [(.bx [(.c (.sl [(.int .u8)]) x0.1),(.c TI x0.2.1),(.c TI x0.2.2)])] (Yd t)
def Qbd:TRow:=Qr 183 [(.b [(.sl [(.int .u8)]),TI,TI])] fun x=>(some (Qj x.1),Yd (QD x.1))
def QiX:List TRow:=[]
def Qjm:TCode :=
 (zsq [(.reg [zmv 2 (zki 0)]),(.reg [zmv 4 0,zmv 5 0,zop 6 (.nilc 5),zfa 7 6 2,zld 8 7 1,zbi 9 .mul 8 (zki 6364136223846793005),zbi 10 .add 9 (zki 1442695040888963407),zop 11 (.nilc 4),zfa 12 11 2,zst 12 10 1]),(.draw [zmv 13 0,zop 14 (.nilc 13),zfa 15 14 2,zld 16 15 1,zbi 17 .shr 16 (.k (.c (.int .u64) (33:Int))),zmv 18 0,zop 19 (.nilc 18),zfa 20 19 2,zld 21 20 1,zbi 22 .shr 21 (.k (.c (.int .u64) (45:Int))),zbi 23 .xor 17 22,zbi 24 .and 23 (zki 255),zmv 3 24] []),(zsq [(.draw [zmv 25 0,zop 26 (.nilc 25),zfa 27 26 1,zld 28 27 1,zmv 29 0,zop 30 (.nilc 29),zfa 31 30 0,zld 32 31 1,zle 33 32,zbi 34 .lss 28 33] []),(.cond 34 (zsq [(.draw [zmv 35 3,zmv 36 0,zop 37 (.nilc 36),zfa 38 37 0,zld 39 38 1,zmv 40 0,zop 41 (.nilc 40),zfa 42 41 1,zld 43 42 1,zia 44 39 43 [(.int .u8)],zld 45 44 1,zop 46 (.conv .i64 45),zbi 47 .add 35 46,zbi 48 .and 47 (zki 255),zmv 3 48] []),(.reg [zmv 49 0,zmv 50 0,zop 51 (.nilc 50),zfa 52 51 1,zld 53 52 1,zbi 54 .add 53 (zki 1),zop 55 (.nilc 49),zfa 56 55 1,zst 56 54 1])]) .skip)]),(.reg [zmv 57 3,zmv 2 57]),.ret])
def Qjp:List (ARv × Md):=[(.t 2,.one .d)]
theorem Qjk (c:((List Int) × Int × Int)) (h :
 let z2:=w64 (c.2.2*(6364136223846793005:Int))
 let z1:=BitVec.ofInt (IntKind.i64.bits) (w64 (((BitVec.ofInt (IntKind.i64.bits) (Int.fdiv (w64 (z2+(1442695040888963407:Int))) (2 ^ (min (Int.toNat (33:Int)) (IntKind.i64.bits)))) ^^^ BitVec.ofInt (IntKind.i64.bits) (Int.fdiv (w64 (z2+(1442695040888963407:Int))) (2 ^ (min (Int.toNat (45:Int)) (IntKind.i64.bits))))).toNat:Int))) &&& BitVec.ofInt (IntKind.i64.bits) (255:Int)
 ((((0:Int)≤(33:Int))∧((0:Int)≤(45:Int)))∧(zif (decide (c.2.1<((c.1).length:Int))) (((0:Int)≤c.2.1∧Int.toNat c.2.1<(c.1).length)∧K (Yd (w64 (((BitVec.ofInt (IntKind.i64.bits) (w64 ((w64 ((z1.toNat:Int)))+(w64 ((gtd (0:Int) c.1 (Int.toNat c.2.1)))))) &&& BitVec.ofInt (IntKind.i64.bits) (255:Int)).toNat:Int)),(c.1,w64 (c.2.1+(1:Int)),w64 (z2+(1442695040888963407:Int)))))) (K (Yd (w64 ((z1.toNat:Int)),(c.1,c.2.1,w64 (z2+(1442695040888963407:Int))))))))):Hold (tawp QiX (1+0) Qjm (TQ 1 0 Qjp K) (Ql [(.bx [(.c (.sl [(.int .u8)]) c.1),(.c TI c.2.1),(.c TI c.2.2)])])) :=
 Hold.of (by kernel_rfl) h
theorem Qet (c:((List Int) × Int × Int)) (hp:Qj c):∃ t:Int × (((List Int) × Int × Int)),(JY c t)∧TCon Try.prog 183 [(.bx [(.c (.sl [(.int .u8)]) c.1),(.c TI c.2.1),(.c TI c.2.2)])] (Yd t):=by
 refine Zj (tcx (n:=58) (sg:=Qbd.sg) Qv TOk.nil (by kernel_rfl) (by kernel_rfl) (Qjk (fun r'=>∃ t,(JY c t)∧r'=Yd t) c ?_))
 conv=>zeta
 have h1:=hp.1
 have h2:=hp.2
 refine ⟨⟨by omega,by omega⟩,fun h=>⟨⟨h1,by simp at h;omega⟩,QK ⟨(JS _).1,(JS _).2,?_,h2⟩⟩,fun h=>(QK ⟨(JS _).1,(JS _).2,h1,h2⟩)⟩
 simp at h
 show 0≤w64 (c.2.1+1)
 rw [QE (by omega) (by omega)];omega
theorem YR (c:((List Int) × Int × Int)) (hp:Qj c):JY c (QD c):=(Classical.epsilon_spec (Qet c hp)).1
theorem QgI (c:((List Int) × Int × Int)) (hp:Qj c):TCon Try.prog 183 [(.bx [(.c (.sl [(.int .u8)]) c.1),(.c TI c.2.1),(.c TI c.2.2)])] (Yd (QD c)):=(Classical.epsilon_spec (Qet c hp)).2
theorem Qh5:Qq Try.prog Qbd:=Qy fun x h=>QgI x.1 h
def Z1 (t:Int × (((List Int) × Int × Int))):TRes:=⟨(zci t.1),[],[[(zcs [(.int .u8)] t.2.1),(zci t.2.2.1),(zci t.2.2.2)]],true,[]⟩
def Qe (x0:((List Int) × Int × Int)) (x1:Int):Int × (((List Int) × Int × Int)):=Classical.epsilon fun t:Int × (((List Int) × Int × Int))=>(Qaa x0 x1 t)∧TCon Try.prog 116 [(.bx [(.c (.sl [(.int .u8)]) x0.1),(.c TI x0.2.1),(.c TI x0.2.2)]),(.c TI x1)] (Z1 t)
def ZV:TRow:=Qr 116 [(.b [(.sl [(.int .u8)]),TI,TI]),(.c TI)] fun x=>(some (QF x.1 x.2.1),Z1 (Qe x.1 x.2.1))
def QgT:List TRow:=[Qbd]
def QgK:TCode :=
 (zsq [(.reg [zmv 4 (zki 0)]),(zsq [(.reg [zmv 9 1,zbi 10 .leq 9 (zki 0)]),(.cond 10 (zsq [(.reg [zmv 4 (zki 0)]),.ret]) .skip)]),(zsq [(.reg [zmv 11 1,zbi 12 .leq 11 (zki 256)]),(.cond 12 (zsq [(.reg [zmv 13 0,zca 14 183 [13],zmv 15 1,zbi 16 .rem 14 15,zmv 4 16]),.ret]) .skip)]),(.reg [zmv 17 0,zca 18 183 [17],zmv 5 18]),(.reg [zmv 19 0,zca 20 183 [19],zmv 6 20]),(.reg [zmv 21 0,zca 22 183 [21],zmv 7 22]),(.reg [zmv 23 0,zca 24 183 [23],zmv 8 24]),(.reg [zmv 25 5,zbi 26 .mul 25 (zki 16777216),zmv 27 6,zbi 28 .mul 27 (zki 65536),zbi 29 .add 26 28,zmv 30 7,zbi 31 .mul 30 (zki 256),zbi 32 .add 29 31,zmv 33 8,zbi 34 .add 32 33,zmv 35 1,zbi 36 .rem 34 35,zmv 4 36]),.ret])
def Qgc:List (ARv × Md):=[(.t 4,.one .d)]
theorem Qgb (c:((List Int) × Int × Int)) (n:Int) (h :
 (zif (decide (n≤(0:Int))) (K (Z1 ((0:Int),c))) (zif (decide (n≤(256:Int))) (((Qj c)∧(¬ (n:Int)=0))∧K (Z1 ((Int.tmod ((QD c).1) n),((QD c).2)))) ((Qj c)∧((Qj ((QD c).2))∧((Qj ((QD ((QD c).2)).2))∧((Qj ((QD ((QD ((QD c).2)).2)).2))∧((¬ (n:Int)=0)∧K (Z1 ((Int.tmod (w64 ((w64 ((w64 ((w64 (((QD c).1)*(16777216:Int)))+(w64 (((QD ((QD c).2)).1)*(65536:Int)))))+(w64 (((QD ((QD ((QD c).2)).2)).1)*(256:Int)))))+((QD ((QD ((QD ((QD c).2)).2)).2)).1))) n),((QD ((QD ((QD ((QD c).2)).2)).2)).2))))))))))):Hold (tawp QgT (1+0) QgK (TQ 1 0 Qgc K) (Ql [(.bx [(.c (.sl [(.int .u8)]) c.1),(.c TI c.2.1),(.c TI c.2.2)]),(.c TI n)])) :=
 Hold.of (by kernel_rfl) h
theorem QeC (c:((List Int) × Int × Int)) (n:Int) (hp:QF c n):∃ t:Int × (((List Int) × Int × Int)),(Qaa c n t)∧TCon Try.prog 116 [(.bx [(.c (.sl [(.int .u8)]) c.1),(.c TI c.2.1),(.c TI c.2.2)]),(.c TI n)] (Z1 t):=by
 refine Zj (tcx (n:=37) (sg:=ZV.sg) Qv (TOk.cons Qh5 TOk.nil) (by kernel_rfl) (by kernel_rfl) (Qgb (fun r'=>∃ t,(Qaa c n t)∧r'=Z1 t) c n ?_))
 refine ⟨fun h=>(QK ⟨Int.le_refl 0,fun h2=>by simp at h;omega,fun _=>rfl,hp⟩),fun h=>⟨fun h2=>?_,fun h2=>?_⟩⟩
 ·have b1:=YR c hp
  simp at h
  exact ⟨⟨hp,by omega⟩,QK ⟨Int.tmod_nonneg _ b1.1,fun h0=>Int.tmod_lt_of_pos _ h0,fun h0=>by omega,b1.2.2⟩⟩
 ·have b1:=YR c hp
  have b2:=YR _ b1.2.2
  have b3:=YR _ b2.2.2
  have b4:=YR _ b3.2.2
  simp at h
  refine ⟨hp,b1.2.2,b2.2.2,b3.2.2,by omega,QK ⟨Int.tmod_nonneg _ ?_,fun h0=>Int.tmod_lt_of_pos _ h0,fun h0=>by omega,b4.2.2⟩⟩
  have h1:=b1.1
  have h2:=b1.2.1
  have h3:=b2.1
  have h4:=b2.2.1
  have h5:=b3.1
  have h6:=b3.2.1
  have h7:=b4.1
  have h8:=b4.2.1
  clear b1 b2 b3 b4
  rw [QE (x:=_*16777216) (by omega) (by omega),QE (x:=_*65536) (by omega) (by omega),QE (x:=_*256) (by omega) (by omega)]
  rw [QE (x:=_*16777216+_) (by omega) (by omega),QE (x:=_+_*256) (by omega) (by omega),QE (by omega) (by omega)]
  omega
theorem QW (c:((List Int) × Int × Int)) (n:Int) (hp:QF c n):Qaa c n (Qe c n):=(Classical.epsilon_spec (QeC c n hp)).1
theorem QkO (c:((List Int) × Int × Int)) (n:Int) (hp:QF c n):TCon Try.prog 116 [(.bx [(.c (.sl [(.int .u8)]) c.1),(.c TI c.2.1),(.c TI c.2.2)]),(.c TI n)] (Z1 (Qe c n)):=(Classical.epsilon_spec (QeC c n hp)).2
theorem YM:Qq Try.prog ZV:=Qy fun x h=>QkO x.1 x.2.1 h
def Yr (t:Bool × (((List Int) × Int × Int))):TRes:=⟨(zcb t.1),[],[[(zcs [(.int .u8)] t.2.1),(zci t.2.2.1),(zci t.2.2.2)]],true,[]⟩
def Zn (x0:((List Int) × Int × Int)) (x1:Int):Bool × (((List Int) × Int × Int)):=Classical.epsilon fun t:Bool × (((List Int) × Int × Int))=>(Qam x0 x1 t)∧TCon Try.prog 136 [(.bx [(.c (.sl [(.int .u8)]) x0.1),(.c TI x0.2.1),(.c TI x0.2.2)]),(.c TI x1)] (Yr t)
def Qbn:TRow:=Qr 136 [(.b [(.sl [(.int .u8)]),TI,TI]),(.c TI)] fun x=>(some (QF x.1 x.2.1),Yr (Zn x.1 x.2.1))
def Qkn:List TRow:=[ZV]
def Qgq:TCode :=
 (zsq [(.reg [zmv 4 (zkb false)]),(.reg [zmv 5 0,zmv 6 1,zca 7 116 [5,6],zbi 8 .eql 7 (zki 0),zmv 4 8]),.ret])
def QjD:List (ARv × Md):=[(.t 4,.one .d)]
theorem QjJ (c:((List Int) × Int × Int)) (n:Int) (h :
 ((QF c n)∧K (Yr ((((Qe c n).1)==(0:Int)),((Qe c n).2))))):Hold (tawp Qkn (1+0) Qgq (TQ 1 0 QjD K) (Ql [(.bx [(.c (.sl [(.int .u8)]) c.1),(.c TI c.2.1),(.c TI c.2.2)]),(.c TI n)])) :=
 Hold.of (by kernel_rfl) h
theorem QcU (c:((List Int) × Int × Int)) (n:Int) (hp:QF c n):∃ t:Bool × (((List Int) × Int × Int)),(Qam c n t)∧TCon Try.prog 136 [(.bx [(.c (.sl [(.int .u8)]) c.1),(.c TI c.2.1),(.c TI c.2.2)]),(.c TI n)] (Yr t):=by
 refine Zj (tcx (n:=9) (sg:=Qbn.sg) Qv (TOk.cons YM TOk.nil) (by kernel_rfl) (by kernel_rfl) (QjJ (fun r'=>∃ t,(Qam c n t)∧r'=Yr t) c n ?_))
 exact ⟨hp,QK ((QW c n hp).2.2.2)⟩
theorem QkQ (c:((List Int) × Int × Int)) (n:Int) (hp:QF c n):Qam c n (Zn c n):=(Classical.epsilon_spec (QcU c n hp)).1
theorem Qhk (c:((List Int) × Int × Int)) (n:Int) (hp:QF c n):TCon Try.prog 136 [(.bx [(.c (.sl [(.int .u8)]) c.1),(.c TI c.2.1),(.c TI c.2.2)]),(.c TI n)] (Yr (Zn c n)):=(Classical.epsilon_spec (QcU c n hp)).2
theorem Qi1:Qq Try.prog Qbn:=Qy fun x h=>Qhk x.1 x.2.1 h
def YN (t:Int × (((List Int) × Int × Int))):TRes:=⟨(zci t.1),[],[[(zcs [(.int .u8)] t.2.1),(zci t.2.2.1),(zci t.2.2.2)]],true,[]⟩
def QG (x0:((List Int) × Int × Int)) (x1:List Int):Int × (((List Int) × Int × Int)):=Classical.epsilon fun t:Int × (((List Int) × Int × Int))=>(Qat x0 x1 t)∧TCon Try.prog 182 [(.bx [(.c (.sl [(.int .u8)]) x0.1),(.c TI x0.2.1),(.c TI x0.2.2)]),(.c (.sl [TI]) x1)] (YN t)
def YC:TRow:=Qr 182 [(.b [(.sl [(.int .u8)]),TI,TI]),(.c (.sl [TI]))] fun x=>(some (QY x.1 x.2.1),YN (QG x.1 x.2.1))
def Qg8:List TRow:=[ZV]
def Qgf:TCode :=
 (zsq [(.reg [zmv 4 (zki 0)]),(.reg [zmv 5 1,zmv 6 0,zmv 7 1,zle 8 7,zca 9 116 [6,8],zia 10 5 9 [TI],zld 11 10 1,zmv 4 11]),.ret])
def Qj8:List (ARv × Md):=[(.t 4,.one .d)]
theorem QiE (c:((List Int) × Int × Int)) (list:List Int) (h :
 (((QF c (list.length:Int))∧((0:Int)≤(Qe c (list.length:Int)).1∧Int.toNat ((Qe c (list.length:Int)).1)<list.length))∧K (YN ((gtd (0:Int) list (Int.toNat ((Qe c (list.length:Int)).1))),((Qe c (list.length:Int)).2))))):Hold (tawp Qg8 (1+0) Qgf (TQ 1 0 Qj8 K) (Ql [(.bx [(.c (.sl [(.int .u8)]) c.1),(.c TI c.2.1),(.c TI c.2.2)]),(.c (.sl [TI]) list)])) :=
 Hold.of (by kernel_rfl) h
theorem QcF (c:((List Int) × Int × Int)) (list:List Int) (hp:QY c list):∃ t:Int × (((List Int) × Int × Int)),(Qat c list t)∧TCon Try.prog 182 [(.bx [(.c (.sl [(.int .u8)]) c.1),(.c TI c.2.1),(.c TI c.2.2)]),(.c (.sl [TI]) list)] (YN t):=by
 refine Zj (tcx (n:=12) (sg:=YC.sg) Qv (TOk.cons YM TOk.nil) (by kernel_rfl) (by kernel_rfl) (QiE (fun r'=>∃ t,(Qat c list t)∧r'=YN t) c list ?_))
 have b:=QW c list.length hp.1
 have h1:=hp.2.1
 have h2:=b.2.1 (by omega)
 have h3:=b.1
 exact ⟨⟨hp.1,h3,by omega⟩,QK ⟨QcM (by omega) _,b.2.2.2⟩⟩
theorem YY (c:((List Int) × Int × Int)) (list:List Int) (hp:QY c list):Qat c list (QG c list):=(Classical.epsilon_spec (QcF c list hp)).1
theorem Qhu (c:((List Int) × Int × Int)) (list:List Int) (hp:QY c list):TCon Try.prog 182 [(.bx [(.c (.sl [(.int .u8)]) c.1),(.c TI c.2.1),(.c TI c.2.2)]),(.c (.sl [TI]) list)] (YN (QG c list)):=(Classical.epsilon_spec (QcF c list hp)).2
theorem Qad:Qq Try.prog YC:=Qy fun x h=>Qhu x.1 x.2.1 h
def Qbt (t:Bool):TRes:=zre (zcb t)
def QbV:TRow:=Qr 26 [(.c (.sl [(.int .u8)]))] fun x=>(none,Qbt (Jc x.1))
def QjW:List TRow:=[]
def Qkr:TCode :=
 (zsq [(.reg [zmv 2 (zkb false)]),(.reg [zmv 3 0,zle 4 3,zbi 5 .gtr 4 (zki 1048576),zmv 2 5]),.ret])
def QiF:List (ARv × Md):=[(.t 2,.one .d)]
theorem Qih (code:List Int) (h :
 K (Qbt (decide ((code.length:Int)>(1048576:Int))))):Hold (tawp QjW (0+0) Qkr (TQ 0 0 QiF K) (Ql [(.c (.sl [(.int .u8)]) code)])) :=
 Hold.of (by kernel_rfl) h
theorem Qiu (code:List Int):TCon Try.prog 26 [(.c (.sl [(.int .u8)]) code)] (Qbt (Jc code)):=by
 refine QN rfl fun hb=>tcg (n:=6) (sg:=QbV.sg) Qv TOk.nil (by kernel_rfl) (by kernel_rfl) (Qih _ code ?_)
 have hl_code:code.length≤9223372036854775807:=hb.1.1
 exact R_eq rfl
theorem Qis:Qq Try.prog QbV:=Qy fun x _=>Qiu x.1
def ZP (t:Bool):TRes:=zre (zcb t)
def QaA:TRow:=Qr 33 [(.c (.sl [TI])),(.c (.sl [TI]))] fun x=>(none,ZP (m_eq (α:=List Int) x.1 x.2.1))
def Qb4:List TRow:=[]
def Qe0:TCode :=
 (zsq [(zsq [(.reg [zmv 11 5,zmv 12 0,zle 13 12,zbi 14 .lss 11 13]),(.cond 14 .skip (.exit 0))]),(.block 1 (zsq [(.draw [zmv 17 0,zmv 18 5,zia 19 17 18 [TI],zld 20 19 1,zmv 21 1,zmv 22 5,zia 23 21 22 [TI],zld 24 23 1,zbi 25 .neq 20 24] []),(.cond 25 (zsq [(.reg [zmv 4 (zkb false)]),.ret]) .skip)])),(.reg [zmv 15 5,zbi 16 .add 15 (zki 1),zmv 5 16])])
def Qe4:List (Nat × Md):=zdl [0,1,5]
def Qfo:TCode :=
 (zsq [(.reg [zmv 4 (zkb true)]),.ret])
def QhZ:TCode :=
 (zsq [(.reg [zmv 4 (zkb false)]),(zsq [(.reg [zmv 6 0,zle 7 6,zmv 8 1,zle 9 8,zbi 10 .neq 7 9]),(.cond 10 (zsq [(.reg [zmv 4 (zkb false)]),.ret]) .skip)]),(zsq [(.reg [zmv 5 (zki 0)]),(.block 0 (.loop Qe4 Qe0))]),Qfo])
def Qer:List (ARv × Md):=[(.t 4,.one .d)]
def QfM:Qi:=TQ 0 0 Qer K
def QgM:Qi:=Qseq (tawp Qb4 0 Qfo (QfM K)) (QfM K)
def QjH:Qi:=Qblk 0 (QgM K)
def QaU (a:List Int) (b:List Int) (i:Int):Prop:=Loop Qb4 0 Qe4 Qe0 (QjH K) ⟨[(0,(zcs [TI] a)),(1,(zcs [TI] b)),(5,(zci i))],[],0⟩
theorem QjO (a:List Int) (b:List Int) (i:Int) (h :
 (zif (decide (i<(a.length:Int))) ((((0:Int)≤i∧Int.toNat i<a.length)∧((0:Int)≤i∧Int.toNat i<b.length))∧(zif ((gtd (0:Int) a (Int.toNat i)) != (gtd (0:Int) b (Int.toNat i))) (K (ZP false)) (QaU K a b (w64 (i+(1:Int)))))) (K (ZP true)))):QaU K a b i :=
 Loop.of (by kernel_rfl) h
theorem Qf9 (a:List Int) (b:List Int) (h :
 (zif ((a.length:Int) != (b.length:Int)) (K (ZP false)) (QaU K a b 0))):Hold (tawp Qb4 (0+0) QhZ (TQ 0 0 Qer K) (Ql [(.c (.sl [TI]) a),(.c (.sl [TI]) b)])) :=
 Hold.of (by kernel_rfl) h
theorem QfX (a:List Int) (b:List Int):TCon Try.prog 33 [(.c (.sl [TI]) a),(.c (.sl [TI]) b)] (ZP (m_eq (α:=List Int) a b)):=by
 refine QN rfl fun hb=>tcg (n:=26) (sg:=QaA.sg) Qv TOk.nil (by kernel_rfl) (by kernel_rfl) (Qf9 _ a b ?_)
 have hl_a:a.length≤9223372036854775807:=hb.1.1
 have hl_b:b.length≤9223372036854775807:=hb.2.1.1
 exact Qge hb.1.1 (fun i h=>QjO (fun r'=>r'=ZP (m_eq (α:=List Int) a b)) a b i h) (Q:=fun x=>ZP x=ZP (m_eq (α:=List Int) a b)) rfl
theorem QkU:Qq Try.prog QaA:=Qy fun x _=>QfX x.1 x.2.1
end
end Go.Proofs.Ytephkbajoofeoaa.Am

