/- -/
import Derived.Test.YtephkbajoofeoaaYAD1
import Derived.Test.YtephkbajoofeoaaYAPL
namespace Go.Proofs.Ytephkbajoofeoaa.Am
open Go Go.RowKit Go.Proofs.Ytephkbajoofeoaa
set_option linter.all false
set_option maxHeartbeats 2000000
noncomputable section
variable (K:TRes→Prop)
def Z6 (t:Int × Int × Int × Int × Bool × (((List Int) × Int × Int))):TRes:=⟨(.tp [(zci t.1),(zci t.2.1),(zci t.2.2.1),(zci t.2.2.2.1),(zcb t.2.2.2.2.1)]),[],[[(zcs [(.int .u8)] t.2.2.2.2.2.1),(zci t.2.2.2.2.2.2.1),(zci t.2.2.2.2.2.2.2)]],true,[]⟩
def QR (x0:((List Int) × Int × Int)):Int × Int × Int × Int × Bool × (((List Int) × Int × Int)):=Classical.epsilon fun t:Int × Int × Int × Int × Bool × (((List Int) × Int × Int))=>(YB x0 t)∧TCon Try.prog 135 [(.bx [(.c (.sl [(.int .u8)]) x0.1),(.c TI x0.2.1),(.c TI x0.2.2)])] (Z6 t)
def JQ:TRow:=Qy 135 [(.b [(.sl [(.int .u8)]),TI,TI])] fun x=>(some (QE x.1),Z6 (QR x.1))
def Qd4:List TRow:=[Yw,Qac,QbZ]
def Qe3:TCode :=
 (zsq [(.reg [zmv 49 7,zmv 50 8,zmv 51 9,zmv 52 10,zmv 53 11,zmv 2 49,zmv 3 50,zmv 4 51,zmv 5 52,zmv 6 53]),.ret])
def Qiz:List (Nat × Md):=zdl [7,8,9,10,11]
def Qks:TCode:=.wk Qiz Qe3
def QlY:TCode :=
 (zsq [(.reg [zmv 2 (zki 0),zmv 3 (zki 0),zmv 4 (zki 0),zmv 5 (zki 0),zmv 6 (zkb false)]),(.reg [zmv 12 0,zca 13 116 [12,(zki 2)],zbi 14 .add (zki 1) 13,zmv 7 14]),(.reg [zmv 15 0,zca 16 116 [15,(zki 4)],zbi 17 .add (zki 1) 16,zmv 8 17]),(.reg [zmv 18 0,zmv 19 8,zca 20 116 [18,19],zmv 9 20]),(.reg [zmv 21 0,zca 22 116 [21,(zki 5)],zbi 23 .add (zki 1) 22,zmv 10 23]),(.reg [zmv 24 0,zca 25 136 [24,(zki 2)],zmv 11 25]),(zsq [(.reg [zmv 26 0,zca 27 116 [26,(zki 16)]]),(.block 0 (zsq [(.reg [zbi 29 .eql 27 (zki 0),zmv 28 29]),(.cond 28 (.reg [zmv 30 0,zop 31 (.bsl 3 [TI] [(zki 0),(zki 3)]),zca 32 182 [30,31],zmv 7 32]) (zsq [(.reg [zbi 34 .eql 27 (zki 1),zmv 33 34]),(.cond 33 (.reg [zmv 35 0,zop 36 (.bsl 3 [TI] [(zki 0),(zki 5)]),zca 37 182 [35,36],zmv 8 37]) (zsq [(.reg [zbi 39 .eql 27 (zki 2),zmv 38 39]),(.cond 38 (.reg [zmv 40 0,zmv 41 8,zop 42 (.bsl 3 [TI] [(zki (-1)),41]),zca 43 182 [40,42],zmv 9 43]) (zsq [(.reg [zbi 45 .eql 27 (zki 3),zmv 44 45]),(.cond 44 (.reg [zmv 46 0,zop 47 (.bsl 3 [TI] [(zki 0),(zki 6)]),zca 48 182 [46,47],zmv 10 48]) .skip)]))]))]))]))]),Qks])
def QeA:List (ARv × Md):=[(.t 2,.one .d),(.t 3,.one .d),(.t 4,.one .d),(.t 5,.one .d),(.t 6,.one .d)]
def Qg9:Qd:=TQ 1 0 QeA K
@[irreducible] def Ys (c:((List Int) × Int × Int)) (ds:Int) (st:Int) (s:Int) (m:Int) (y:List Int) (y1:Int) (y2:Int):Prop:=tawp Qd4 1 Qe3 (Qg9 K) ⟨[(7,(zci ds)),(8,(zci st)),(9,(zci s)),(10,(zci m)),(11,(zcb ((Zx ((Qq ((Qq ((Qq ((Qq c (2:Int)).2) (4:Int)).2) (w64 ((1:Int)+((Qq ((Qq c (2:Int)).2) (4:Int)).1)))).2) (5:Int)).2) (2:Int)).1)))],[(0,(.box [(zcs [(.int .u8)] y),(zci y1),(zci y2)]))],1⟩
theorem Qkl (c:((List Int) × Int × Int)) (ds:Int) (st:Int) (s:Int) (m:Int) (y:List Int) (y1:Int) (y2:Int) (h :
 K (Z6 (ds,st,s,m,(Zx ((Qq ((Qq ((Qq ((Qq c (2:Int)).2) (4:Int)).2) (w64 ((1:Int)+((Qq ((Qq c (2:Int)).2) (4:Int)).1)))).2) (5:Int)).2) (2:Int)).1,(y,y1,y2)))):Hold (Ys K c ds st s m y y1 y2) :=
 Hold.of (by kernel_rfl) h
theorem Qky (c:((List Int) × Int × Int)) (h :
 let z2:=Qq ((Qq c (2:Int)).2) (4:Int)
 let z5:=w64 ((1:Int)+((Qq c (2:Int)).1))
 let z6:=w64 ((1:Int)+(z2.1))
 let z3:=Qq (z2.2) z6
 let z7:=Qq (z3.2) (5:Int)
 let z1:=Qq ((Zx (z7.2) (2:Int)).2) (16:Int)
 let z4:=w64 ((1:Int)+(z7.1))
 ((QQ c (2:Int))∧((QQ ((Qq c (2:Int)).2) (4:Int))∧((QQ (z2.2) z6)∧((QQ (z3.2) (5:Int))∧((QQ (z7.2) (2:Int))∧((QQ ((Zx (z7.2) (2:Int)).2) (16:Int))∧(zif ((z1.1)==(0:Int)) ((ZA (z1.2) ([(0:Int),(3:Int)]))∧(Ys K c ((QG (z1.2) ([(0:Int),(3:Int)])).1) z6 (z3.1) z4 (((QG (z1.2) ([(0:Int),(3:Int)])).2).1) (((QG (z1.2) ([(0:Int),(3:Int)])).2).2.1) (((QG (z1.2) ([(0:Int),(3:Int)])).2).2.2))) (zif ((z1.1)==(1:Int)) ((ZA (z1.2) ([(0:Int),(5:Int)]))∧(Ys K c z5 ((QG (z1.2) ([(0:Int),(5:Int)])).1) (z3.1) z4 (((QG (z1.2) ([(0:Int),(5:Int)])).2).1) (((QG (z1.2) ([(0:Int),(5:Int)])).2).2.1) (((QG (z1.2) ([(0:Int),(5:Int)])).2).2.2))) (zif ((z1.1)==(2:Int)) ((ZA (z1.2) ([(-1:Int),w64 ((1:Int)+(z2.1))]))∧(Ys K c z5 z6 ((QG (z1.2) ([(-1:Int),w64 ((1:Int)+(z2.1))])).1) z4 (((QG (z1.2) ([(-1:Int),w64 ((1:Int)+(z2.1))])).2).1) (((QG (z1.2) ([(-1:Int),w64 ((1:Int)+(z2.1))])).2).2.1) (((QG (z1.2) ([(-1:Int),w64 ((1:Int)+(z2.1))])).2).2.2))) (zif ((z1.1)==(3:Int)) ((ZA (z1.2) ([(0:Int),(6:Int)]))∧(Ys K c z5 z6 (z3.1) ((QG (z1.2) ([(0:Int),(6:Int)])).1) (((QG (z1.2) ([(0:Int),(6:Int)])).2).1) (((QG (z1.2) ([(0:Int),(6:Int)])).2).2.1) (((QG (z1.2) ([(0:Int),(6:Int)])).2).2.2))) (Ys K c z5 z6 (z3.1) z4 ((z1.2).1) ((z1.2).2.1) ((z1.2).2.2))))))))))))):Hold (tawp Qd4 (1+0) QlY (TQ 1 0 QeA K) (Qn [(.bx [(.c (.sl [(.int .u8)]) c.1),(.c TI c.2.1),(.c TI c.2.2)])])) :=
 Hold.of (by kernel_rfl) h
theorem Qgz (c:((List Int) × Int × Int)) (hp:QE c):∃ t:Int × Int × Int × Int × Bool × (((List Int) × Int × Int)),(YB c t)∧TCon Try.prog 135 [(.bx [(.c (.sl [(.int .u8)]) c.1),(.c TI c.2.1),(.c TI c.2.2)])] (Z6 t):=by
 refine ZP (tcx (n:=54) (sg:=JQ.sg) QC (TOk.cons JZ (TOk.cons Qe9 (TOk.cons QiN TOk.nil))) (by kernel_rfl) (by kernel_rfl) (Qky (fun r'=>∃ t,(YB c t)∧r'=Z6 t) c ?_))
 conv=>zeta
 have key:∀ (ds st s m:Int) (t:TCur),QE t→Ys (fun r'=>∃ t,(YB c t)∧r'=Z6 t) c ds st s m t.1 t.2.1 t.2.2:=fun ds st s m t h=>(Qkl (fun r'=>∃ t,(YB c t)∧r'=Z6 t) c ds st s m t.1 t.2.1 t.2.2 (Zo h)).h
 have b1:=(Z1 c 2 hp).2.2.2
 generalize Qq c 2=r1 at b1 key ⊢
 have b2:=(Z1 r1.2 4 b1).2.2.2
 generalize Qq r1.2 4=r2 at b2 key ⊢
 have b3:=(Z1 r2.2 (w64 (1+r2.1)) b2).2.2.2
 generalize Qq r2.2 (w64 (1+r2.1))=r3 at b3 key ⊢
 have b4:=(Z1 r3.2 5 b3).2.2.2
 generalize Qq r3.2 5=r4 at b4 key ⊢
 have b5:=QdS r4.2 2 b4
 generalize Zx r4.2 2=r5 at b5 key ⊢
 have b6:=(Z1 r5.2 16 b5).2.2.2
 generalize Qq r5.2 16=r6 at b6 key ⊢
 have hpk:∀ l:List Int,1≤l.length→l.length≤100→ZA r6.2 l:=fun l h1 h2=>⟨b6,h1,h2⟩
 have hpc:∀ l:List Int,1≤l.length→l.length≤100→QE (QG r6.2 l).2:=fun l h1 h2=>(QlE r6.2 l ⟨b6,h1,h2⟩).2
 refine ⟨hp,b1,b2,b3,b4,b5,?_⟩
 refine ⟨fun _=>⟨hpk _ (by simp) (by simp),?_⟩,fun _=>?_⟩
 ·exact key _ _ _ _ (QG r6.2 [0,3]).2 (hpc _ (by simp) (by simp))
 refine ⟨fun _=>⟨hpk _ (by simp) (by simp),?_⟩,fun _=>?_⟩
 ·exact key _ _ _ _ (QG r6.2 [0,5]).2 (hpc _ (by simp) (by simp))
 refine ⟨fun _=>⟨hpk _ (by simp) (by simp),?_⟩,fun _=>?_⟩
 ·exact key _ _ _ _ (QG r6.2 [-1,w64 (1+r2.1)]).2 (hpc _ (by simp) (by simp))
 refine ⟨fun _=>⟨hpk _ (by simp) (by simp),?_⟩,fun _=>?_⟩
 ·exact key _ _ _ _ (QG r6.2 [0,6]).2 (hpc _ (by simp) (by simp))
 exact key _ _ _ _ r6.2 b6
theorem QjO (c:((List Int) × Int × Int)) (hp:QE c):YB c (QR c):=(Classical.epsilon_spec (Qgz c hp)).1
theorem Qju (c:((List Int) × Int × Int)) (hp:QE c):TCon Try.prog 135 [(.bx [(.c (.sl [(.int .u8)]) c.1),(.c TI c.2.1),(.c TI c.2.2)])] (Z6 (QR c)):=(Classical.epsilon_spec (Qgz c hp)).2
theorem Qgk:Qx Try.prog JQ:=QD fun x h=>Qju x.1 h
def YV (t:Int × Int × Int × Int × Bool):TRes:=zre (.tp [(zci t.1),(zci t.2.1),(zci t.2.2.1),(zci t.2.2.2.1),(zcb t.2.2.2.2)])
def QB (x0:List Int):Int × Int × Int × Int × Bool:=Classical.epsilon fun t:Int × Int × Int × Int × Bool=>(Qcf x0 t)∧TCon Try.prog 53 [(.c (.sl [(.int .u8)]) x0)] (YV t)
def Qbl:TRow:=Qy 53 [(.c (.sl [(.int .u8)]))] fun x=>(some (QU x.1),YV (QB x.1))
def Qg6:List TRow:=[JS,JQ]
def Qhw:TCode :=
 (zsq [(.reg [zmv 2 (zki 0),zmv 3 (zki 0),zmv 4 (zki 0),zmv 5 (zki 0),zmv 6 (zkb false)]),(.reg [zmv 7 0,zca 8 114 [7],zca 9 135 [8],zex 10 9 0,zex 11 9 1,zex 12 9 2,zex 13 9 3,zex 14 9 4,zmv 2 10,zmv 3 11,zmv 4 12,zmv 5 13,zmv 6 14]),.ret])
def Qlf:List (ARv × Md):=[(.t 2,.one .d),(.t 3,.one .d),(.t 4,.one .d),(.t 5,.one .d),(.t 6,.one .d)]
theorem Qit (code:List Int) (h :
 (((QU code)∧(QE (QL code)))∧K (YV ((QR (QL code)).1,(QR (QL code)).2.1,(QR (QL code)).2.2.1,(QR (QL code)).2.2.2.1,(QR (QL code)).2.2.2.2.1)))):Hold (tawp Qg6 (0+0) Qhw (TQ 0 0 Qlf K) (Qn [(.c (.sl [(.int .u8)]) code)])) :=
 Hold.of (by kernel_rfl) h
theorem QiZ (code:List Int) (hp:QU code):∃ t:Int × Int × Int × Int × Bool,(Qcf code t)∧TCon Try.prog 53 [(.c (.sl [(.int .u8)]) code)] (YV t):=by
 refine ZP (tcx (n:=15) (sg:=Qbl.sg) QC (TOk.cons Qgd (TOk.cons Qgk TOk.nil)) (by kernel_rfl) (by kernel_rfl) (Qit (fun r'=>∃ t,(Qcf code t)∧r'=YV t) code ?_))
 exact ⟨⟨hp,Qc2 code hp⟩,Zo (trivial)⟩
theorem QhL (code:List Int) (hp:QU code):TCon Try.prog 53 [(.c (.sl [(.int .u8)]) code)] (YV (QB code)):=(Classical.epsilon_spec (QiZ code hp)).2
theorem Qkt:Qx Try.prog Qbl:=QD fun x h=>QhL x.1 h
def Z0 (t:(List TIns) × Int × Int × Int × Bool):TRes:=zra (.tp [(zcs Qb t.1),(zci t.2.1),(zci t.2.2.1),(zci t.2.2.2.1),(zcb t.2.2.2.2)])
def QcF (x0:List Int):(List TIns) × Int × Int × Int × Bool:=Classical.epsilon fun t:(List TIns) × Int × Int × Int × Bool=>(Jc x0 t)∧TCon Try.prog 55 [(.c (.sl [(.int .u8)]) x0)] (Z0 t)
def Qb8:TRow:=Qy 55 [(.c (.sl [(.int .u8)]))] fun x=>(some (QU x.1),Z0 (QcF x.1))
def Qge:List TRow:=[JS,JQ,QbG,Qac,Yw]
def Qdt:TCode :=
 (zsq [(.reg [zmv 61 13,zmv 62 9,zmv 63 10,zmv 64 11,zmv 65 12,zmv 2 61,zmv 3 62,zmv 4 63,zmv 5 64,zmv 6 65]),.ret])
def Qll:List (Nat × Md):=[(9,.one .d),(10,.one .d),(11,.one .d),(12,.one .d),(13,.one .f)]
def Qi3:TCode:=.wk Qll Qdt
def QiC:TCode :=
 (zsq [(.reg [zmv 2 (.k (.n Qb)),zmv 3 (zki 0),zmv 4 (zki 0),zmv 5 (zki 0),zmv 6 (zkb false)]),(.reg [zmv 16 0,zca 17 114 [16],zmv 7 17]),(.reg [zmv 19 7,zca 20 135 [19],zmv 18 20,zex 21 18 0,zex 22 18 1,zex 23 18 2,zex 24 18 3,zex 25 18 4,zmv 8 21,zmv 9 22,zmv 10 23,zmv 11 24,zmv 12 25]),(.reg [zmv 26 8,zmv 27 9,zmv 28 10,zmv 29 11,zmv 30 12,zca 31 17 [26,27,28,29,30],zmv 13 31]),(zsq [(.reg [zmv 32 13,zle 33 32,zbi 34 .gtr 33 (zki 2),zmv 35 34,.gw 35 true [zmv 36 7] 37 (.call 136 [36,(zki 3)]) 38 37]),(.cond 38 (zsq [(.reg [zmv 39 7,zmv 40 13,zle 41 40,zbi 42 .sub 41 (zki 1),zca 43 116 [39,42],zmv 14 43]),(.reg [zmv 44 13,zmv 45 14,zia 46 44 45 Qb,zLd 47 46 2,zop 15 (.new 151 (z0s Qb)),zst 15 47 2]),(.reg [zmv 48 13,zmv 49 14,zmv 50 13,zmv 51 14,zbi 52 .add 51 (zki 1),zia 53 50 52 Qb,zLd 54 53 2,zia 55 48 49 Qb,zst 55 54 2]),(.reg [zmv 56 13,zmv 57 14,zbi 58 .add 57 (zki 1),zLd 59 15 2,zia 60 56 58 Qb,zst 60 59 2])]) .skip)]),Qi3])
def QfL:List (ARv × Md):=[(.t 2,.one .d),(.t 3,.one .d),(.t 4,.one .d),(.t 5,.one .d),(.t 6,.one .d)]
def Qla:Qd:=TQ 0 0 QfL K
@[irreducible] def J5 (code:List Int) (l:List TIns):Prop:=tawp Qge 0 Qdt (Qla K) ⟨[(9,(zci ((QR (QL code)).2.1))),(10,(zci ((QR (QL code)).2.2.1))),(11,(zci ((QR (QL code)).2.2.2.1))),(12,(zcb ((QR (QL code)).2.2.2.2.1))),(13,(.r Qb 0 0 l.length))],[(0,(.sl 151 Qb true l))],1⟩
theorem Qkp (code:List Int) (l:List TIns) (h :
 K (Z0 ((List.take l.length (List.drop 0 l)),(QR (QL code)).2.1,(QR (QL code)).2.2.1,(QR (QL code)).2.2.2.1,(QR (QL code)).2.2.2.2.1))):Hold (J5 K code l) :=
 Hold.of (by kernel_rfl) h
theorem Qi5 (code:List Int) (h :
 let z3:=QR (QL code)
 let z2:=Qs (z3.1) (z3.2.1) (z3.2.2.1) (z3.2.2.2.1) (z3.2.2.2.2.1)
 let z4:=Zx (z3.2.2.2.2.2) (3:Int)
 let z6:=cond (decide (((z2.length:Nat):Int)>(2:Int))) ((z4.2).2.1) ((z3.2.2.2.2.2).2.1)
 let z7:=cond (decide (((z2.length:Nat):Int)>(2:Int))) ((z4.2).2.2) ((z3.2.2.2.2.2).2.2)
 let z8:=cond (decide (((z2.length:Nat):Int)>(2:Int))) ((z4.2).1) ((z3.2.2.2.2.2).1)
 let z11:=w64 (((z2.length:Nat):Int)-(1:Int))
 let z1:=Qq (z8,z6,z7) z11
 let z9:=Int.toNat (z1.1)
 let z10:=w64 ((z1.1)+(1:Int))
 let z5:=Int.toNat z10
 ((QU code)∧((QE (QL code))∧(((decide (((z2.length:Nat):Int)>(2:Int)))=true→(QQ (z3.2.2.2.2.2) (3:Int)))∧(zif ((decide (((z2.length:Nat):Int)>(2:Int)))&&(z4.1)) ((QQ (z8,z6,z7) z11)∧((((0:Int)≤z1.1∧Int.toNat (z1.1)<z2.length)∧((0+z9)<z2.length))∧((((0:Int)≤w64 ((z1.1)+(1:Int))∧Int.toNat z10<z2.length)∧(((0+z5)<z2.length)∧(((0:Int)≤z1.1∧Int.toNat (z1.1)<z2.length)∧((0+z9)<z2.length))))∧((((0:Int)≤w64 ((z1.1)+(1:Int))∧Int.toNat z10<z2.length)∧((0+z5)<((z2).set (0+z9) (gtd dIns z2 (0+z5))).length))∧(J5 K code (List.take (z2.length) (((z2).set (0+z9) (gtd dIns z2 (0+z5))).set (0+z5) (gtd dIns z2 (0+z9))))))))) (J5 K code (List.take (z2.length) z2))))))):Hold (tawp Qge (0+0) QiC (TQ 0 0 QfL K) (Qn [(.c (.sl [(.int .u8)]) code)])) :=
 Hold.of (by kernel_rfl) h
theorem QlV (code:List Int) (hp:QU code):∃ t:(List TIns) × Int × Int × Int × Bool,(Jc code t)∧TCon Try.prog 55 [(.c (.sl [(.int .u8)]) code)] (Z0 t):=by
 refine ZP (tcx (n:=66) (sg:=Qb8.sg) QC (TOk.cons Qgd (TOk.cons Qgk (TOk.cons QiY (TOk.cons Qe9 (TOk.cons JZ TOk.nil))))) (by kernel_rfl) (by kernel_rfl) (Qi5 (fun r'=>∃ t,(Jc code t)∧r'=Z0 t) code ?_))
 conv=>zeta
 have key:∀ l,J5 (fun r'=>∃ t,(Jc code t)∧r'=Z0 t) code l:=fun l=>(Qkp (fun r'=>∃ t,(Jc code t)∧r'=Z0 t) code l (Zo (trivial))).h
 have hc:=Qc2 code hp
 have hs:=QjO _ hc
 generalize QR (QL code)=r at hs key ⊢
 have hl:=Qh4 r.1 r.2.1 r.2.2.1 r.2.2.2.1 r.2.2.2.2.1
 generalize Qs r.1 r.2.1 r.2.2.1 r.2.2.2.1 r.2.2.2.2.1=l at hl ⊢
 refine ⟨hp,hc,fun _=>hs,fun h=>?_,fun _=>key _⟩
 simp only [Bool.and_eq_true] at h
 rw [h.1]
 have eta3:∀ t:TCur,(t.1,t.2.1,t.2.2)=t:=fun _=>rfl
 simp only [cond_true,eta3]
 have h1:(l.length:Int)>2:=of_decide_eq_true h.1
 have h2:=QdS r.2.2.2.2.2 3 hs
 have b:=Z1 (Zx r.2.2.2.2.2 3).2 (w64 (l.length-1)) h2
 have b1:=b.1
 rw [Qk (x:=(l.length:Int)-1) (by omega) (by omega)] at b b1 ⊢
 have b2:=b.2.1 (by omega)
 refine ⟨h2,?_⟩
 rw [Qk (x:=_+1) (by omega) (by omega)]
 refine ⟨?_,?_,?_,key _⟩ <;> ((try simp only [List.length_set]);omega)
theorem QjA (code:List Int) (hp:QU code):TCon Try.prog 55 [(.c (.sl [(.int .u8)]) code)] (Z0 (QcF code)):=(Classical.epsilon_spec (QlV code hp)).2
theorem Qia:Qx Try.prog Qb8:=QD fun x h=>QjA x.1 h
end
end Go.Proofs.Ytephkbajoofeoaa.Am

