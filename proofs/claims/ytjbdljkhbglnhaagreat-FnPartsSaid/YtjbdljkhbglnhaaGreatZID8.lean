/- -/
import Derived.Test.YtjbdljkhbglnhaaGreatZID6
import Derived.Test.YtjbdljkhbglnhaaGreatZIPQ
import Derived.Test.YtjbdljkhbglnhaaGreatZID1
import Derived.Test.YtjbdljkhbglnhaaGreatZID2
import Derived.Test.YtjbdljkhbglnhaaGreatZIKN
namespace Go.Proofs.YtjbdljkhbglnhaaGreat.Am
open Go Go.RowKit Go.Proofs.YtjbdljkhbglnhaaGreat
set_option linter.all false
set_option maxHeartbeats 2000000
noncomputable section
variable (K:TRes→Prop)
def Qbd (t:Qe × (((List Int) × Int × Int))):TRes:=⟨(.a [(zcs QK t.1.1),(.r Qg 0 0 ((t.1.2.1).length)),(.r Qh 1 0 ((t.1.2.2.1).length)),(zcs Qh t.1.2.2.2)]),[(.sl 63 Qg true t.1.2.1),(.sl 97 Qh true t.1.2.2.1)],[[(zcs [(.int .u8)] t.2.1),(zci t.2.2.1),(zci t.2.2.2)]],true,[]⟩
def QY (x0:((List Int) × Int × Int)):Qe × (((List Int) × Int × Int)):=Classical.epsilon fun t:Qe × (((List Int) × Int × Int))=>(Qc5 x0 t)∧TCon Tryz.prog 197 [(.bx [(.c (.sl [(.int .u8)]) x0.1),(.c TI x0.2.1),(.c TI x0.2.2)])] (Qbd t)
def QkT:TRow:=Qk 197 [(.b [(.sl [(.int .u8)]),TI,TI])] fun x=>(some (QQ x.1),Qbd (QY x.1))
def Qqm:List TRow:=[Qow,QoA,JX,Qie]
def QrX:TCode :=
 (zsq [(zsq [(.reg [zmv 17 6,zbi 18 .gtr 17 (zki 0)]),(.cond 18 .skip (.exit 0))]),(.block 1 (.draw [zLd 21 5 4,zmv 22 0,zfa 23 5 1,zld 24 23 1,zle 25 24,zca 26 108 [22,25],zca 27 92 [21,26],zst 5 27 4] [(0,5)])),(.reg [zmv 19 6,zbi 20 .sub 19 (zki 1),zmv 6 20])])
def QDF:List (Nat × Md):=[(0,.b [.d,.d,.d]),(2,.b (zds 4)),(5,.b [.d,.f,.f,.d]),(6,.one .d)]
def QAy:TCode :=
 (zsq [(.reg [zLd 28 5 4,zst 2 28 4]),.ret])
def QVJ:TCode :=
 (zsq [(.reg [zop 2 (.new 37 (z0s QE))]),(.reg [zmv 8 0,zca 9 143 [8],zmv 7 9,zex 10 7 0,zex 11 7 1,zop 3 (.new 30 (z0s ZW)),zst 3 10 6,zmv 4 11]),(.reg [zLd 12 3 6,zmv 13 4,zca 14 28 [12,13],zop 5 (.new 37 (z0s QE)),zst 5 14 4]),(zsq [(.reg [zmv 15 0,zca 16 108 [15,(zki 60)],zmv 6 16]),(.block 0 (.loop QDF QrX))]),QAy])
def QC9:List (ARv × Md):=[(.l 2 4 true,.b [.d,.o 63,.o 97,.d])]
def QBg:Qb:=TQ 1 0 QC9 K
def QF7:Qb:=Qseq (tawp Qqm 1 QAy (QBg K)) (QBg K)
def QQ4:Qb:=Qblk 0 (QF7 K)
def Qj5 (n:Int) (c0:List Int) (c1:Int) (c2:Int) (p1:List Qc) (p2:List Qd) (p0:List Qy) (p3:List Qd):Prop:=Loop Qqm 1 QDF QrX (QQ4 K) ⟨[(0,(.p 0 0 0)),(2,(.p 1 0 0)),(5,(.p 4 0 0)),(6,(zci n))],[(0,(.box [(zcs [(.int .u8)] c0),(zci c1),(zci c2)])),(1,(.box (Tup.cells QE ([],[],[],[])))),(2,(.sl 63 Qg true p1)),(3,(.sl 97 Qh true p2)),(4,(.box [(zcs QK p0),(.r Qg 2 0 p1.length),(.r Qh 3 0 p2.length),(zcs Qh p3)]))],5⟩
theorem Qxp (n:Int) (c0:List Int) (c1:Int) (c2:Int) (p1:List Qc) (p2:List Qd) (p0:List Qy) (p3:List Qd) (h :
 let z2:=Qs (c0,c1,c2) ((p1.length:Nat):Int)
 let z1:=Zu (p0,(List.take p1.length (List.drop 0 p1)),(List.take p2.length (List.drop 0 p2)),p3) (z2.1)
 (zif (decide (n>(0:Int))) (((Zr (c0,c1,c2) ((p1.length:Nat):Int))∧(Qbm (p0,(List.take p1.length (List.drop 0 p1)),(List.take p2.length (List.drop 0 p2)),p3) (z2.1)))∧(Qj5 K (w64 (n-(1:Int))) ((z2.2).1) ((z2.2).2.1) ((z2.2).2.2) (List.take ((z1.2.1).length) (z1.2.1)) (List.take ((z1.2.2.1).length) (z1.2.2.1)) (z1.1) (z1.2.2.2))) (K (Qbd ((p0,(List.take p1.length p1),(List.take p2.length p2),p3),(c0,c1,c2)))))):Qj5 K n c0 c1 c2 p1 p2 p0 p3 :=
 Loop.of (by kernel_rfl) h
theorem QV1 (c:((List Int) × Int × Int)) (h :
 let z1:=Ja (((Z6 c).1).1,(List.take ((((Z6 c).1).2.1).length) (List.drop 0 (((Z6 c).1).2.1))),((Z6 c).1).2.2.1,(List.take ((((Z6 c).1).2.2.2.1).length) (List.drop 0 (((Z6 c).1).2.2.2.1))),(List.take ((((Z6 c).1).2.2.2.2.1).length) (List.drop 0 (((Z6 c).1).2.2.2.2.1))),(List.take ((((Z6 c).1).2.2.2.2.2).length) (List.drop 0 (((Z6 c).1).2.2.2.2.2)))) ((Z6 c).2.1)
 let z2:=Qs ((Z6 c).2.2) (60:Int)
 ((QQ c)∧((Zr ((Z6 c).2.2) (60:Int))∧(Qj5 K (z2.1) ((z2.2).1) ((z2.2).2.1) ((z2.2).2.2) (List.take ((z1.2.1).length) (z1.2.1)) (List.take ((z1.2.2.1).length) (z1.2.2.1)) (z1.1) (z1.2.2.2))))):Hold (tawp Qqm (1+0) QVJ (TQ 1 0 QC9 K) (Qi [(.bx [(.c (.sl [(.int .u8)]) c.1),(.c TI c.2.1),(.c TI c.2.2)])])) :=
 Hold.of (by kernel_rfl) h
theorem QBb (c:((List Int) × Int × Int)) (hp:QQ c):∃ t:Qe × (((List Int) × Int × Int)),(Qc5 c t)∧TCon Tryz.prog 197 [(.bx [(.c (.sl [(.int .u8)]) c.1),(.c TI c.2.1),(.c TI c.2.2)])] (Qbd t):=by
 refine Y8 (tcx (n:=29) (sg:=QkT.sg) Qm (TOk.cons QLI (TOk.cons QVV (TOk.cons Qaz (TOk.cons Qub TOk.nil)))) (by kernel_rfl) (by kernel_rfl) (QV1 (fun r'=>∃ t,(Qc5 c t)∧r'=Qbd t) c ?_))
 conv=>zeta
 have hc:QQ c:=hp
 have b1:=QT1 c hc
 have h0:=b1.2
 have hcur:QQ (Z6 c).2.2:=b1.1.2.2.2.2.2.2
 have A:=QnU h0
 have b2:=YM (Z6 c).2.2 60 hcur
 have hn1:=b2.1
 have hn2:=b2.2.1 (by omega)
 have key:∀ (k:Nat) (t:TCur) (q:Qe),QQ t→k≤59→(∃ ks,Ok (Z6 c).1 (Z6 c).2.1 ks∧q=Zo (Z6 c).1 (Z6 c).2.1 ks)→Sz.sz q≤10000+100*(60-k) →
   Qj5 (fun r'=>∃ t,(Qc5 c t)∧r'=Qbd t) (k:Int) t.1 t.2.1 t.2.2 q.2.1 q.2.2.1 q.1 q.2.2.2:=by
  intro k
  induction k with
  | zero =>
   intro t q ht hk hq hz
   obtain ⟨ks,V,hq⟩:=hq
   refine Qxp (fun r'=>∃ t,(Qc5 c t)∧r'=Qbd t) _ _ _ _ _ _ _ _ ⟨fun h=>by simp at h,fun _=>ZM ?_⟩
   rw [List.take_length,List.take_length]
   exact ⟨⟨_,_,ks,A,V,hq⟩,by show Sz.sz q≤_;omega,ht⟩
  | succ k ih =>
   intro t q ht hk hq hz
   obtain ⟨ks,V,hq⟩:=hq
   have b3:=YM t (q.2.1.length:Int) ht
   obtain ⟨ks',V',hk',_⟩:=QHj A V (Qs t (q.2.1.length:Int)).1
   have hps:=QhG q (Qs t (q.2.1.length:Int)).1
   have ih':=ih (Qs t (q.2.1.length:Int)).2 (Zu q (Qs t (q.2.1.length:Int)).1) b3.2.2.2 (by omega) ⟨ks',V',by rw [← hk',hq]⟩ (by omega)
   refine Qxp (fun r'=>∃ t,(Qc5 c t)∧r'=Qbd t) _ _ _ _ _ _ _ _ ?_
   conv=>zeta
   simp only [QaA,List.take_length]
   refine ⟨fun _=>⟨⟨ht,by show Sz.sz q≤_;omega⟩,?_⟩,fun h=>by simp at h <;> omega⟩
   rw [Qp (x:=((k+1:Nat):Int)-1) (by omega) (by omega),show ((k+1:Nat):Int)-1=k by omega]
   exact ih'
 simp only [QaA,List.take_length]
 refine ⟨hc,hcur,?_⟩
 have hz:=QM3 (Z6 c).1 (Z6 c).2.1
 have h:=key (Qs (Z6 c).2.2 60).1.toNat (Qs (Z6 c).2.2 60).2 (Ja (Z6 c).1 (Z6 c).2.1) b2.2.2.2 (by omega) ⟨_,QFx A,QRB A⟩ (by omega)
 rw [Int.toNat_of_nonneg hn1] at h
 exact h
theorem QTn (c:((List Int) × Int × Int)) (hp:QQ c):Qc5 c (QY c):=(Classical.epsilon_spec (QBb c hp)).1
theorem QFF (c:((List Int) × Int × Int)) (hp:QQ c):TCon Tryz.prog 197 [(.bx [(.c (.sl [(.int .u8)]) c.1),(.c TI c.2.1),(.c TI c.2.2)])] (Qbd (QY c)):=(Classical.epsilon_spec (QBb c hp)).2
theorem QUc:Ql Tryz.prog QkT:=Qn fun x h=>QFF x.1 h
def J8 (t:Qe × (((List Int) × Int × Int))):TRes:=⟨(.a (Tup.cells QE t.1)),[],[[(zcs [(.int .u8)] t.2.1),(zci t.2.2.1),(zci t.2.2.2)]],true,[]⟩
def Qci (x0:((List Int) × Int × Int)):Qe × (((List Int) × Int × Int)):=Classical.epsilon fun t:Qe × (((List Int) × Int × Int))=>(Qgg x0 t)∧TCon Tryz.prog 141 [(.bx [(.c (.sl [(.int .u8)]) x0.1),(.c TI x0.2.1),(.c TI x0.2.2)])] (J8 t)
def Qm2:TRow:=Qk 141 [(.b [(.sl [(.int .u8)]),TI,TI])] fun x=>(some (QQ x.1),J8 (Qci x.1))
def QIs:List TRow:=[QkT,JX,Qcf,QnR]
def QM8:TCode :=
 (zsq [(.reg [zop 2 (.new 37 (z0s QE))]),(.reg [zmv 5 0,zca 6 197 [5],zop 3 (.new 37 (z0s QE)),zst 3 6 4]),(.reg [zmv 7 0,zfa 8 3 1,zld 9 8 1,zle 10 9,zca 11 108 [7,10],zmv 4 11]),(zsq [(.reg [zmv 12 0,zca 13 108 [12,(zki 18)]]),(.block 0 (zsq [(.reg [zbi 15 .eql 13 (zki 0),zmv 14 15]),(.cond 14 (.draw [zfa 16 3 1,zld 17 16 1,zmv 18 4,zmv 19 0,zfa 20 3 1,zld 21 20 1,zmv 22 4,zia 23 21 22 Qg,zfa 24 23 1,zld 25 24 1,zle 26 25,zfa 27 3 1,zld 28 27 1,zmv 29 4,zia 30 28 29 Qg,zfa 31 30 1,zld 32 31 1,zle 33 32,zbi 34 .add 33 (zki 1),zop 35 (.bsl 3 [TI] [(zki (-1)),(zki 0),26,34]),zca 36 145 [19,35],zia 37 17 18 Qg,zfa 38 37 0,zst 38 36 1] [(0,19),(1,19),(0,20),(1,20)]) (zsq [(.reg [zbi 40 .eql 13 (zki 1),zmv 39 40]),(.cond 39 (.draw [zfa 41 3 1,zld 42 41 1,zmv 43 4,zmv 44 0,zca 45 107 [44],zia 46 42 43 Qg,zfa 47 46 7,zst 47 45 1] [(0,4),(1,4)]) (zsq [(.reg [zbi 49 .eql 13 (zki 2),zmv 48 49]),(.cond 48 (.reg [zfa 50 3 2,zld 51 50 1,zop 52 (.build (z0s Qh) [(0,1,(zki 1))]),zop 53 (.bsl 97 Qh [52]),zop 54 (.app 51 53 97 Qh),zfa 55 3 2,zst 55 54 1]) (zsq [(.reg [zbi 57 .eql 13 (zki 3),zmv 56 57]),(.cond 56 (.reg [zfa 58 3 0,zld 59 58 1,zfa 60 3 0,zld 61 60 1,zle 62 61,zbi 63 .sub 62 (zki 1),zop 64 (.slc 59 none (some 63) QK),zfa 65 3 0,zst 65 64 1]) (zsq [(.reg [zbi 67 .eql 13 (zki 4),zmv 66 67]),(.cond 66 (.reg [zfa 68 3 1,zld 69 68 1,zmv 70 4,zia 71 69 70 Qg,zfa 72 71 5,zst 72 (.k (.n QW)) 1]) (zsq [(.reg [zbi 74 .eql 13 (zki 5),zmv 73 74]),(.cond 73 (.draw [zfa 75 3 1,zld 76 75 1,zmv 77 4,zfa 78 3 1,zld 79 78 1,zmv 80 4,zia 81 79 80 Qg,zfa 82 81 3,zld 83 82 1,zno 84 83,zia 85 76 77 Qg,zfa 86 85 3,zst 86 84 1] []) .skip)]))]))]))]))]))]))]),(.reg [zLd 87 3 4,zst 2 87 4]),.ret])
def QVB:List (ARv × Md):=[(.l 2 4 true,.b (zds 4))]
theorem QUI (c:((List Int) × Int × Int)) (h :
 let z2:=Qs ((QY c).2) (((((QY c).1).2.1).length:Nat):Int)
 let z3:=List.take ((((QY c).1).2.2.1).length) (List.drop 0 (((QY c).1).2.2.1))
 let z4:=Qs (z2.2) (18:Int)
 let z5:=Int.toNat (z2.1)
 let z1:=gtd QH (((QY c).1).2.1) (0+z5)
 let z6:=List.take ((((QY c).1).2.1).length) (List.drop 0 (((QY c).1).2.1))
 ((QQ c)∧((Zr ((QY c).2) (((((QY c).1).2.1).length:Nat):Int))∧((Zr (z2.2) (18:Int))∧(zif ((z4.1)==(0:Int)) ((((0:Int)≤z2.1∧Int.toNat (z2.1)<(((QY c).1).2.1).length)∧(((0+z5)<(((QY c).1).2.1).length)∧(((0:Int)≤z2.1∧Int.toNat (z2.1)<(((QY c).1).2.1).length)∧(((0+z5)<(((QY c).1).2.1).length)∧((Y9 (z4.2) ([(-1:Int),(0:Int),((z1.2.1).length:Int),w64 (((z1.2.1).length:Int)+(1:Int))]))∧(((0:Int)≤z2.1∧Int.toNat (z2.1)<(((QY c).1).2.1).length)∧((0+z5)<(((QY c).1).2.1).length)))))))∧K (J8 ((((QY c).1).1,(List.take ((((QY c).1).2.1).length) (List.drop 0 ((((QY c).1).2.1).set (0+z5) ((ZK (z4.2) ([(-1:Int),(0:Int),((z1.2.1).length:Int),w64 (((z1.2.1).length:Int)+(1:Int))])).1,z1.2.1,z1.2.2.1,z1.2.2.2.1,z1.2.2.2.2.1,z1.2.2.2.2.2.1,z1.2.2.2.2.2.2.1,z1.2.2.2.2.2.2.2.1,z1.2.2.2.2.2.2.2.2.1,z1.2.2.2.2.2.2.2.2.2.1,z1.2.2.2.2.2.2.2.2.2.2.1,z1.2.2.2.2.2.2.2.2.2.2.2.1,z1.2.2.2.2.2.2.2.2.2.2.2.2.1,z1.2.2.2.2.2.2.2.2.2.2.2.2.2)))),z3,((QY c).1).2.2.2),((ZK (z4.2) ([(-1:Int),(0:Int),((z1.2.1).length:Int),w64 (((z1.2.1).length:Int)+(1:Int))])).2)))) (zif ((z4.1)==(1:Int)) (((QQ (z4.2))∧(((0:Int)≤z2.1∧Int.toNat (z2.1)<(((QY c).1).2.1).length)∧((0+z5)<(((QY c).1).2.1).length)))∧K (J8 ((((QY c).1).1,(List.take ((((QY c).1).2.1).length) (List.drop 0 ((((QY c).1).2.1).set (0+z5) (z1.1,z1.2.1,z1.2.2.1,z1.2.2.2.1,z1.2.2.2.2.1,z1.2.2.2.2.2.1,z1.2.2.2.2.2.2.1,(Qej (z4.2)).1,z1.2.2.2.2.2.2.2.2.1,z1.2.2.2.2.2.2.2.2.2.1,z1.2.2.2.2.2.2.2.2.2.2.1,z1.2.2.2.2.2.2.2.2.2.2.2.1,z1.2.2.2.2.2.2.2.2.2.2.2.2.1,z1.2.2.2.2.2.2.2.2.2.2.2.2.2)))),z3,((QY c).1).2.2.2),((Qej (z4.2)).2)))) (zif ((z4.1)==(2:Int)) ((((((QY c).1).2.2.1).length=(((QY c).1).2.2.1).length∨(((QY c).1).2.2.1).length+1≤(((QY c).1).2.2.1).length)∧(((QY c).1).2.2.1).length+1≤big)∧K (J8 ((((QY c).1).1,z6,(List.take ((((QY c).1).2.2.1).length+1) (List.drop 0 ((List.take ((((QY c).1).2.2.1).length) (((QY c).1).2.2.1))++([((1:Int),[])])))),((QY c).1).2.2.2),(z4.2)))) (zif ((z4.1)==(3:Int)) (((0:Int)≤(0:Int)∧(0:Int)≤w64 (((((QY c).1).1).length:Int)-(1:Int))∧w64 (((((QY c).1).1).length:Int)-(1:Int))≤((((QY c).1).1).length:Int))∧K (J8 (((List.take (Int.toNat (w64 (((((QY c).1).1).length:Int)-(1:Int)))-Int.toNat (0:Int)) (List.drop (Int.toNat (0:Int)) (((QY c).1).1))),z6,z3,((QY c).1).2.2.2),(z4.2)))) (zif ((z4.1)==(4:Int)) ((((0:Int)≤z2.1∧Int.toNat (z2.1)<(((QY c).1).2.1).length)∧((0+z5)<(((QY c).1).2.1).length))∧K (J8 ((((QY c).1).1,(List.take ((((QY c).1).2.1).length) (List.drop 0 ((((QY c).1).2.1).set (0+z5) (z1.1,z1.2.1,z1.2.2.1,z1.2.2.2.1,z1.2.2.2.2.1,[],z1.2.2.2.2.2.2.1,z1.2.2.2.2.2.2.2.1,z1.2.2.2.2.2.2.2.2.1,z1.2.2.2.2.2.2.2.2.2.1,z1.2.2.2.2.2.2.2.2.2.2.1,z1.2.2.2.2.2.2.2.2.2.2.2.1,z1.2.2.2.2.2.2.2.2.2.2.2.2.1,z1.2.2.2.2.2.2.2.2.2.2.2.2.2)))),z3,((QY c).1).2.2.2),(z4.2)))) (zif ((z4.1)==(5:Int)) ((((0:Int)≤z2.1∧Int.toNat (z2.1)<(((QY c).1).2.1).length)∧(((0+z5)<(((QY c).1).2.1).length)∧(((0:Int)≤z2.1∧Int.toNat (z2.1)<(((QY c).1).2.1).length)∧((0+z5)<(((QY c).1).2.1).length))))∧K (J8 ((((QY c).1).1,(List.take ((((QY c).1).2.1).length) (List.drop 0 ((((QY c).1).2.1).set (0+z5) (z1.1,z1.2.1,z1.2.2.1,(!(z1.2.2.2.1)),z1.2.2.2.2.1,z1.2.2.2.2.2.1,z1.2.2.2.2.2.2.1,z1.2.2.2.2.2.2.2.1,z1.2.2.2.2.2.2.2.2.1,z1.2.2.2.2.2.2.2.2.2.1,z1.2.2.2.2.2.2.2.2.2.2.1,z1.2.2.2.2.2.2.2.2.2.2.2.1,z1.2.2.2.2.2.2.2.2.2.2.2.2.1,z1.2.2.2.2.2.2.2.2.2.2.2.2.2)))),z3,((QY c).1).2.2.2),(z4.2)))) (K (J8 ((((QY c).1).1,z6,z3,((QY c).1).2.2.2),(z4.2)))))))))))))):Hold (tawp QIs (1+0) QM8 (TQ 1 0 QVB K) (Qi [(.bx [(.c (.sl [(.int .u8)]) c.1),(.c TI c.2.1),(.c TI c.2.2)])])) :=
 Hold.of (by kernel_rfl) h
theorem Qq1 (c:((List Int) × Int × Int)) (hp:QQ c):∃ t:Qe × (((List Int) × Int × Int)),(Qgg c t)∧TCon Tryz.prog 141 [(.bx [(.c (.sl [(.int .u8)]) c.1),(.c TI c.2.1),(.c TI c.2.2)])] (J8 t):=by
 refine Y8 (tcx (n:=88) (sg:=Qm2.sg) Qm (TOk.cons QUc (TOk.cons Qaz (TOk.cons Qd0 (TOk.cons QEF TOk.nil)))) (by kernel_rfl) (by kernel_rfl) (QUI (fun r'=>∃ t,(Qgg c t)∧r'=J8 t) c ?_))
 conv=>zeta
 have hc:QQ c:=hp
 obtain ⟨⟨cc,bb,ks,A,V,e⟩,hz,hcu⟩:=QTn c hc
 have hf:=QVp A V
 rw [← e] at hf
 obtain ⟨p,hpp⟩:∃ p,(QY c).1=p:=⟨_,rfl⟩
 rw [hpp] at hf hz ⊢
 obtain ⟨f1,f2,f3,f4,f5⟩:=hf
 have b2:=YM (QY c).2 (p.2.1.length:Int) hcu
 have k1:=b2.1
 have k2:=b2.2.1 (by omega)
 have hc2:=b2.2.2.2
 have hc3:=(YM (Qs (QY c).2 (p.2.1.length:Int)).2 18 hc2).2.2.2
 obtain ⟨k,hk⟩:=Int.eq_ofNat_of_zero_le k1
 rw [hk] at k2 ⊢
 have hx:=QR4 _ hc3
 simp only [QaA,QFd,QAr,Nat.zero_add,Int.toNat_natCast]
 have hsz:=ZS (gtd QH p.2.1 k)
 have hq:∀ (v:Qc) (t:TCur),QQ t→Sz.sz v≤Sz.sz (gtd QH p.2.1 k)+10→Qgg c ((p.1,p.2.1.set k v,p.2.2.1,p.2.2.2),t):=fun v t ht hv=>by
  have h:=QUE (p:=p) (k:=k) hv
  exact ⟨by show Sz.sz ((p.1,p.2.1.set k v,p.2.2.1,p.2.2.2):Qe)≤40000;omega,ht⟩
 have hps:Sz.sz p=Sz.sz p.1+Sz.sz p.2.1+Sz.sz p.2.2.1+Sz.sz p.2.2.2:=JR p
 refine ⟨hc,hcu,hc2,fun _=>?_,fun _=>⟨fun _=>?_,fun _=>⟨fun _=>?_,fun _=>⟨fun _=>?_,fun _=>⟨fun _=>?_,fun _=>⟨fun _=>?_,fun _=>?_⟩⟩⟩⟩⟩⟩
 ·have hpk:Y9 (Qs (Qs (QY c).2 (p.2.1.length:Int)).2 18).2 [-1,0,((gtd QH p.2.1 k).2.1.length:Int),w64 (((gtd QH p.2.1 k).2.1.length:Int)+1)]:=⟨hc3,by simp,by simp⟩
  refine ⟨⟨⟨by omega,by omega⟩,by omega,⟨by omega,by omega⟩,by omega,hpk,⟨by omega,by omega⟩,by omega⟩,ZM (hq _ _ (QdO _ _ hpk).2 ?_)⟩
  rw [ZS];((try simp only [sPc,Qz,sOps,Qq,Qv,Qf,QD,sX,sY,sG,sD,QC,QB,sSat,QF,QI,Qt,Qu] at *);omega)
 ·refine ⟨⟨hc3,⟨by omega,by omega⟩,by omega⟩,ZM (hq _ _ hx.2 ?_)⟩
  have hx1:=hx.1
  have hx2:=ZN (Qej (Qs (Qs (QY c).2 (p.2.1.length:Int)).2 18).2).1
  rw [ZS];((try simp only [sPc,Qz,sOps,Qq,Qv,Qf,QD,sX,sY,sG,sD,QC,QB,sSat,QF,QI,Qt,Qu] at *);omega)
 ·refine ⟨⟨.inl (by trivial),by rw [Q9];omega⟩,ZM ⟨?_,hc3⟩⟩
  show Sz.sz ((p.1,p.2.1,p.2.2.1++[(1,[])],p.2.2.2):Qe)≤40000
  have h1:Sz.sz ((p.1,p.2.1,p.2.2.1++[(1,[])],p.2.2.2):Qe)=Sz.sz p.1+Sz.sz p.2.1+Sz.sz (p.2.2.1++[((1,[]):Qd)])+Sz.sz p.2.2.2:=JR _
  have h2:Sz.sz (p.2.2.1++[((1,[]):Qd)])=Sz.sz p.2.2.1+1:=by rw [Qea];rfl
  omega
 ·refine ⟨⟨by omega,by rw [Qp (by omega) (by omega)];omega,by rw [Qp (by omega) (by omega)];omega⟩,ZM ⟨?_,hc3⟩⟩
  generalize Int.toNat (w64 ((p.1.length:Int)-1))-Int.toNat 0=n
  show Sz.sz ((List.take n (List.drop 0 p.1),p.2.1,p.2.2.1,p.2.2.2):Qe)≤40000
  rw [List.drop_zero]
  have h1:Sz.sz ((List.take n p.1,p.2.1,p.2.2.1,p.2.2.2):Qe)=Sz.sz (List.take n p.1)+Sz.sz p.2.1+Sz.sz p.2.2.1+Sz.sz p.2.2.2:=JR _
  have h2:=Qh0 p.1 n
  omega
 ·refine ⟨⟨⟨by omega,by omega⟩,by omega⟩,ZM (hq _ _ hc3 ?_)⟩
  have h0:Sz.sz ([]:List ZD)=0:=rfl
  rw [ZS];((try simp only [sPc,Qz,sOps,Qq,Qv,Qf,QD,sX,sY,sG,sD,QC,QB,sSat,QF,QI,Qt,Qu] at *);omega)
 ·refine ⟨⟨⟨by omega,by omega⟩,by omega,⟨by omega,by omega⟩,by omega⟩,ZM (hq _ _ hc3 ?_)⟩
  rw [ZS];((try simp only [sPc,Qz,sOps,Qq,Qv,Qf,QD,sX,sY,sG,sD,QC,QB,sSat,QF,QI,Qt,Qu] at *);omega)
 ·exact ZM ⟨by show Sz.sz p≤40000;omega,hc3⟩
theorem QEN (c:((List Int) × Int × Int)) (hp:QQ c):Qgg c (Qci c):=(Classical.epsilon_spec (Qq1 c hp)).1
theorem QIC (c:((List Int) × Int × Int)) (hp:QQ c):TCon Tryz.prog 141 [(.bx [(.c (.sl [(.int .u8)]) c.1),(.c TI c.2.1),(.c TI c.2.2)])] (J8 (Qci c)):=(Classical.epsilon_spec (Qq1 c hp)).2
theorem QG1:Ql Tryz.prog Qm2:=Qn fun x h=>QIC x.1 h
def Qa1 (t:(List Int) × (((List Int) × Int × Int))):TRes:=⟨(zcs [TI] t.1),[],[[(zcs [(.int .u8)] t.2.1),(zci t.2.2.1),(zci t.2.2.2)]],true,[]⟩
def QgN (x0:((List Int) × Int × Int)) (x1:Int):(List Int) × (((List Int) × Int × Int)):=Classical.epsilon fun t:(List Int) × (((List Int) × Int × Int))=>(Qdv x0 x1 t)∧TCon Tryz.prog 142 [(.bx [(.c (.sl [(.int .u8)]) x0.1),(.c TI x0.2.1),(.c TI x0.2.2)]),(.c TI x1)] (Qa1 t)
def Qp9:TRow:=Qk 142 [(.b [(.sl [(.int .u8)]),TI,TI]),(.c TI)] fun x=>(some (Zr x.1 x.2.1),Qa1 (QgN x.1 x.2.1))
def Ql5:List TRow:=[JX,QdY,Qcf]
def QuO:TCode :=
 (zsq [(zsq [(.reg [zmv 10 6,zbi 11 .gtr 10 (zki 0)]),(.cond 11 .skip (.exit 0))]),(.block 1 (.reg [zmv 14 5,zmv 15 0,zmv 16 1,zop 17 (.mm true 16 (zki 1)),zca 18 108 [15,17],zop 19 (.bsl 3 [TI] [18]),zop 20 (.app 14 19 3 [TI]),zmv 5 20])),(.reg [zmv 12 6,zbi 13 .sub 12 (zki 1),zmv 6 13])])
def QwJ:List (Nat × Md):=[(0,.b [.d,.d,.d]),(1,.one .d),(5,.one .f),(6,.one .d)]
def QtP:TCode :=
 (zsq [(zsq [(.reg [zmv 21 0,zca 22 106 [21,(zki 12)]]),(.cond 22 (.reg [zmv 23 5,zmv 24 0,zop 25 (.bsl 3 [TI] [(zki (-1)),(zki 4)]),zca 26 145 [24,25],zop 27 (.bsl 3 [TI] [26]),zop 28 (.app 23 27 3 [TI]),zmv 5 28]) .skip)]),(.reg [zmv 29 5,zmv 4 29]),.ret])
def QSY:TCode :=
 (zsq [(.reg [zmv 4 (.k (.n [TI]))]),(.reg [zop 7 (.bsl 3 [TI] []),zmv 5 7]),(zsq [(.reg [zmv 8 0,zca 9 108 [8,(zki 60)],zmv 6 9]),(.block 0 (.loop QwJ QuO))]),QtP])
def Qtp:List (ARv × Md):=[(.t 4,.one .d)]
def QvV:Qb:=TQ 1 0 Qtp K
def QRn:Qb:=Qseq (tawp Ql5 1 QtP (QvV K)) (QvV K)
def QOu:Qb:=Qblk 0 (QRn K)
def QiD (stages:Int) (n:Int) (c0:List Int) (c1:Int) (c2:Int) (l:List Int):Prop:=Loop Ql5 1 QwJ QuO (QOu K) ⟨[(0,(.p 0 0 0)),(1,(zci stages)),(5,(.r [TI] 1 0 l.length)),(6,(zci n))],[(0,(.box [(zcs [(.int .u8)] c0),(zci c1),(zci c2)])),(1,(.sl 3 [TI] true l))],2⟩
theorem Qtf (stages:Int) (n:Int) (c0:List Int) (c1:Int) (c2:Int) (l:List Int) (h :
 (zif (decide (n>(0:Int))) (((Zr (c0,c1,c2) (if stages<(1:Int) then (1:Int) else stages))∧((l.length=l.length∨l.length+1≤l.length)∧l.length+1≤big))∧(QiD K stages (w64 (n-(1:Int))) (((Qs (c0,c1,c2) (if stages<(1:Int) then (1:Int) else stages)).2).1) (((Qs (c0,c1,c2) (if stages<(1:Int) then (1:Int) else stages)).2).2.1) (((Qs (c0,c1,c2) (if stages<(1:Int) then (1:Int) else stages)).2).2.2) (List.take (l.length+1) ((List.take l.length l)++([(Qs (c0,c1,c2) (if stages<(1:Int) then (1:Int) else stages)).1]))))) ((Zr (c0,c1,c2) (12:Int))∧(zif ((ZB (c0,c1,c2) (12:Int)).1) (((Y9 ((ZB (c0,c1,c2) (12:Int)).2) ([(-1:Int),(4:Int)]))∧((l.length=l.length∨l.length+1≤l.length)∧l.length+1≤big))∧K (Qa1 ((List.take (l.length+1) (List.drop 0 ((List.take l.length l)++([(ZK ((ZB (c0,c1,c2) (12:Int)).2) ([(-1:Int),(4:Int)])).1])))),((ZK ((ZB (c0,c1,c2) (12:Int)).2) ([(-1:Int),(4:Int)])).2)))) (K (Qa1 ((List.take l.length (List.drop 0 l)),((ZB (c0,c1,c2) (12:Int)).2)))))))):QiD K stages n c0 c1 c2 l :=
 Loop.of (by kernel_rfl) h
theorem QEt (c:((List Int) × Int × Int)) (stages:Int) (h :
 ((Zr c (60:Int))∧(QiD K stages ((Qs c (60:Int)).1) (((Qs c (60:Int)).2).1) (((Qs c (60:Int)).2).2.1) (((Qs c (60:Int)).2).2.2) ([]:List Int)))):Hold (tawp Ql5 (1+0) QSY (TQ 1 0 Qtp K) (Qi [(.bx [(.c (.sl [(.int .u8)]) c.1),(.c TI c.2.1),(.c TI c.2.2)]),(.c TI stages)])) :=
 Hold.of (by kernel_rfl) h
theorem QwH (c:((List Int) × Int × Int)) (stages:Int) (hp:Zr c stages):∃ t:(List Int) × (((List Int) × Int × Int)),(Qdv c stages t)∧TCon Tryz.prog 142 [(.bx [(.c (.sl [(.int .u8)]) c.1),(.c TI c.2.1),(.c TI c.2.2)]),(.c TI stages)] (Qa1 t):=by
 refine Y8 (tcx (n:=30) (sg:=Qp9.sg) Qm (TOk.cons Qaz (TOk.cons QjG (TOk.cons Qd0 TOk.nil))) (by kernel_rfl) (by kernel_rfl) (QEt (fun r'=>∃ t,(Qdv c stages t)∧r'=Qa1 t) c stages ?_))
 have hc:QQ c:=hp
 have b1:=YM c 60 hc
 have hn1:=b1.1
 have hn2:=b1.2.1 (by omega)
 refine ⟨hc,?_⟩
 have key:∀ (k:Nat) (t:TCur) (l:List Int),QQ t→l.length+k≤59→QiD (fun r'=>∃ t,(Qdv c stages t)∧r'=Qa1 t) stages (k:Int) t.1 t.2.1 t.2.2 l:=by
  intro k
  induction k with
  | zero =>
   intro t l ht hl
   have b2:=QiF t 12 ht
   have hpk:Y9 (ZB t 12).2 [-1,4]:=⟨b2,by simp,by simp⟩
   refine Qtf (fun r'=>∃ t,(Qdv c stages t)∧r'=Qa1 t) stages _ _ _ _ _ ?_
   simp only [QAr,QaA]
   refine ⟨fun h=>by simp at h,fun _=>⟨ht,fun _=>⟨⟨hpk,.inl (by trivial),by rw [Q9];omega⟩,ZM ?_⟩,fun _=>ZM ?_⟩⟩
   ·show (l++[_]).length≤61;simp;omega
   ·show l.length≤61;omega
  | succ k ih =>
   intro t l ht hl
   have b2:=YM t (if stages<1 then 1 else stages) ht
   refine Qtf (fun r'=>∃ t,(Qdv c stages t)∧r'=Qa1 t) stages _ _ _ _ _ ?_
   simp only [Zc]
   refine ⟨fun _=>⟨⟨ht,.inl (by trivial),by rw [Q9];omega⟩,?_⟩,fun h=>by simp at h <;> omega⟩
   rw [Qp (x:=((k+1:Nat):Int)-1) (by omega) (by omega),show ((k+1:Nat):Int)-1=k by omega]
   exact ih _ _ b2.2.2.2 (by simp;omega)
 have h:=key (Qs c 60).1.toNat (Qs c 60).2 [] b1.2.2.2 (by simp;omega)
 rw [Int.toNat_of_nonneg hn1] at h
 exact h
theorem QFU (c:((List Int) × Int × Int)) (stages:Int) (hp:Zr c stages):Qdv c stages (QgN c stages):=(Classical.epsilon_spec (QwH c stages hp)).1
theorem QJT (c:((List Int) × Int × Int)) (stages:Int) (hp:Zr c stages):TCon Tryz.prog 142 [(.bx [(.c (.sl [(.int .u8)]) c.1),(.c TI c.2.1),(.c TI c.2.2)]),(.c TI stages)] (Qa1 (QgN c stages)):=(Classical.epsilon_spec (QwH c stages hp)).2
theorem QVt:Ql Tryz.prog Qp9:=Qn fun x h=>QJT x.1 x.2.1 h
def Qeu (t:Qe × (List Int)):TRes:=zra (.tp [(.a (Tup.cells QE t.1)),(zcs [TI] t.2)])
def QaZ (x0:List Int):Qe × (List Int):=Classical.epsilon fun t:Qe × (List Int)=>(QjX x0 t)∧TCon Tryz.prog 66 [(.c (.sl [(.int .u8)]) x0)] (Qeu t)
def Qoz:TRow:=Qk 66 [(.c (.sl [(.int .u8)]))] fun x=>(some (JO x.1),Qeu (QaZ x.1))
def QRg:List TRow:=[Qo2,Qm2,Qp9]
def QWn:TCode :=
 (zsq [(.reg [zop 2 (.new 37 (z0s QE)),zmv 3 (.k (.n [TI]))]),(.reg [zmv 6 0,zca 7 69 [6],zmv 4 7]),(.reg [zmv 8 4,zca 9 141 [8],zop 5 (.new 37 (z0s QE)),zst 5 9 4]),(.draw [zLd 10 5 4,zmv 11 4,zfa 12 5 1,zld 13 12 1,zle 14 13,zca 15 142 [11,14],zst 2 10 4,zmv 3 15] [(0,5)]),.ret])
def QK9:List (ARv × Md):=[(.l 2 4 true,.b (zds 4)),(.t 3,.one .d)]
theorem QR9 (code:List Int) (h :
 ((JO code)∧((QQ (Qa4 code))∧((Zr ((Qci (Qa4 code)).2) ((((Qci (Qa4 code)).1).2.1).length:Int))∧K (Qeu (((Qci (Qa4 code)).1),(QgN ((Qci (Qa4 code)).2) ((((Qci (Qa4 code)).1).2.1).length:Int)).1)))))):Hold (tawp QRg (0+0) QWn (TQ 0 0 QK9 K) (Qi [(.c (.sl [(.int .u8)]) code)])) :=
 Hold.of (by kernel_rfl) h
theorem Qrh (code:List Int) (hp:JO code):∃ t:Qe × (List Int),(QjX code t)∧TCon Tryz.prog 66 [(.c (.sl [(.int .u8)]) code)] (Qeu t):=by
 refine Y8 (tcx (n:=16) (sg:=Qoz.sg) Qm (TOk.cons QXr (TOk.cons QG1 (TOk.cons QVt TOk.nil))) (by kernel_rfl) (by kernel_rfl) (QR9 (fun r'=>∃ t,(QjX code t)∧r'=Qeu t) code ?_))
 have h1:=QTj code hp
 have h2:=QEN _ h1
 exact ⟨hp,h1,h2.2,ZM ⟨h2.1,QFU _ _ h2.2⟩⟩
theorem QLR (code:List Int) (hp:JO code):QjX code (QaZ code):=(Classical.epsilon_spec (Qrh code hp)).1
theorem QWr (code:List Int) (hp:JO code):TCon Tryz.prog 66 [(.c (.sl [(.int .u8)]) code)] (Qeu (QaZ code)):=(Classical.epsilon_spec (Qrh code hp)).2
theorem QXf:Ql Tryz.prog Qoz:=Qn fun x h=>QWr x.1 h
end
end Go.Proofs.YtjbdljkhbglnhaaGreat.Am

