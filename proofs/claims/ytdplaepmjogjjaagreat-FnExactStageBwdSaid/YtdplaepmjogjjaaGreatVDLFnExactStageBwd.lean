/-
  Written by program: the code of functions, what it asks, and that it comes to what the models say.
-/
import Derived.Test.YtdplaepmjogjjaaGreatVDH5
import Derived.Test.YtdplaepmjogjjaaGreatVDH1
import Derived.Test.YtdplaepmjogjjaaGreatVDPP
import Derived.Test.YtdplaepmjogjjaaGreatVDMK3
import Derived.Test.YtdplaepmjogjjaaGreatVDMK1
import Derived.Test.YtdplaepmjogjjaaGreatVDGF
namespace Go.Proofs.YtdplaepmjogjjaaGreat.Am
open Go Go.RowKit Go.Proofs.YtdplaepmjogjjaaGreat
set_option linter.all false
set_option maxHeartbeats 2000000
noncomputable section
variable (K:TRes→Prop)
def Yf (t:Bool):TRes:=zre (zcb t)
def QxL:TRow:=Qg 6 [(.a Qs),(.c TI),(.c (.sl [TI]))] fun x=>(none,Yf (Qkf x.1 x.2.1 x.2.2.1))
def Qqj:TTab:=⟨[QgV,Qj8,Qby,Qhr,Qi3,QiK,Qb0,Qhe,Qbl,QiA],false⟩
def QAk:TCode :=
 (zsq [(.reg [zop 3 (.box 30 0 14),zmv 6 (zkb false)]),(zsq [(.reg [zmv 16 2,zle 17 16,zbi 18 .gtr 17 (zki 1048576)]),(.cond 18 (zsq [(.reg [zmv 6 (zkb true)]),.ret]) .skip)]),(.reg [zmv 7 (zki 1048576)]),(.reg [zLd 19 3 14,zmv 20 7,zca 21 12 [19,20],zmv 7 21]),(zsq [(.reg [zmv 22 7,zbi 23 .lss 22 (zki 0)]),(.cond 23 (zsq [(.reg [zmv 6 (zkb true)]),.ret]) .skip)]),(.reg [zLd 24 3 14,zca 25 14 [24],zmv 26 1,zmv 27 2,zca 28 29 [27],zca 29 31 [25,26,28],zop 8 (.new 39 (z0s Qs)),zst 8 29 14]),(.reg [zLd 30 3 14,zca 31 14 [30],zop 9 (.new 39 (z0s Qs)),zst 9 31 14]),(.reg [zmv 32 2,zca 33 29 [32],zmv 10 33]),(.reg [zLd 34 9 14,zmv 35 1,zmv 36 10,zca 37 32 [34,35,36],zop 11 (.new 39 (z0s Qs)),zst 11 37 14]),(zsq [(.reg [zLd 38 11 14,zLd 39 8 14,zca 40 16 [38,39],zno 41 40]),(.cond 41 (zsq [(.reg [zmv 6 (zkb false)]),.ret]) .skip)]),(zsq [(.draw [zLd 42 9 14,zLd 43 3 14,zca 44 14 [43],zca 45 16 [42,44],zno 46 45] [(0,2)]),(.cond 46 (zsq [(.reg [zmv 6 (zkb false)]),.ret]) .skip)]),(zsq [(.reg [zmv 47 10,zmv 48 2,zca 49 29 [48],zca 50 23 [47,49],zno 51 50]),(.cond 51 (zsq [(.reg [zmv 6 (zkb false)]),.ret]) .skip)]),(.reg [zmv 12 (zki 1)]),(.reg [zLd 52 9 14,zmv 53 12,zca 54 17 [52,53],zmv 12 54]),(.reg [zmv 55 10,zmv 56 12,zca 57 26 [55,56],zmv 12 57]),(zsq [(.reg [zmv 58 12,zbi 59 .lss 58 (zki 0),zmv 60 59,.grp 60 false [zLd 61 11 14,zLd 62 8 14,zca 63 16 [61,62],zno 64 63] 65 64]),(.cond 65 (zsq [(.reg [zmv 6 (zkb false)]),.ret]) .skip)]),(.reg [zmv 13 (zki 1)]),(.reg [zLd 66 11 14,zmv 67 13,zca 68 17 [66,67],zmv 13 68]),(.reg [zmv 14 (zki 1)]),(.reg [zLd 69 11 14,zmv 70 14,zca 71 18 [69,70],zmv 14 71]),(zsq [(.reg [zmv 72 14,zbi 73 .lss 72 (zki 0)]),(.cond 73 (zsq [(.reg [zmv 6 (zkb false)]),.ret]) .skip)]),(zsq [(.reg [zmv 74 14,zmv 75 13,zbi 76 .neq 74 75]),(.cond 76 (zsq [(.reg [zmv 6 (zkb false)]),.ret]) .skip)]),(.reg [zLd 77 3 14,zca 78 14 [77],zmv 79 1,zmv 80 2,zca 81 29 [80],zca 82 32 [78,79,81],zop 15 (.new 39 (z0s Qs)),zst 15 82 14]),(zsq [(.reg [zLd 83 15 14,zLd 84 8 14,zca 85 16 [83,84],zno 86 85]),(.cond 86 (zsq [(.reg [zmv 6 (zkb false)]),.ret]) .skip)]),(.reg [zmv 14 (zki 1)]),(.reg [zLd 87 11 14,zmv 88 14,zca 89 18 [87,88],zmv 14 89]),(zsq [(.reg [zmv 90 14,zbi 91 .lss 90 (zki 0)]),(.cond 91 (zsq [(.reg [zmv 6 (zkb false)]),.ret]) .skip)]),(zsq [(.reg [zmv 92 14,zmv 93 13,zbi 94 .neq 92 93]),(.cond 94 (zsq [(.reg [zmv 6 (zkb false)]),.ret]) .skip)]),(.reg [zmv 6 (zkb true)]),.ret])
def QzX:List (ARv × Md):=[(.t 6,.one .d)]
theorem QFR (aS:Qc) (aM:Int) (aT:List Int) (h :
 let z3:=id (α:=Qc) aS
 let z8:=List.take ((z3.2.2.2.2.2.2.2.2.2.2.2.1).length) (List.drop 0 (z3.2.2.2.2.2.2.2.2.2.2.2.1))
 let z9:=List.take ((z3.2.2.2.2.2.2.2.2.2.2.1).length) (List.drop 0 (z3.2.2.2.2.2.2.2.2.2.2.1))
 let z10:=List.take ((z3.2.2.2.2.2.2.2.2.2.1).length) (List.drop 0 (z3.2.2.2.2.2.2.2.2.2.1))
 let z12:=List.take ((z3.2.2.2.2.2.2.2.2.1).length) (List.drop 0 (z3.2.2.2.2.2.2.2.2.1))
 let z13:=List.take ((z3.2.2.2.2.2.2.2.1).length) (List.drop 0 (z3.2.2.2.2.2.2.2.1))
 let z14:=List.take ((z3.2.2.2.2.2.2.1).length) (List.drop 0 (z3.2.2.2.2.2.2.1))
 let z15:=List.take ((z3.2.2.2.2.2.1).length) (List.drop 0 (z3.2.2.2.2.2.1))
 let z16:=List.take ((z3.2.2.1).length) (List.drop 0 (z3.2.2.1))
 let z17:=List.take ((z3.2.1).length) (List.drop 0 (z3.2.1))
 let z21:=id (α:=List Int) aT
 let z11:=List.take (z21.length) (List.drop 0 z21)
 let z1:=Qu (z3.1,z17,z16,z3.2.2.2.1,z3.2.2.2.2.1,z15,z14,z13,z12,z10,z9,z8,z3.2.2.2.2.2.2.2.2.2.2.2.2.1,z3.2.2.2.2.2.2.2.2.2.2.2.2.2) aM z11
 let z4:=QaP (z3.1,z17,z16,z3.2.2.2.1,z3.2.2.2.2.1,z15,z14,z13,z12,z10,z9,z8,z3.2.2.2.2.2.2.2.2.2.2.2.2.1,z3.2.2.2.2.2.2.2.2.2.2.2.2.2) aM z11
 let z5:=m_eq (α:=Qc) (z1.1,(List.take ((z1.2.1).length) (List.drop 0 (z1.2.1))),(List.take ((z1.2.2.1).length) (List.drop 0 (z1.2.2.1))),z1.2.2.2.1,z1.2.2.2.2.1,(List.take ((z1.2.2.2.2.2.1).length) (List.drop 0 (z1.2.2.2.2.2.1))),(List.take ((z1.2.2.2.2.2.2.1).length) (List.drop 0 (z1.2.2.2.2.2.2.1))),(List.take ((z1.2.2.2.2.2.2.2.1).length) (List.drop 0 (z1.2.2.2.2.2.2.2.1))),(List.take ((z1.2.2.2.2.2.2.2.2.1).length) (List.drop 0 (z1.2.2.2.2.2.2.2.2.1))),(List.take ((z1.2.2.2.2.2.2.2.2.2.1).length) (List.drop 0 (z1.2.2.2.2.2.2.2.2.2.1))),(List.take ((z1.2.2.2.2.2.2.2.2.2.2.1).length) (List.drop 0 (z1.2.2.2.2.2.2.2.2.2.2.1))),(List.take ((z1.2.2.2.2.2.2.2.2.2.2.2.1).length) (List.drop 0 (z1.2.2.2.2.2.2.2.2.2.2.2.1))),z1.2.2.2.2.2.2.2.2.2.2.2.2.1,z1.2.2.2.2.2.2.2.2.2.2.2.2.2) z1
 let z7:=QL (α:=Qc) z1 (1:Int)
 let z18:=List.take ((z1.2.2.2.2.2.2.2.2.2.2.2.1).length) (List.drop 0 ((z7.2).2.2.2.2.2.2.2.2.2.2.2.1))
 let z19:=List.take ((z1.2.2.2.2.2.2.2.2.2.2.1).length) (List.drop 0 ((z7.2).2.2.2.2.2.2.2.2.2.2.1))
 let z20:=List.take ((z1.2.2.2.2.2.2.2.2.2.1).length) (List.drop 0 ((z7.2).2.2.2.2.2.2.2.2.2.1))
 let z22:=List.take ((z1.2.2.2.2.2.2.2.2.1).length) (List.drop 0 ((z7.2).2.2.2.2.2.2.2.2.1))
 let z23:=List.take ((z1.2.2.2.2.2.2.2.1).length) (List.drop 0 ((z7.2).2.2.2.2.2.2.2.1))
 let z24:=List.take ((z1.2.2.2.2.2.2.1).length) (List.drop 0 ((z7.2).2.2.2.2.2.2.1))
 let z25:=p_to (α:=List Int) aT
 let z26:=List.take ((z1.2.2.2.2.2.1).length) (List.drop 0 ((z7.2).2.2.2.2.2.1))
 let z27:=p_to (α:=Qc) aS
 let z28:=List.take ((z1.2.2.1).length) (List.drop 0 ((z7.2).2.2.1))
 let z29:=List.take ((z1.2.1).length) (List.drop 0 ((z7.2).2.1))
 let z2:=m_heldS (α:=Qc) (z1.1,z29,z28,z1.2.2.2.1,z1.2.2.2.2.1,z26,z24,z23,z22,z20,z19,z18,z1.2.2.2.2.2.2.2.2.2.2.2.2.1,z1.2.2.2.2.2.2.2.2.2.2.2.2.2) (1:Int)
 let z6:=ZW (α:=Qc) (z1.1,z29,z28,z1.2.2.2.1,z1.2.2.2.2.1,z26,z24,z23,z22,z20,z19,z18,z1.2.2.2.2.2.2.2.2.2.2.2.2.1,z1.2.2.2.2.2.2.2.2.2.2.2.2.2) (1:Int)
 (zif (decide ((aT.length:Int)>(1048576:Int))) (K (Yf true)) ((p_sz (α:=Qc) aS (1048576:Int))∧(zif (decide ((m_sz (α:=Qc) aS (1048576:Int))<(0:Int))) (K (Yf true)) ((z27∧(z25∧z4))∧(z27∧(z25∧(z4∧(zif (!z5) (K (Yf false)) (z27∧(zif (!(m_eq (α:=Qc) (z3.1,z17,z16,z3.2.2.2.1,z3.2.2.2.2.1,z15,z14,z13,z12,z10,z9,z8,z3.2.2.2.2.2.2.2.2.2.2.2.2.1,z3.2.2.2.2.2.2.2.2.2.2.2.2.2) (z3.1,z17,z16,z3.2.2.2.1,z3.2.2.2.2.1,z15,z14,z13,z12,z10,z9,z8,z3.2.2.2.2.2.2.2.2.2.2.2.2.1,z3.2.2.2.2.2.2.2.2.2.2.2.2.2))) (K (Yf false)) (z25∧(zif (!(m_eq (α:=List Int) z11 z11)) (K (Yf false)) ((((z3.2.1).length=(z3.2.1).length)∧(((z3.2.2.1).length=(z3.2.2.1).length)∧(((z3.2.2.2.2.2.1).length=(z3.2.2.2.2.2.1).length)∧(((z3.2.2.2.2.2.2.1).length=(z3.2.2.2.2.2.2.1).length)∧(((z3.2.2.2.2.2.2.2.1).length=(z3.2.2.2.2.2.2.2.1).length)∧(((z3.2.2.2.2.2.2.2.2.1).length=(z3.2.2.2.2.2.2.2.2.1).length)∧(((z3.2.2.2.2.2.2.2.2.2.1).length=(z3.2.2.2.2.2.2.2.2.2.1).length)∧(((z3.2.2.2.2.2.2.2.2.2.2.1).length=(z3.2.2.2.2.2.2.2.2.2.2.1).length)∧((z3.2.2.2.2.2.2.2.2.2.2.2.1).length=(z3.2.2.2.2.2.2.2.2.2.2.2.1).length)))))))))∧((z21.length=z21.length)∧(zif ((decide (((QD (α:=List Int) z21 ((QL (α:=Qc) z3 (1:Int)).1)).1)<(0:Int)))||(!z5)) (K (Yf false)) ((((z1.2.1).length=(z1.2.1).length)∧(((z1.2.2.1).length=(z1.2.2.1).length)∧(((z1.2.2.2.2.2.1).length=(z1.2.2.2.2.2.1).length)∧(((z1.2.2.2.2.2.2.1).length=(z1.2.2.2.2.2.2.1).length)∧(((z1.2.2.2.2.2.2.2.1).length=(z1.2.2.2.2.2.2.2.1).length)∧(((z1.2.2.2.2.2.2.2.2.1).length=(z1.2.2.2.2.2.2.2.2.1).length)∧(((z1.2.2.2.2.2.2.2.2.2.1).length=(z1.2.2.2.2.2.2.2.2.2.1).length)∧(((z1.2.2.2.2.2.2.2.2.2.2.1).length=(z1.2.2.2.2.2.2.2.2.2.2.1).length)∧((z1.2.2.2.2.2.2.2.2.2.2.2.1).length=(z1.2.2.2.2.2.2.2.2.2.2.2.1).length)))))))))∧(z6∧(zif (decide (z2<(0:Int))) (K (Yf false)) (zif (z2 != (z7.1)) (K (Yf false)) ((z27∧(z25∧z4))∧(zif (!z5) (K (Yf false)) (z6∧(zif (decide (z2<(0:Int))) (K (Yf false)) (zif (z2 != (z7.1)) (K (Yf false)) (K (Yf true))))))))))))))))))))))))))):Hold (tawp Qqj (0+0) QAk (TQ 0 0 QzX K) (Qd [(.a (Tup.cells Qs aS)),(.c TI aM),(.c (.sl [TI]) aT)])) :=
 Hold.of (by kernel_rfl) h
theorem l_FnExactStageBwd_h (aS:Qc) (aM:Int) (aT:List Int):TCon Tryz.prog 6 [(.a (Tup.cells Qs aS)),(.c TI aM),(.c (.sl [TI]) aT)] (Yf (Qkf aS aM aT)):=by
 refine Qh rfl fun hb=>tcg (Γ:=Qqj) (n:=95) (sg:=QxL.sg) Qi (TOkL.cons QKE (TOkL.cons QFO (TOkL.cons Qf4 (TOkL.cons QJ0 (TOkL.cons QGh (TOkL.cons Qym (TOkL.cons QfO (TOkL.cons Qzk (TOkL.cons Qgd (TOkL.cons QCd TOkL.nil)))))))))) (by kernel_rfl) (by kernel_rfl) (QFR _ aS aM aT ?_)
 refine ⟨fun _=>rfl,fun g_aT=>?_⟩
 have q_aT:=QJ3 (of_decide_eq_false g_aT)
 refine ⟨pl_0,fun _=>rfl,fun g_aS=>?_⟩
 have q_aS:=QE4 (of_decide_eq_false g_aS) (Int.le_refl _)
 have s1:Sz.sz aS≤1048576:=q_aS
 have hl:QaP aS aM aT:=by unfold QaP;omega
 have hg0:Sz.sz (Qu aS aM aT)≤4294967296:=by have:=QJ9 aS aM aT;omega
 have ka0:=Qqg (x:=aS) (k:=(1:Int)) (b:=1) (c:=1048576) ⟨by omega,by omega⟩ (Qsd aS) (show Sz.sz aS≤1048576 from q_aS) (by omega)
 have ka2:=QDx (x:=aT) (k:=(QL aS (1:Int)).1) (b:=16777217) (c:=1048576) ⟨ka0.2.1,by have:=ka0.2.2;omega⟩ (Qae aT) (show Sz.sz aT≤1048576 from q_aT) (by omega)
 have kn:¬ ((QD aT (QL aS (1:Int)).1).1<0):=by have:=ka2.2.1;omega
 have kr0:=Qqg (x:=(Qu aS aM aT)) (k:=(1:Int)) (b:=1) (c:=4294967296) ⟨by omega,by omega⟩ (Qsd _) hg0 (by omega)
 obtain ⟨kp0,kh0⟩:=QAZ kr0.1
 have kn0:¬ ((QL (Qu aS aM aT) (1:Int)).1<0):=by have:=kr0.2.1;omega
 have kt0_1:List.take ((Qu aS aM aT).2.1).length ((QL (Qu aS aM aT) (1:Int)).2.2.1)=(QL (Qu aS aM aT) (1:Int)).2.2.1:=Jm _ _
 have kt0_2:List.take ((Qu aS aM aT).2.2.1).length ((QL (Qu aS aM aT) (1:Int)).2.2.2.1)=(QL (Qu aS aM aT) (1:Int)).2.2.2.1:=Jm _ _
 have kt0_5:List.take ((Qu aS aM aT).2.2.2.2.2.1).length ((QL (Qu aS aM aT) (1:Int)).2.2.2.2.2.2.1)=(QL (Qu aS aM aT) (1:Int)).2.2.2.2.2.2.1:=Jm _ _
 have kt0_6:List.take ((Qu aS aM aT).2.2.2.2.2.2.1).length ((QL (Qu aS aM aT) (1:Int)).2.2.2.2.2.2.2.1)=(QL (Qu aS aM aT) (1:Int)).2.2.2.2.2.2.2.1:=Jm _ _
 have kt0_7:List.take ((Qu aS aM aT).2.2.2.2.2.2.2.1).length ((QL (Qu aS aM aT) (1:Int)).2.2.2.2.2.2.2.2.1)=(QL (Qu aS aM aT) (1:Int)).2.2.2.2.2.2.2.2.1:=Jm _ _
 have kt0_8:List.take ((Qu aS aM aT).2.2.2.2.2.2.2.2.1).length ((QL (Qu aS aM aT) (1:Int)).2.2.2.2.2.2.2.2.2.1)=(QL (Qu aS aM aT) (1:Int)).2.2.2.2.2.2.2.2.2.1:=Jm _ _
 have kt0_9:List.take ((Qu aS aM aT).2.2.2.2.2.2.2.2.2.1).length ((QL (Qu aS aM aT) (1:Int)).2.2.2.2.2.2.2.2.2.2.1)=(QL (Qu aS aM aT) (1:Int)).2.2.2.2.2.2.2.2.2.2.1:=Jm _ _
 have kt0_10:List.take ((Qu aS aM aT).2.2.2.2.2.2.2.2.2.2.1).length ((QL (Qu aS aM aT) (1:Int)).2.2.2.2.2.2.2.2.2.2.2.1)=(QL (Qu aS aM aT) (1:Int)).2.2.2.2.2.2.2.2.2.2.2.1:=Jm _ _
 have kt0_11:List.take ((Qu aS aM aT).2.2.2.2.2.2.2.2.2.2.2.1).length ((QL (Qu aS aM aT) (1:Int)).2.2.2.2.2.2.2.2.2.2.2.2.1)=(QL (Qu aS aM aT) (1:Int)).2.2.2.2.2.2.2.2.2.2.2.2.1:=Jm _ _
 have ke0:((Qu aS aM aT).1,(QL (Qu aS aM aT) (1:Int)).2.2.1,(QL (Qu aS aM aT) (1:Int)).2.2.2.1,(Qu aS aM aT).2.2.2.1,(Qu aS aM aT).2.2.2.2.1,(QL (Qu aS aM aT) (1:Int)).2.2.2.2.2.2.1,(QL (Qu aS aM aT) (1:Int)).2.2.2.2.2.2.2.1,(QL (Qu aS aM aT) (1:Int)).2.2.2.2.2.2.2.2.1,(QL (Qu aS aM aT) (1:Int)).2.2.2.2.2.2.2.2.2.1,(QL (Qu aS aM aT) (1:Int)).2.2.2.2.2.2.2.2.2.2.1,(QL (Qu aS aM aT) (1:Int)).2.2.2.2.2.2.2.2.2.2.2.1,(QL (Qu aS aM aT) (1:Int)).2.2.2.2.2.2.2.2.2.2.2.2.1,(Qu aS aM aT).2.2.2.2.2.2.2.2.2.2.2.2.1,(Qu aS aM aT).2.2.2.2.2.2.2.2.2.2.2.2.2)=(QL (Qu aS aM aT) (1:Int)).2:=rfl
 simp only [id_eq,List.drop_zero,List.take_length,Prod.eta]
 simp [zif,m_eq,QDj,QHF,Qkf,QC6,QCN,q_aT,q_aS,kn,kp0,kh0,kn0,kt0_1,kt0_2,kt0_5,kt0_6,kt0_7,kt0_8,kt0_9,kt0_10,kt0_11,ke0,hl]
end
end Go.Proofs.YtdplaepmjogjjaaGreat.Am

