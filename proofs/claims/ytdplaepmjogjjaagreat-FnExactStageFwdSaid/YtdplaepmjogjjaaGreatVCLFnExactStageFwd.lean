/-
  Written by program: the code of functions, what it asks, and that it comes to what the models say.
-/
import Derived.Test.YtdplaepmjogjjaaGreatVCH5
import Derived.Test.YtdplaepmjogjjaaGreatVCH1
import Derived.Test.YtdplaepmjogjjaaGreatVCPP
import Derived.Test.YtdplaepmjogjjaaGreatVCMK3
import Derived.Test.YtdplaepmjogjjaaGreatVCMK1
import Derived.Test.YtdplaepmjogjjaaGreatVCGF
namespace Go.Proofs.YtdplaepmjogjjaaGreat.Am
open Go Go.RowKit Go.Proofs.YtdplaepmjogjjaaGreat
set_option linter.all false
set_option maxHeartbeats 2000000
noncomputable section
variable (K:TRes→Prop)
def ZM (t:Bool):TRes:=zre (zcb t)
def QxJ:TRow:=Qg 5 [(.a Qp),(.c TI),(.c (.sl [TI])),(.c (.sl [TI]))] fun x=>(none,ZM (Qgm x.1 x.2.1 x.2.2.1 x.2.2.2.1))
def Qkj:TTab:=⟨[Qg2,Qg9,QbA,QhE,Qgy,Qit,QbF,Qi1,Qbd,Qhn],false⟩
def QBc:TCode :=
 (zsq [(.reg [zop 4 (.box 30 0 14),zmv 8 (zkb false)]),(zsq [(.reg [zmv 19 2,zle 20 19,zbi 21 .gtr 20 (zki 1048576)]),(.cond 21 (zsq [(.reg [zmv 8 (zkb true)]),.ret]) .skip)]),(zsq [(.reg [zmv 22 3,zle 23 22,zbi 24 .gtr 23 (zki 1048576)]),(.cond 24 (zsq [(.reg [zmv 8 (zkb true)]),.ret]) .skip)]),(.reg [zmv 9 (zki 1048576)]),(.reg [zLd 25 4 14,zmv 26 9,zca 27 12 [25,26],zmv 9 27]),(zsq [(.reg [zmv 28 9,zbi 29 .lss 28 (zki 0)]),(.cond 29 (zsq [(.reg [zmv 8 (zkb true)]),.ret]) .skip)]),(.reg [zLd 30 4 14,zca 31 14 [30],zmv 32 1,zmv 33 2,zca 34 29 [33],zmv 35 3,zca 36 29 [35],zca 37 28 [31,32,34,36],zop 10 (.new 39 (z0s Qp)),zst 10 37 14]),(.reg [zLd 38 4 14,zca 39 14 [38],zop 11 (.new 39 (z0s Qp)),zst 11 39 14]),(.reg [zmv 40 2,zca 41 29 [40],zmv 12 41]),(.reg [zmv 42 3,zca 43 29 [42],zmv 13 43]),(.reg [zLd 44 11 14,zmv 45 1,zmv 46 12,zmv 47 13,zca 48 30 [44,45,46,47],zop 14 (.new 39 (z0s Qp)),zst 14 48 14]),(zsq [(.reg [zLd 49 14 14,zLd 50 10 14,zca 51 16 [49,50],zno 52 51]),(.cond 52 (zsq [(.reg [zmv 8 (zkb false)]),.ret]) .skip)]),(zsq [(.draw [zLd 53 11 14,zLd 54 4 14,zca 55 14 [54],zca 56 16 [53,55],zno 57 56] [(0,2)]),(.cond 57 (zsq [(.reg [zmv 8 (zkb false)]),.ret]) .skip)]),(zsq [(.reg [zmv 58 12,zmv 59 2,zca 60 29 [59],zca 61 23 [58,60],zno 62 61]),(.cond 62 (zsq [(.reg [zmv 8 (zkb false)]),.ret]) .skip)]),(zsq [(.reg [zmv 63 13,zmv 64 3,zca 65 29 [64],zca 66 23 [63,65],zno 67 66]),(.cond 67 (zsq [(.reg [zmv 8 (zkb false)]),.ret]) .skip)]),(.reg [zmv 15 (zki 1)]),(.reg [zLd 68 11 14,zmv 69 15,zca 70 17 [68,69],zmv 15 70]),(.reg [zmv 71 12,zmv 72 15,zca 73 26 [71,72],zmv 15 73]),(.reg [zmv 74 13,zmv 75 15,zca 76 26 [74,75],zmv 15 76]),(zsq [(.reg [zmv 77 15,zbi 78 .lss 77 (zki 0),zmv 79 78,.grp 79 false [zLd 80 14 14,zLd 81 10 14,zca 82 16 [80,81],zno 83 82] 84 83]),(.cond 84 (zsq [(.reg [zmv 8 (zkb false)]),.ret]) .skip)]),(.reg [zmv 16 (zki 1)]),(.reg [zLd 85 14 14,zmv 86 16,zca 87 17 [85,86],zmv 16 87]),(.reg [zmv 17 (zki 1)]),(.reg [zLd 88 14 14,zmv 89 17,zca 90 18 [88,89],zmv 17 90]),(zsq [(.reg [zmv 91 17,zbi 92 .lss 91 (zki 0)]),(.cond 92 (zsq [(.reg [zmv 8 (zkb false)]),.ret]) .skip)]),(zsq [(.reg [zmv 93 17,zmv 94 16,zbi 95 .neq 93 94]),(.cond 95 (zsq [(.reg [zmv 8 (zkb false)]),.ret]) .skip)]),(.reg [zLd 96 4 14,zca 97 14 [96],zmv 98 1,zmv 99 2,zca 100 29 [99],zmv 101 3,zca 102 29 [101],zca 103 30 [97,98,100,102],zop 18 (.new 39 (z0s Qp)),zst 18 103 14]),(zsq [(.reg [zLd 104 18 14,zLd 105 10 14,zca 106 16 [104,105],zno 107 106]),(.cond 107 (zsq [(.reg [zmv 8 (zkb false)]),.ret]) .skip)]),(.reg [zmv 17 (zki 1)]),(.reg [zLd 108 14 14,zmv 109 17,zca 110 18 [108,109],zmv 17 110]),(zsq [(.reg [zmv 111 17,zbi 112 .lss 111 (zki 0)]),(.cond 112 (zsq [(.reg [zmv 8 (zkb false)]),.ret]) .skip)]),(zsq [(.reg [zmv 113 17,zmv 114 16,zbi 115 .neq 113 114]),(.cond 115 (zsq [(.reg [zmv 8 (zkb false)]),.ret]) .skip)]),(.reg [zmv 8 (zkb true)]),.ret])
def Qy9:List (ARv × Md):=[(.t 8,.one .d)]
theorem QFY (aS:Qc) (aM:Int) (aX:List Int) (aT:List Int) (h :
 let z3:=id (α:=Qc) aS
 let z8:=List.take ((z3.2.2.2.2.2.2.2.2.2.2.2.1).length) (List.drop 0 (z3.2.2.2.2.2.2.2.2.2.2.2.1))
 let z9:=List.take ((z3.2.2.2.2.2.2.2.2.2.2.1).length) (List.drop 0 (z3.2.2.2.2.2.2.2.2.2.2.1))
 let z10:=List.take ((z3.2.2.2.2.2.2.2.2.2.1).length) (List.drop 0 (z3.2.2.2.2.2.2.2.2.2.1))
 let z13:=List.take ((z3.2.2.2.2.2.2.2.2.1).length) (List.drop 0 (z3.2.2.2.2.2.2.2.2.1))
 let z14:=List.take ((z3.2.2.2.2.2.2.2.1).length) (List.drop 0 (z3.2.2.2.2.2.2.2.1))
 let z15:=List.take ((z3.2.2.2.2.2.2.1).length) (List.drop 0 (z3.2.2.2.2.2.2.1))
 let z16:=List.take ((z3.2.2.2.2.2.1).length) (List.drop 0 (z3.2.2.2.2.2.1))
 let z17:=List.take ((z3.2.2.1).length) (List.drop 0 (z3.2.2.1))
 let z18:=List.take ((z3.2.1).length) (List.drop 0 (z3.2.1))
 let z22:=id (α:=List Int) aX
 let z11:=List.take (z22.length) (List.drop 0 z22)
 let z23:=id (α:=List Int) aT
 let z12:=List.take (z23.length) (List.drop 0 z23)
 let z1:=Qt (z3.1,z18,z17,z3.2.2.2.1,z3.2.2.2.2.1,z16,z15,z14,z13,z10,z9,z8,z3.2.2.2.2.2.2.2.2.2.2.2.2.1,z3.2.2.2.2.2.2.2.2.2.2.2.2.2) aM z11 z12
 let z4:=J0 (z3.1,z18,z17,z3.2.2.2.1,z3.2.2.2.2.1,z16,z15,z14,z13,z10,z9,z8,z3.2.2.2.2.2.2.2.2.2.2.2.2.1,z3.2.2.2.2.2.2.2.2.2.2.2.2.2) aM z11 z12
 let z5:=m_eq (α:=Qc) (z1.1,(List.take ((z1.2.1).length) (List.drop 0 (z1.2.1))),(List.take ((z1.2.2.1).length) (List.drop 0 (z1.2.2.1))),z1.2.2.2.1,z1.2.2.2.2.1,(List.take ((z1.2.2.2.2.2.1).length) (List.drop 0 (z1.2.2.2.2.2.1))),(List.take ((z1.2.2.2.2.2.2.1).length) (List.drop 0 (z1.2.2.2.2.2.2.1))),(List.take ((z1.2.2.2.2.2.2.2.1).length) (List.drop 0 (z1.2.2.2.2.2.2.2.1))),(List.take ((z1.2.2.2.2.2.2.2.2.1).length) (List.drop 0 (z1.2.2.2.2.2.2.2.2.1))),(List.take ((z1.2.2.2.2.2.2.2.2.2.1).length) (List.drop 0 (z1.2.2.2.2.2.2.2.2.2.1))),(List.take ((z1.2.2.2.2.2.2.2.2.2.2.1).length) (List.drop 0 (z1.2.2.2.2.2.2.2.2.2.2.1))),(List.take ((z1.2.2.2.2.2.2.2.2.2.2.2.1).length) (List.drop 0 (z1.2.2.2.2.2.2.2.2.2.2.2.1))),z1.2.2.2.2.2.2.2.2.2.2.2.2.1,z1.2.2.2.2.2.2.2.2.2.2.2.2.2) z1
 let z7:=QG (α:=Qc) z1 (1:Int)
 let z19:=List.take ((z1.2.2.2.2.2.2.2.2.2.2.2.1).length) (List.drop 0 ((z7.2).2.2.2.2.2.2.2.2.2.2.2.1))
 let z20:=List.take ((z1.2.2.2.2.2.2.2.2.2.2.1).length) (List.drop 0 ((z7.2).2.2.2.2.2.2.2.2.2.2.1))
 let z21:=List.take ((z1.2.2.2.2.2.2.2.2.2.1).length) (List.drop 0 ((z7.2).2.2.2.2.2.2.2.2.2.1))
 let z24:=List.take ((z1.2.2.2.2.2.2.2.2.1).length) (List.drop 0 ((z7.2).2.2.2.2.2.2.2.2.1))
 let z25:=List.take ((z1.2.2.2.2.2.2.2.1).length) (List.drop 0 ((z7.2).2.2.2.2.2.2.2.1))
 let z26:=List.take ((z1.2.2.2.2.2.2.1).length) (List.drop 0 ((z7.2).2.2.2.2.2.2.1))
 let z27:=p_to (α:=List Int) aX
 let z28:=p_to (α:=List Int) aT
 let z29:=List.take ((z1.2.2.2.2.2.1).length) (List.drop 0 ((z7.2).2.2.2.2.2.1))
 let z30:=p_to (α:=Qc) aS
 let z31:=List.take ((z1.2.2.1).length) (List.drop 0 ((z7.2).2.2.1))
 let z32:=List.take ((z1.2.1).length) (List.drop 0 ((z7.2).2.1))
 let z2:=m_heldS (α:=Qc) (z1.1,z32,z31,z1.2.2.2.1,z1.2.2.2.2.1,z29,z26,z25,z24,z21,z20,z19,z1.2.2.2.2.2.2.2.2.2.2.2.2.1,z1.2.2.2.2.2.2.2.2.2.2.2.2.2) (1:Int)
 let z6:=ZI (α:=Qc) (z1.1,z32,z31,z1.2.2.2.1,z1.2.2.2.2.1,z29,z26,z25,z24,z21,z20,z19,z1.2.2.2.2.2.2.2.2.2.2.2.2.1,z1.2.2.2.2.2.2.2.2.2.2.2.2.2) (1:Int)
 (zif (decide ((aX.length:Int)>(1048576:Int))) (K (ZM true)) (zif (decide ((aT.length:Int)>(1048576:Int))) (K (ZM true)) ((p_sz (α:=Qc) aS (1048576:Int))∧(zif (decide ((m_sz (α:=Qc) aS (1048576:Int))<(0:Int))) (K (ZM true)) ((z30∧(z27∧(z28∧z4)))∧(z30∧(z27∧(z28∧(z4∧(zif (!z5) (K (ZM false)) (z30∧(zif (!(m_eq (α:=Qc) (z3.1,z18,z17,z3.2.2.2.1,z3.2.2.2.2.1,z16,z15,z14,z13,z10,z9,z8,z3.2.2.2.2.2.2.2.2.2.2.2.2.1,z3.2.2.2.2.2.2.2.2.2.2.2.2.2) (z3.1,z18,z17,z3.2.2.2.1,z3.2.2.2.2.1,z16,z15,z14,z13,z10,z9,z8,z3.2.2.2.2.2.2.2.2.2.2.2.2.1,z3.2.2.2.2.2.2.2.2.2.2.2.2.2))) (K (ZM false)) (z27∧(zif (!(m_eq (α:=List Int) z11 z11)) (K (ZM false)) (z28∧(zif (!(m_eq (α:=List Int) z12 z12)) (K (ZM false)) ((((z3.2.1).length=(z3.2.1).length)∧(((z3.2.2.1).length=(z3.2.2.1).length)∧(((z3.2.2.2.2.2.1).length=(z3.2.2.2.2.2.1).length)∧(((z3.2.2.2.2.2.2.1).length=(z3.2.2.2.2.2.2.1).length)∧(((z3.2.2.2.2.2.2.2.1).length=(z3.2.2.2.2.2.2.2.1).length)∧(((z3.2.2.2.2.2.2.2.2.1).length=(z3.2.2.2.2.2.2.2.2.1).length)∧(((z3.2.2.2.2.2.2.2.2.2.1).length=(z3.2.2.2.2.2.2.2.2.2.1).length)∧(((z3.2.2.2.2.2.2.2.2.2.2.1).length=(z3.2.2.2.2.2.2.2.2.2.2.1).length)∧((z3.2.2.2.2.2.2.2.2.2.2.2.1).length=(z3.2.2.2.2.2.2.2.2.2.2.2.1).length)))))))))∧((z22.length=z22.length)∧((z23.length=z23.length)∧(zif ((decide (((Qz (α:=List Int) z23 ((Qz (α:=List Int) z22 ((QG (α:=Qc) z3 (1:Int)).1)).1)).1)<(0:Int)))||(!z5)) (K (ZM false)) ((((z1.2.1).length=(z1.2.1).length)∧(((z1.2.2.1).length=(z1.2.2.1).length)∧(((z1.2.2.2.2.2.1).length=(z1.2.2.2.2.2.1).length)∧(((z1.2.2.2.2.2.2.1).length=(z1.2.2.2.2.2.2.1).length)∧(((z1.2.2.2.2.2.2.2.1).length=(z1.2.2.2.2.2.2.2.1).length)∧(((z1.2.2.2.2.2.2.2.2.1).length=(z1.2.2.2.2.2.2.2.2.1).length)∧(((z1.2.2.2.2.2.2.2.2.2.1).length=(z1.2.2.2.2.2.2.2.2.2.1).length)∧(((z1.2.2.2.2.2.2.2.2.2.2.1).length=(z1.2.2.2.2.2.2.2.2.2.2.1).length)∧((z1.2.2.2.2.2.2.2.2.2.2.2.1).length=(z1.2.2.2.2.2.2.2.2.2.2.2.1).length)))))))))∧(z6∧(zif (decide (z2<(0:Int))) (K (ZM false)) (zif (z2 != (z7.1)) (K (ZM false)) ((z30∧(z27∧(z28∧z4)))∧(zif (!z5) (K (ZM false)) (z6∧(zif (decide (z2<(0:Int))) (K (ZM false)) (zif (z2 != (z7.1)) (K (ZM false)) (K (ZM true)))))))))))))))))))))))))))))))):Hold (tawp Qkj (0+0) QBc (TQ 0 0 Qy9 K) (Qd [(.a (Tup.cells Qp aS)),(.c TI aM),(.c (.sl [TI]) aX),(.c (.sl [TI]) aT)])) :=
 Hold.of (by kernel_rfl) h
theorem l_FnExactStageFwd_h (aS:Qc) (aM:Int) (aX:List Int) (aT:List Int):TCon Tryz.prog 5 [(.a (Tup.cells Qp aS)),(.c TI aM),(.c (.sl [TI]) aX),(.c (.sl [TI]) aT)] (ZM (Qgm aS aM aX aT)):=by
 refine Qi rfl fun hb=>tcg (Γ:=Qkj) (n:=116) (sg:=QxJ.sg) Qj (TOkL.cons QCG (TOkL.cons Qzl (TOkL.cons Qe7 (TOkL.cons QHM (TOkL.cons QFm (TOkL.cons Qur (TOkL.cons Qer (TOkL.cons QBN (TOkL.cons Qfz (TOkL.cons QAm TOkL.nil)))))))))) (by kernel_rfl) (by kernel_rfl) (QFY _ aS aM aX aT ?_)
 refine ⟨fun _=>rfl,fun g_aX=>?_⟩
 have q_aX:=QoX (of_decide_eq_false g_aX)
 refine ⟨fun _=>rfl,fun g_aT=>?_⟩
 have q_aT:=QoX (of_decide_eq_false g_aT)
 refine ⟨pl_0,fun _=>rfl,fun g_aS=>?_⟩
 have q_aS:=Qyi (of_decide_eq_false g_aS) (Int.le_refl _)
 have s1:Sz.sz aS≤1048576:=q_aS
 have hl:J0 aS aM aX aT:=by unfold J0;omega
 have hg0:Sz.sz (Qt aS aM aX aT)≤4294967296:=by have:=QGV aS aM aX aT;omega
 have ka0:=QtP (x:=aS) (k:=(1:Int)) (b:=1) (c:=1048576) ⟨by omega,by omega⟩ (Ql6 aS) (show Sz.sz aS≤1048576 from q_aS) (by omega)
 have ka2:=Qog (x:=aX) (k:=(QG aS (1:Int)).1) (b:=16777217) (c:=1048576) ⟨ka0.2.1,by have:=ka0.2.2;omega⟩ (JK aX) (show Sz.sz aX≤1048576 from q_aX) (by omega)
 have ka3:=Qog (x:=aT) (k:=(Qz aX (QG aS (1:Int)).1).1) (b:=33554433) (c:=1048576) ⟨ka2.2.1,by have:=ka2.2.2;omega⟩ (JK aT) (show Sz.sz aT≤1048576 from q_aT) (by omega)
 have kn:¬ ((Qz aT (Qz aX (QG aS (1:Int)).1).1).1<0):=by have:=ka3.2.1;omega
 have kr0:=QtP (x:=(Qt aS aM aX aT)) (k:=(1:Int)) (b:=1) (c:=4294967296) ⟨by omega,by omega⟩ (Ql6 _) hg0 (by omega)
 obtain ⟨kp0,kh0⟩:=Qvr kr0.1
 have kn0:¬ ((QG (Qt aS aM aX aT) (1:Int)).1<0):=by have:=kr0.2.1;omega
 have kt0_1:List.take ((Qt aS aM aX aT).2.1).length ((QG (Qt aS aM aX aT) (1:Int)).2.2.1)=(QG (Qt aS aM aX aT) (1:Int)).2.2.1:=Y2 _ _
 have kt0_2:List.take ((Qt aS aM aX aT).2.2.1).length ((QG (Qt aS aM aX aT) (1:Int)).2.2.2.1)=(QG (Qt aS aM aX aT) (1:Int)).2.2.2.1:=Y2 _ _
 have kt0_5:List.take ((Qt aS aM aX aT).2.2.2.2.2.1).length ((QG (Qt aS aM aX aT) (1:Int)).2.2.2.2.2.2.1)=(QG (Qt aS aM aX aT) (1:Int)).2.2.2.2.2.2.1:=Y2 _ _
 have kt0_6:List.take ((Qt aS aM aX aT).2.2.2.2.2.2.1).length ((QG (Qt aS aM aX aT) (1:Int)).2.2.2.2.2.2.2.1)=(QG (Qt aS aM aX aT) (1:Int)).2.2.2.2.2.2.2.1:=Y2 _ _
 have kt0_7:List.take ((Qt aS aM aX aT).2.2.2.2.2.2.2.1).length ((QG (Qt aS aM aX aT) (1:Int)).2.2.2.2.2.2.2.2.1)=(QG (Qt aS aM aX aT) (1:Int)).2.2.2.2.2.2.2.2.1:=Y2 _ _
 have kt0_8:List.take ((Qt aS aM aX aT).2.2.2.2.2.2.2.2.1).length ((QG (Qt aS aM aX aT) (1:Int)).2.2.2.2.2.2.2.2.2.1)=(QG (Qt aS aM aX aT) (1:Int)).2.2.2.2.2.2.2.2.2.1:=Y2 _ _
 have kt0_9:List.take ((Qt aS aM aX aT).2.2.2.2.2.2.2.2.2.1).length ((QG (Qt aS aM aX aT) (1:Int)).2.2.2.2.2.2.2.2.2.2.1)=(QG (Qt aS aM aX aT) (1:Int)).2.2.2.2.2.2.2.2.2.2.1:=Y2 _ _
 have kt0_10:List.take ((Qt aS aM aX aT).2.2.2.2.2.2.2.2.2.2.1).length ((QG (Qt aS aM aX aT) (1:Int)).2.2.2.2.2.2.2.2.2.2.2.1)=(QG (Qt aS aM aX aT) (1:Int)).2.2.2.2.2.2.2.2.2.2.2.1:=Y2 _ _
 have kt0_11:List.take ((Qt aS aM aX aT).2.2.2.2.2.2.2.2.2.2.2.1).length ((QG (Qt aS aM aX aT) (1:Int)).2.2.2.2.2.2.2.2.2.2.2.2.1)=(QG (Qt aS aM aX aT) (1:Int)).2.2.2.2.2.2.2.2.2.2.2.2.1:=Y2 _ _
 have ke0:((Qt aS aM aX aT).1,(QG (Qt aS aM aX aT) (1:Int)).2.2.1,(QG (Qt aS aM aX aT) (1:Int)).2.2.2.1,(Qt aS aM aX aT).2.2.2.1,(Qt aS aM aX aT).2.2.2.2.1,(QG (Qt aS aM aX aT) (1:Int)).2.2.2.2.2.2.1,(QG (Qt aS aM aX aT) (1:Int)).2.2.2.2.2.2.2.1,(QG (Qt aS aM aX aT) (1:Int)).2.2.2.2.2.2.2.2.1,(QG (Qt aS aM aX aT) (1:Int)).2.2.2.2.2.2.2.2.2.1,(QG (Qt aS aM aX aT) (1:Int)).2.2.2.2.2.2.2.2.2.2.1,(QG (Qt aS aM aX aT) (1:Int)).2.2.2.2.2.2.2.2.2.2.2.1,(QG (Qt aS aM aX aT) (1:Int)).2.2.2.2.2.2.2.2.2.2.2.2.1,(Qt aS aM aX aT).2.2.2.2.2.2.2.2.2.2.2.2.1,(Qt aS aM aX aT).2.2.2.2.2.2.2.2.2.2.2.2.2)=(QG (Qt aS aM aX aT) (1:Int)).2:=rfl
 simp only [id_eq,List.drop_zero,List.take_length,Prod.eta]
 simp [zif,m_eq,QzP,QDj,QzG,Qgm,QDn,q_aX,q_aT,q_aS,kn,kp0,kh0,kn0,kt0_1,kt0_2,kt0_5,kt0_6,kt0_7,kt0_8,kt0_9,kt0_10,kt0_11,ke0,hl]
end
end Go.Proofs.YtdplaepmjogjjaaGreat.Am

