/-
  Written by program: the code of functions, what it asks, and that it comes to what the models say.
-/
import Derived.Test.YtephkbajoofeoaaWAH3
import Derived.Test.YtephkbajoofeoaaWAPO
import Derived.Test.YtephkbajoofeoaaWAMK2
import Derived.Test.YtephkbajoofeoaaWAGF
namespace Go.Proofs.Ytephkbajoofeoaa.Am
open Go Go.RowKit Go.Proofs.Ytephkbajoofeoaa
set_option linter.all false
set_option maxHeartbeats 2000000
noncomputable section
variable (K:TRes→Prop)
def Q2 (t:Bool):TRes:=zre (zcb t)
def Qjz:TRow:=Qn 6 [(.a Qx),(.a Qc)] fun x=>(none,Q2 (Qbo x.1 x.2.1))
def Qh5:TTab:=⟨[QcE,JV,QcW,Qaj,Qb1,QcU,Qbs,QaG,Qcv,QcC,Qcf],false⟩
def QkK:TCode :=
 (zsq [(.reg [zop 2 (.box 52 0 2),zop 3 (.box 53 1 2),zmv 4 (zkb false)]),(.reg [zmv 5 (zki 1048576)]),(.reg [zLd 17 2 2,zmv 18 5,zca 19 34 [17,18],zmv 5 19]),(zsq [(.reg [zmv 20 5,zbi 21 .lss 20 (zki 0)]),(.cond 21 (zsq [(.reg [zmv 4 (zkb true)]),.ret]) .skip)]),(.reg [zLd 22 3 2,zmv 23 5,zca 24 35 [22,23],zmv 5 24]),(zsq [(.reg [zmv 25 5,zbi 26 .lss 25 (zki 0)]),(.cond 26 (zsq [(.reg [zmv 4 (zkb true)]),.ret]) .skip)]),(.draw [zLd 28 2 2,zca 29 37 [28],zLd 30 3 2,zca 31 38 [30],zca 32 36 [29,31],zmv 27 32,zex 33 27 0,zex 34 27 1,zop 6 (.new 36 (z0s Qx)),zst 6 33 2,zmv 7 34] [(1,2),(0,8),(1,8),(2,8),(3,8),(4,8)]),(.reg [zLd 35 2 2,zca 36 37 [35],zop 8 (.new 36 (z0s Qx)),zst 8 36 2]),(.reg [zLd 37 3 2,zca 38 38 [37],zop 9 (.new 39 (z0s Qc)),zst 9 38 2]),(.reg [zLd 40 8 2,zLd 41 9 2,zca 42 28 [40,41],zmv 39 42,zex 43 39 0,zex 44 39 1,zop 10 (.new 36 (z0s Qx)),zst 10 43 2,zmv 11 44]),(zsq [(.reg [zLd 45 10 2,zLd 46 6 2,zca 47 39 [45,46],zno 48 47,zmv 49 48,.grp 49 false [zmv 50 11,zmv 51 7,zop 52 (.eqb true 50 51)] 53 52]),(.cond 53 (zsq [(.reg [zmv 4 (zkb false)]),.ret]) .skip)]),(zsq [(.draw [zLd 54 8 2,zLd 55 2 2,zca 56 37 [55],zca 57 39 [54,56],zno 58 57] [(0,2)]),(.cond 58 (zsq [(.reg [zmv 4 (zkb false)]),.ret]) .skip)]),(zsq [(.draw [zLd 59 9 2,zLd 60 3 2,zca 61 38 [60],zca 62 40 [59,61],zno 63 62] [(0,2)]),(.cond 63 (zsq [(.reg [zmv 4 (zkb false)]),.ret]) .skip)]),(.reg [zmv 12 (zki 1)]),(.reg [zLd 64 8 2,zmv 65 12,zca 66 41 [64,65],zmv 12 66]),(.reg [zLd 67 9 2,zmv 68 12,zca 69 42 [67,68],zmv 12 69]),(zsq [(.reg [zmv 70 12,zbi 71 .lss 70 (zki 0),zmv 72 71,.grp 72 false [zLd 73 10 2,zLd 74 6 2,zca 75 39 [73,74],zno 76 75] 77 76,zmv 78 77,.grp 78 false [zmv 79 11,zmv 80 7,zop 81 (.eqb true 79 80)] 82 81]),(.cond 82 (zsq [(.reg [zmv 4 (zkb false)]),.ret]) .skip)]),(.reg [zmv 13 (zki 1)]),(.reg [zLd 83 10 2,zmv 84 13,zca 85 41 [83,84],zmv 13 85]),(.reg [zmv 14 (zki 1)]),(.reg [zLd 86 10 2,zmv 87 14,zca 88 43 [86,87],zmv 14 88]),(zsq [(.reg [zmv 89 14,zbi 90 .lss 89 (zki 0)]),(.cond 90 (zsq [(.reg [zmv 4 (zkb false)]),.ret]) .skip)]),(zsq [(.reg [zmv 91 14,zmv 92 13,zbi 93 .neq 91 92]),(.cond 93 (zsq [(.reg [zmv 4 (zkb false)]),.ret]) .skip)]),(.draw [zLd 95 2 2,zca 96 37 [95],zLd 97 3 2,zca 98 38 [97],zca 99 28 [96,98],zmv 94 99,zex 100 94 0,zex 101 94 1,zop 15 (.new 36 (z0s Qx)),zst 15 100 2,zmv 16 101] [(1,2),(0,8),(1,8),(2,8),(3,8),(4,8)]),(zsq [(.reg [zLd 102 15 2,zLd 103 6 2,zca 104 39 [102,103],zno 105 104,zmv 106 105,.grp 106 false [zmv 107 16,zmv 108 7,zop 109 (.eqb true 107 108)] 110 109]),(.cond 110 (zsq [(.reg [zmv 4 (zkb false)]),.ret]) .skip)]),(.reg [zmv 14 (zki 1)]),(.reg [zLd 111 10 2,zmv 112 14,zca 113 43 [111,112],zmv 14 113]),(zsq [(.reg [zmv 114 14,zbi 115 .lss 114 (zki 0)]),(.cond 115 (zsq [(.reg [zmv 4 (zkb false)]),.ret]) .skip)]),(zsq [(.reg [zmv 116 14,zmv 117 13,zbi 118 .neq 116 117]),(.cond 118 (zsq [(.reg [zmv 4 (zkb false)]),.ret]) .skip)]),(.reg [zmv 4 (zkb true)]),.ret])
def Qkc:List (ARv × Md):=[(.t 4,.one .d)]
theorem Qjj (aQ:Qe) (aX:Qb) (h :
 let z5:=id (α:=Qe) aQ
 let z6:=id (α:=Qb) aX
 let z8:=List.take ((z5.2).length) (List.drop 0 (z5.2))
 let z9:=List.take ((z6.2).length) (List.drop 0 (z6.2))
 let z1:=QJ (z5.1,z8) (z6.1,z9)
 let z2:=ZI (α:=Qe) (β:=Qb) (z5.1,z8) (z6.1,z9)
 let z10:=QA (α:=Qe) (z1.1) (1:Int)
 let z3:=List.take (((z1.1).2).length) (List.drop 0 ((z10.2).2))
 let z7:=m_heldS (α:=Qe) ((z1.1).1,z3) (1:Int)
 let z11:=m_sz (α:=Qe) aQ (1048576:Int)
 let z12:=p_to (α:=Qe) aQ
 let z13:=p_to (α:=Qb) aX
 let z14:=List.take (((z1.1).2).length) (List.drop 0 ((z1.1).2))
 let z4:=m_eq (α:=Qe) ((z1.1).1,z14) ((z1.1).1,z14)
 let z15:=Zh (α:=Qe) ((z1.1).1,z3) (1:Int)
 ((p_sz (α:=Qe) aQ (1048576:Int))∧(zif (decide (z11<(0:Int))) (K (Q2 true)) ((p_sz (α:=Qb) aX z11)∧(zif (decide ((m_sz (α:=Qb) aX z11)<(0:Int))) (K (Q2 true)) ((z12∧(z13∧z2))∧(z12∧(z13∧(z2∧(zif ((!z4)||(!((z1.2)==(z1.2)))) (K (Q2 false)) (z12∧(zif (!(m_eq (α:=Qe) (z5.1,z8) (z5.1,z8))) (K (Q2 false)) (z13∧(zif (!(m_eq (α:=Qb) (z6.1,z9) (z6.1,z9))) (K (Q2 false)) (((z5.2).length=(z5.2).length)∧(((z6.2).length=(z6.2).length)∧(zif (((decide (((QA (α:=Qb) z6 ((QA (α:=Qe) z5 (1:Int)).1)).1)<(0:Int)))||(!z4))||(!((z1.2)==(z1.2)))) (K (Q2 false)) ((((z1.1).2).length=((z1.1).2).length)∧(z15∧(zif (decide (z7<(0:Int))) (K (Q2 false)) (zif (z7 != (z10.1)) (K (Q2 false)) ((z12∧(z13∧z2))∧(zif ((!z4)||(!((z1.2)==(z1.2)))) (K (Q2 false)) (z15∧(zif (decide (z7<(0:Int))) (K (Q2 false)) (zif (z7 != (z10.1)) (K (Q2 false)) (K (Q2 true)))))))))))))))))))))))))))):Hold (tawp Qh5 (0+0) QkK (TQ 0 0 Qkc K) (Ql [(.a [(.c TI aQ.1),(.c (.sl Qc) aQ.2)]),(.a [(.c TI aX.1),(.c (.sl [TI]) aX.2)])])) :=
 Hold.of (by kernel_rfl) h
theorem l_FnExactPush_h (aQ:Qe) (aX:Qb):TCon Try.prog 6 [(.a [(.c TI aQ.1),(.c (.sl Qc) aQ.2)]),(.a [(.c TI aX.1),(.c (.sl [TI]) aX.2)])] (Q2 (Qbo aQ aX)):=by
 refine Qp rfl fun hb=>tcg (Γ:=Qh5) (n:=119) (sg:=Qjz.sg) Qq (TOkL.cons Qil (TOkL.cons Qgx (TOkL.cons QlT (TOkL.cons Qh3 (TOkL.cons Qnz (TOkL.cons Qm1 (TOkL.cons QlO (TOkL.cons QgT (TOkL.cons QkE (TOkL.cons Qn0 (TOkL.cons QjU TOkL.nil))))))))))) (by kernel_rfl) (by kernel_rfl) (Qjj _ aQ aX ?_)
 refine ⟨pl_0,fun _=>rfl,fun g_aQ=>?_⟩
 have q_aQ:=QdR (of_decide_eq_false g_aQ) (Int.le_refl _)
 refine ⟨QnX (pl_0),fun _=>rfl,fun g_aX=>?_⟩
 have q_aX:=QdR (of_decide_eq_false g_aX) (Qle (of_decide_eq_false g_aQ) (Int.le_refl _))
 have s1:Sz.sz aQ≤1048576:=q_aQ
 have s2:Sz.sz aX≤1048576:=q_aX
 have hl:ZI (α:=Qe) (β:=Qb) aQ aX:=by unfold ZI;omega
 have hg0:Sz.sz (QJ aQ aX).1≤4294967296:=by
  unfold QJ
  simp only [QN,QM] at s1 s2
  split <;> simp only [QN,QM,QiE,QbO,Qkw] <;> omega
 have ka0:=Qcy (x:=aQ) (k:=(1:Int)) (b:=1) (c:=1048576) ⟨by omega,by omega⟩ (Qfx aQ) (show Sz.sz aQ≤1048576 from q_aQ) (by omega)
 have ka1:=Qcy (x:=aX) (k:=(QA aQ (1:Int)).1) (b:=16777217) (c:=1048576) ⟨ka0.2.1,by have:=ka0.2.2;omega⟩ (Qn3 aX) (show Sz.sz aX≤1048576 from q_aX) (by omega)
 have kn:¬ ((QA aX (QA aQ (1:Int)).1).1<0):=by have:=ka1.2.1;omega
 have kr0:=Qcy (x:=(QJ aQ aX).1) (k:=(1:Int)) (b:=1) (c:=4294967296) ⟨by omega,by omega⟩ (Qfx _) hg0 (by omega)
 obtain ⟨kp0,kh0⟩:=Qir kr0.1
 have kn0:¬ ((QA (QJ aQ aX).1 (1:Int)).1<0):=by have:=kr0.2.1;omega
 have kt0_1:List.take (((QJ aQ aX).1).2).length ((QA (QJ aQ aX).1 (1:Int)).2.2)=(QA (QJ aQ aX).1 (1:Int)).2.2:=QmT _ _
 have ke0:(((QJ aQ aX).1).1,(QA (QJ aQ aX).1 (1:Int)).2.2)=(QA (QJ aQ aX).1 (1:Int)).2:=rfl
 simp only [id_eq,List.drop_zero,List.take_length,Prod.eta]
 simp [zif,m_eq,Qlh,Qbo,Qky,QnF,Qls,q_aQ,q_aX,kn,kp0,kh0,kn0,kt0_1,ke0,hl]
end
end Go.Proofs.Ytephkbajoofeoaa.Am

