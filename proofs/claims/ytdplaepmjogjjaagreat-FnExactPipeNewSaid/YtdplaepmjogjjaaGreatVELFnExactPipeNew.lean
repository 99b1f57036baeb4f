/-
  Written by program: the code of functions, what it asks, and that it comes to what the models say.
-/
import Derived.Test.YtdplaepmjogjjaaGreatVEH7
import Derived.Test.YtdplaepmjogjjaaGreatVEH1
import Derived.Test.YtdplaepmjogjjaaGreatVEPQ
import Derived.Test.YtdplaepmjogjjaaGreatVEH6
import Derived.Test.YtdplaepmjogjjaaGreatVEMK4
import Derived.Test.YtdplaepmjogjjaaGreatVEMK1
import Derived.Test.YtdplaepmjogjjaaGreatVEGF
namespace Go.Proofs.YtdplaepmjogjjaaGreat.Am
open Go Go.RowKit Go.Proofs.YtdplaepmjogjjaaGreat
set_option linter.all false
set_option maxHeartbeats 2000000
noncomputable section
variable (K:TRes→Prop)
def ZX (t:Bool):TRes:=zre (zcb t)
def QET:TRow:=Qg 7 [(.a Qv),(.c (.sl Qj))] fun x=>(none,ZX (Qhr x.1 x.2.1))
def QnI:TTab:=⟨[Qjh,QiJ,QhD,Qg2,QkA,QkD,Qhq,QhW,QdU,QkL,Qez,Qil,Qhf],false⟩
def QBu:TCode :=
 (zsq [(.reg [zop 2 (.box 72 0 6),zmv 4 (zkb false)]),(.reg [zmv 5 (zki 1048576)]),(.reg [zLd 14 2 6,zmv 15 5,zca 16 33 [14,15],zmv 5 16]),(zsq [(.reg [zmv 17 5,zbi 18 .lss 17 (zki 0)]),(.cond 18 (zsq [(.reg [zmv 4 (zkb true)]),.ret]) .skip)]),(.reg [zmv 19 1,zmv 20 5,zca 21 34 [19,20],zmv 5 21]),(zsq [(.reg [zmv 22 5,zbi 23 .lss 22 (zki 0)]),(.cond 23 (zsq [(.reg [zmv 4 (zkb true)]),.ret]) .skip)]),(.reg [zLd 24 2 6,zca 25 36 [24],zmv 26 1,zca 27 37 [26],zca 28 35 [25,27],zop 6 (.new 56 (z0s Zd)),zst 6 28 4]),(.reg [zLd 29 2 6,zca 30 36 [29],zop 7 (.new 79 (z0s Qv)),zst 7 30 6]),(.reg [zmv 31 1,zca 32 37 [31],zmv 8 32]),(.reg [zLd 33 7 6,zmv 34 8,zca 35 38 [33,34],zop 9 (.new 56 (z0s Zd)),zst 9 35 4]),(zsq [(.reg [zLd 36 9 4,zLd 37 6 4,zca 38 24 [36,37],zno 39 38]),(.cond 39 (zsq [(.reg [zmv 4 (zkb false)]),.ret]) .skip)]),(zsq [(.draw [zLd 40 7 6,zLd 41 2 6,zca 42 36 [41],zca 43 39 [40,42],zno 44 43] [(0,2)]),(.cond 44 (zsq [(.reg [zmv 4 (zkb false)]),.ret]) .skip)]),(zsq [(.reg [zmv 45 8,zmv 46 1,zca 47 37 [46],zca 48 40 [45,47],zno 49 48]),(.cond 49 (zsq [(.reg [zmv 4 (zkb false)]),.ret]) .skip)]),(.reg [zmv 10 (zki 1)]),(.reg [zLd 50 7 6,zmv 51 10,zca 52 41 [50,51],zmv 10 52]),(.reg [zmv 53 8,zmv 54 10,zca 55 42 [53,54],zmv 10 55]),(zsq [(.reg [zmv 56 10,zbi 57 .lss 56 (zki 0),zmv 58 57,.grp 58 false [zLd 59 9 4,zLd 60 6 4,zca 61 24 [59,60],zno 62 61] 63 62]),(.cond 63 (zsq [(.reg [zmv 4 (zkb false)]),.ret]) .skip)]),(.reg [zmv 11 (zki 1)]),(.reg [zLd 64 9 4,zmv 65 11,zca 66 25 [64,65],zmv 11 66]),(.reg [zmv 12 (zki 1)]),(.reg [zLd 67 9 4,zmv 68 12,zca 69 43 [67,68],zmv 12 69]),(zsq [(.reg [zmv 70 12,zbi 71 .lss 70 (zki 0)]),(.cond 71 (zsq [(.reg [zmv 4 (zkb false)]),.ret]) .skip)]),(zsq [(.reg [zmv 72 12,zmv 73 11,zbi 74 .neq 72 73]),(.cond 74 (zsq [(.reg [zmv 4 (zkb false)]),.ret]) .skip)]),(.reg [zLd 75 2 6,zca 76 36 [75],zmv 77 1,zca 78 37 [77],zca 79 38 [76,78],zop 13 (.new 56 (z0s Zd)),zst 13 79 4]),(zsq [(.reg [zLd 80 13 4,zLd 81 6 4,zca 82 24 [80,81],zno 83 82]),(.cond 83 (zsq [(.reg [zmv 4 (zkb false)]),.ret]) .skip)]),(.reg [zmv 12 (zki 1)]),(.reg [zLd 84 9 4,zmv 85 12,zca 86 43 [84,85],zmv 12 86]),(zsq [(.reg [zmv 87 12,zbi 88 .lss 87 (zki 0)]),(.cond 88 (zsq [(.reg [zmv 4 (zkb false)]),.ret]) .skip)]),(zsq [(.reg [zmv 89 12,zmv 90 11,zbi 91 .neq 89 90]),(.cond 91 (zsq [(.reg [zmv 4 (zkb false)]),.ret]) .skip)]),(.reg [zmv 4 (zkb true)]),.ret])
def Qzo:List (ARv × Md):=[(.t 4,.one .d)]
theorem Qy1 (aC:Qf) (aB:List Qc) (h :
 let z3:=id (α:=Qf) aC
 let z7:=id (α:=List Qc) aB
 let z8:=List.take ((z3.2.2.2.2.1).length) (List.drop 0 (z3.2.2.2.2.1))
 let z9:=List.take ((z3.2.2.2.2.2).length) (List.drop 0 (z3.2.2.2.2.2))
 let z10:=List.take ((z3.2.2.2.1).length) (List.drop 0 (z3.2.2.2.1))
 let z11:=List.take ((z3.2.1).length) (List.drop 0 (z3.2.1))
 let z12:=List.take ((z3.1).length) (List.drop 0 (z3.1))
 let z13:=m_sz (α:=Qf) aC (1048576:Int)
 let z14:=p_to (α:=List Qc) aB
 let z15:=List.take (z7.length) (List.drop 0 z7)
 let z1:=QG (z12,z11,z3.2.2.1,z10,z8,z9) z15
 let z5:=QX (α:=QO) z1 (1:Int)
 let z16:=p_to (α:=Qf) aC
 let z17:=List.take ((z1.2.2.1).length) (List.drop 0 ((z5.2).2.2.1))
 let z18:=List.take ((z1.2.2.2).length) (List.drop 0 ((z5.2).2.2.2))
 let z19:=List.take ((z1.2.1).length) (List.drop 0 ((z5.2).2.1))
 let z20:=List.take ((z1.2.2.1).length) (List.drop 0 (z1.2.2.1))
 let z21:=List.take ((z1.1).length) (List.drop 0 ((z5.2).1))
 let z2:=m_heldS (α:=QO) (z21,z19,z17,z18) (1:Int)
 let z6:=Yn (α:=QO) (z21,z19,z17,z18) (1:Int)
 let z22:=List.take ((z1.2.1).length) (List.drop 0 (z1.2.1))
 let z4:=m_eq (α:=QO) ((List.take ((z1.1).length) (List.drop 0 (z1.1))),z22,z20,(List.take ((z1.2.2.2).length) (List.drop 0 (z1.2.2.2)))) (z1.1,z22,z20,z1.2.2.2)
 ((p_sz (α:=Qf) aC (1048576:Int))∧(zif (decide (z13<(0:Int))) (K (ZX true)) ((p_sz (α:=List Qc) aB z13)∧(zif (decide ((m_sz (α:=List Qc) aB z13)<(0:Int))) (K (ZX true)) ((z16∧z14)∧(z16∧(z14∧(zif (!z4) (K (ZX false)) (z16∧(zif (!(m_eq (α:=Qf) (z12,z11,z3.2.2.1,z10,z8,z9) (z12,z11,z3.2.2.1,z10,z8,z9))) (K (ZX false)) (z14∧(zif (!(m_eq (α:=List Qc) z15 z15)) (K (ZX false)) ((((z3.1).length=(z3.1).length)∧(((z3.2.1).length=(z3.2.1).length)∧(((z3.2.2.2.1).length=(z3.2.2.2.1).length)∧(((z3.2.2.2.2.1).length=(z3.2.2.2.2.1).length)∧((z3.2.2.2.2.2).length=(z3.2.2.2.2.2).length)))))∧((z7.length=z7.length)∧(zif ((decide (((Qn (α:=List Qc) z7 ((QX (α:=Qf) z3 (1:Int)).1)).1)<(0:Int)))||(!z4)) (K (ZX false)) ((((z1.1).length=(z1.1).length)∧(((z1.2.1).length=(z1.2.1).length)∧(((z1.2.2.1).length=(z1.2.2.1).length)∧((z1.2.2.2).length=(z1.2.2.2).length))))∧(z6∧(zif (decide (z2<(0:Int))) (K (ZX false)) (zif (z2 != (z5.1)) (K (ZX false)) ((z16∧z14)∧(zif (!z4) (K (ZX false)) (z6∧(zif (decide (z2<(0:Int))) (K (ZX false)) (zif (z2 != (z5.1)) (K (ZX false)) (K (ZX true))))))))))))))))))))))))))):Hold (tawp QnI (0+0) QBu (TQ 0 0 Qzo K) (Qe [(.a (Tup.cells Qv aC)),(.c (.sl Qj) aB)])) :=
 Hold.of (by kernel_rfl) h
theorem l_FnExactPipeNew_h (aC:Qf) (aB:List Qc):TCon Tryz.prog 7 [(.a (Tup.cells Qv aC)),(.c (.sl Qj) aB)] (ZX (Qhr aC aB)):=by
 refine Ql rfl fun hb=>tcg (Γ:=QnI) (n:=92) (sg:=QET.sg) Qk (TOkL.cons QCI (TOkL.cons QG0 (TOkL.cons QGZ (TOkL.cons QHj (TOkL.cons QED (TOkL.cons QzQ (TOkL.cons QDi (TOkL.cons QGn (TOkL.cons Qml (TOkL.cons QGx (TOkL.cons QsP (TOkL.cons QxP (TOkL.cons QFY TOkL.nil))))))))))))) (by kernel_rfl) (by kernel_rfl) (Qy1 _ aC aB ?_)
 refine ⟨pl_0,fun _=>rfl,fun g_aC=>?_⟩
 have q_aC:=QsS (of_decide_eq_false g_aC) (Int.le_refl _)
 refine ⟨QbJ (pl_0),fun _=>rfl,fun g_aB=>?_⟩
 have q_aB:=QsS (of_decide_eq_false g_aB) (Qw0 (of_decide_eq_false g_aC) (Int.le_refl _))
 have hg0:Sz.sz (QG aC aB)≤4294967296:=by have:=QEb aC aB;omega
 have ka0:=Qsq (x:=aC) (k:=(1:Int)) (b:=1) (c:=1048576) ⟨by omega,by omega⟩ (QFO aC) (show Sz.sz aC≤1048576 from q_aC) (by omega)
 have ka1:=QCG (x:=aB) (k:=(QX aC (1:Int)).1) (b:=16777217) (c:=1048576) ⟨ka0.2.1,by have:=ka0.2.2;omega⟩ (QqO aB) (show Sz.sz aB≤1048576 from q_aB) (by omega)
 have kn:¬ ((Qn aB (QX aC (1:Int)).1).1<0):=by have:=ka1.2.1;omega
 have kr0:=Qsq (x:=(QG aC aB)) (k:=(1:Int)) (b:=1) (c:=4294967296) ⟨by omega,by omega⟩ (QGR _) hg0 (by omega)
 obtain ⟨kp0,kh0⟩:=QA9 kr0.1
 have kn0:¬ ((QX (QG aC aB) (1:Int)).1<0):=by have:=kr0.2.1;omega
 have kt0_0:List.take ((QG aC aB).1).length ((QX (QG aC aB) (1:Int)).2.1)=(QX (QG aC aB) (1:Int)).2.1:=Qep _ _
 have kt0_1:List.take ((QG aC aB).2.1).length ((QX (QG aC aB) (1:Int)).2.2.1)=(QX (QG aC aB) (1:Int)).2.2.1:=Qep _ _
 have kt0_2:List.take ((QG aC aB).2.2.1).length ((QX (QG aC aB) (1:Int)).2.2.2.1)=(QX (QG aC aB) (1:Int)).2.2.2.1:=Qep _ _
 have kt0_3:List.take ((QG aC aB).2.2.2).length ((QX (QG aC aB) (1:Int)).2.2.2.2)=(QX (QG aC aB) (1:Int)).2.2.2.2:=Qep _ _
 simp only [id_eq,List.drop_zero,List.take_length,Prod.eta]
 simp [zif,m_eq,Qwe,Qhr,QCV,QHS,QxU,q_aC,q_aB,kn,kp0,kh0,kn0,kt0_0,kt0_1,kt0_2,kt0_3]
end
end Go.Proofs.YtdplaepmjogjjaaGreat.Am

