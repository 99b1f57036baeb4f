/-
  Written by program: the code of functions, what it asks, and that it comes to what the models say.
-/
import Derived.Test.YtdplaepmjogjjaaGreatVAH5
import Derived.Test.YtdplaepmjogjjaaGreatVAPP
import Derived.Test.YtdplaepmjogjjaaGreatVAMK3
import Derived.Test.YtdplaepmjogjjaaGreatVAGF
namespace Go.Proofs.YtdplaepmjogjjaaGreat.Am
open Go Go.RowKit Go.Proofs.YtdplaepmjogjjaaGreat
set_option linter.all false
set_option maxHeartbeats 2000000
noncomputable section
variable (K:TRes→Prop)
def Z8 (t:Bool):TRes:=zre (zcb t)
def QEr:TRow:=Qh 3 [(.a Qp),(.c TI)] fun x=>(none,Z8 (QiA x.1 x.2.1))
def QjY:TTab:=⟨[QgC,QiC,Qia,Qg5,Qgk,Qhh,QhR],false⟩
def QCV:TCode :=
 (zsq [(.reg [zop 2 (.box 30 0 14),zmv 4 (zkb false)]),(.reg [zmv 5 (zki 1048576)]),(.reg [zLd 13 2 14,zmv 14 5,zca 15 12 [13,14],zmv 5 15]),(zsq [(.reg [zmv 16 5,zbi 17 .lss 16 (zki 0)]),(.cond 17 (zsq [(.reg [zmv 4 (zkb true)]),.ret]) .skip)]),(.reg [zLd 18 2 14,zca 19 14 [18],zmv 20 1,zca 21 13 [19,20],zop 6 (.new 39 (z0s Qp)),zst 6 21 14]),(.reg [zLd 22 2 14,zca 23 14 [22],zop 7 (.new 39 (z0s Qp)),zst 7 23 14]),(.reg [zLd 24 7 14,zmv 25 1,zca 26 15 [24,25],zop 8 (.new 39 (z0s Qp)),zst 8 26 14]),(zsq [(.reg [zLd 27 8 14,zLd 28 6 14,zca 29 16 [27,28],zno 30 29]),(.cond 30 (zsq [(.reg [zmv 4 (zkb false)]),.ret]) .skip)]),(zsq [(.draw [zLd 31 7 14,zLd 32 2 14,zca 33 14 [32],zca 34 16 [31,33],zno 35 34] [(0,2)]),(.cond 35 (zsq [(.reg [zmv 4 (zkb false)]),.ret]) .skip)]),(.reg [zmv 9 (zki 1)]),(.reg [zLd 36 7 14,zmv 37 9,zca 38 17 [36,37],zmv 9 38]),(zsq [(.reg [zmv 39 9,zbi 40 .lss 39 (zki 0),zmv 41 40,.grp 41 false [zLd 42 8 14,zLd 43 6 14,zca 44 16 [42,43],zno 45 44] 46 45]),(.cond 46 (zsq [(.reg [zmv 4 (zkb false)]),.ret]) .skip)]),(.reg [zmv 10 (zki 1)]),(.reg [zLd 47 8 14,zmv 48 10,zca 49 17 [47,48],zmv 10 49]),(.reg [zmv 11 (zki 1)]),(.reg [zLd 50 8 14,zmv 51 11,zca 52 18 [50,51],zmv 11 52]),(zsq [(.reg [zmv 53 11,zbi 54 .lss 53 (zki 0)]),(.cond 54 (zsq [(.reg [zmv 4 (zkb false)]),.ret]) .skip)]),(zsq [(.reg [zmv 55 11,zmv 56 10,zbi 57 .neq 55 56]),(.cond 57 (zsq [(.reg [zmv 4 (zkb false)]),.ret]) .skip)]),(.reg [zLd 58 2 14,zca 59 14 [58],zmv 60 1,zca 61 15 [59,60],zop 12 (.new 39 (z0s Qp)),zst 12 61 14]),(zsq [(.reg [zLd 62 12 14,zLd 63 6 14,zca 64 16 [62,63],zno 65 64]),(.cond 65 (zsq [(.reg [zmv 4 (zkb false)]),.ret]) .skip)]),(.reg [zmv 11 (zki 1)]),(.reg [zLd 66 8 14,zmv 67 11,zca 68 18 [66,67],zmv 11 68]),(zsq [(.reg [zmv 69 11,zbi 70 .lss 69 (zki 0)]),(.cond 70 (zsq [(.reg [zmv 4 (zkb false)]),.ret]) .skip)]),(zsq [(.reg [zmv 71 11,zmv 72 10,zbi 73 .neq 71 72]),(.cond 73 (zsq [(.reg [zmv 4 (zkb false)]),.ret]) .skip)]),(.reg [zmv 4 (zkb true)]),.ret])
def QAf:List (ARv × Md):=[(.t 4,.one .d)]
theorem QCq (aS:Qc) (aM:Int) (h :
 let z3:=id (α:=Qc) aS
 let z8:=List.take ((z3.2.2.2.2.2.2.2.2.2.2.2.1).length) (List.drop 0 (z3.2.2.2.2.2.2.2.2.2.2.2.1))
 let z9:=List.take ((z3.2.2.2.2.2.2.2.2.2.2.1).length) (List.drop 0 (z3.2.2.2.2.2.2.2.2.2.2.1))
 let z10:=List.take ((z3.2.2.2.2.2.2.2.2.2.1).length) (List.drop 0 (z3.2.2.2.2.2.2.2.2.2.1))
 let z11:=List.take ((z3.2.2.2.2.2.2.2.2.1).length) (List.drop 0 (z3.2.2.2.2.2.2.2.2.1))
 let z12:=List.take ((z3.2.2.2.2.2.2.2.1).length) (List.drop 0 (z3.2.2.2.2.2.2.2.1))
 let z13:=List.take ((z3.2.2.2.2.2.2.1).length) (List.drop 0 (z3.2.2.2.2.2.2.1))
 let z14:=List.take ((z3.2.2.2.2.2.1).length) (List.drop 0 (z3.2.2.2.2.2.1))
 let z15:=List.take ((z3.2.2.1).length) (List.drop 0 (z3.2.2.1))
 let z16:=List.take ((z3.2.1).length) (List.drop 0 (z3.2.1))
 let z1:=Qs (z3.1,z16,z15,z3.2.2.2.1,z3.2.2.2.2.1,z14,z13,z12,z11,z10,z9,z8,z3.2.2.2.2.2.2.2.2.2.2.2.2.1,z3.2.2.2.2.2.2.2.2.2.2.2.2.2) aM
 let z4:=m_eq (α:=Qc) (z1.1,(List.take ((z1.2.1).length) (List.drop 0 (z1.2.1))),(List.take ((z1.2.2.1).length) (List.drop 0 (z1.2.2.1))),z1.2.2.2.1,z1.2.2.2.2.1,(List.take ((z1.2.2.2.2.2.1).length) (List.drop 0 (z1.2.2.2.2.2.1))),(List.take ((z1.2.2.2.2.2.2.1).length) (List.drop 0 (z1.2.2.2.2.2.2.1))),(List.take ((z1.2.2.2.2.2.2.2.1).length) (List.drop 0 (z1.2.2.2.2.2.2.2.1))),(List.take ((z1.2.2.2.2.2.2.2.2.1).length) (List.drop 0 (z1.2.2.2.2.2.2.2.2.1))),(List.take ((z1.2.2.2.2.2.2.2.2.2.1).length) (List.drop 0 (z1.2.2.2.2.2.2.2.2.2.1))),(List.take ((z1.2.2.2.2.2.2.2.2.2.2.1).length) (List.drop 0 (z1.2.2.2.2.2.2.2.2.2.2.1))),(List.take ((z1.2.2.2.2.2.2.2.2.2.2.2.1).length) (List.drop 0 (z1.2.2.2.2.2.2.2.2.2.2.2.1))),z1.2.2.2.2.2.2.2.2.2.2.2.2.1,z1.2.2.2.2.2.2.2.2.2.2.2.2.2) z1
 let z5:=Qaf (z3.1,z16,z15,z3.2.2.2.1,z3.2.2.2.2.1,z14,z13,z12,z11,z10,z9,z8,z3.2.2.2.2.2.2.2.2.2.2.2.2.1,z3.2.2.2.2.2.2.2.2.2.2.2.2.2) aM
 let z7:=QA (α:=Qc) z1 (1:Int)
 let z17:=List.take ((z1.2.2.2.2.2.2.2.2.2.2.2.1).length) (List.drop 0 ((z7.2).2.2.2.2.2.2.2.2.2.2.2.1))
 let z18:=List.take ((z1.2.2.2.2.2.2.2.2.2.2.1).length) (List.drop 0 ((z7.2).2.2.2.2.2.2.2.2.2.2.1))
 let z19:=List.take ((z1.2.2.2.2.2.2.2.2.2.1).length) (List.drop 0 ((z7.2).2.2.2.2.2.2.2.2.2.1))
 let z20:=List.take ((z1.2.2.2.2.2.2.2.2.1).length) (List.drop 0 ((z7.2).2.2.2.2.2.2.2.2.1))
 let z21:=List.take ((z1.2.2.2.2.2.2.2.1).length) (List.drop 0 ((z7.2).2.2.2.2.2.2.2.1))
 let z22:=List.take ((z1.2.2.2.2.2.2.1).length) (List.drop 0 ((z7.2).2.2.2.2.2.2.1))
 let z23:=List.take ((z1.2.2.2.2.2.1).length) (List.drop 0 ((z7.2).2.2.2.2.2.1))
 let z24:=p_to (α:=Qc) aS
 let z25:=List.take ((z1.2.2.1).length) (List.drop 0 ((z7.2).2.2.1))
 let z26:=List.take ((z1.2.1).length) (List.drop 0 ((z7.2).2.1))
 let z2:=m_heldS (α:=Qc) (z1.1,z26,z25,z1.2.2.2.1,z1.2.2.2.2.1,z23,z22,z21,z20,z19,z18,z17,z1.2.2.2.2.2.2.2.2.2.2.2.2.1,z1.2.2.2.2.2.2.2.2.2.2.2.2.2) (1:Int)
 let z6:=ZH (α:=Qc) (z1.1,z26,z25,z1.2.2.2.1,z1.2.2.2.2.1,z23,z22,z21,z20,z19,z18,z17,z1.2.2.2.2.2.2.2.2.2.2.2.2.1,z1.2.2.2.2.2.2.2.2.2.2.2.2.2) (1:Int)
 ((p_sz (α:=Qc) aS (1048576:Int))∧(zif (decide ((m_sz (α:=Qc) aS (1048576:Int))<(0:Int))) (K (Z8 true)) ((z24∧z5)∧(z24∧(z5∧(zif (!z4) (K (Z8 false)) (z24∧(zif (!(m_eq (α:=Qc) (z3.1,z16,z15,z3.2.2.2.1,z3.2.2.2.2.1,z14,z13,z12,z11,z10,z9,z8,z3.2.2.2.2.2.2.2.2.2.2.2.2.1,z3.2.2.2.2.2.2.2.2.2.2.2.2.2) (z3.1,z16,z15,z3.2.2.2.1,z3.2.2.2.2.1,z14,z13,z12,z11,z10,z9,z8,z3.2.2.2.2.2.2.2.2.2.2.2.2.1,z3.2.2.2.2.2.2.2.2.2.2.2.2.2))) (K (Z8 false)) ((((z3.2.1).length=(z3.2.1).length)∧(((z3.2.2.1).length=(z3.2.2.1).length)∧(((z3.2.2.2.2.2.1).length=(z3.2.2.2.2.2.1).length)∧(((z3.2.2.2.2.2.2.1).length=(z3.2.2.2.2.2.2.1).length)∧(((z3.2.2.2.2.2.2.2.1).length=(z3.2.2.2.2.2.2.2.1).length)∧(((z3.2.2.2.2.2.2.2.2.1).length=(z3.2.2.2.2.2.2.2.2.1).length)∧(((z3.2.2.2.2.2.2.2.2.2.1).length=(z3.2.2.2.2.2.2.2.2.2.1).length)∧(((z3.2.2.2.2.2.2.2.2.2.2.1).length=(z3.2.2.2.2.2.2.2.2.2.2.1).length)∧((z3.2.2.2.2.2.2.2.2.2.2.2.1).length=(z3.2.2.2.2.2.2.2.2.2.2.2.1).length)))))))))∧(zif ((decide (((QA (α:=Qc) z3 (1:Int)).1)<(0:Int)))||(!z4)) (K (Z8 false)) ((((z1.2.1).length=(z1.2.1).length)∧(((z1.2.2.1).length=(z1.2.2.1).length)∧(((z1.2.2.2.2.2.1).length=(z1.2.2.2.2.2.1).length)∧(((z1.2.2.2.2.2.2.1).length=(z1.2.2.2.2.2.2.1).length)∧(((z1.2.2.2.2.2.2.2.1).length=(z1.2.2.2.2.2.2.2.1).length)∧(((z1.2.2.2.2.2.2.2.2.1).length=(z1.2.2.2.2.2.2.2.2.1).length)∧(((z1.2.2.2.2.2.2.2.2.2.1).length=(z1.2.2.2.2.2.2.2.2.2.1).length)∧(((z1.2.2.2.2.2.2.2.2.2.2.1).length=(z1.2.2.2.2.2.2.2.2.2.2.1).length)∧((z1.2.2.2.2.2.2.2.2.2.2.2.1).length=(z1.2.2.2.2.2.2.2.2.2.2.2.1).length)))))))))∧(z6∧(zif (decide (z2<(0:Int))) (K (Z8 false)) (zif (z2 != (z7.1)) (K (Z8 false)) ((z24∧z5)∧(zif (!z4) (K (Z8 false)) (z6∧(zif (decide (z2<(0:Int))) (K (Z8 false)) (zif (z2 != (z7.1)) (K (Z8 false)) (K (Z8 true)))))))))))))))))))))):Hold (tawp QjY (0+0) QCV (TQ 0 0 QAf K) (Qf [(.a (Tup.cells Qp aS)),(.c TI aM)])) :=
 Hold.of (by kernel_rfl) h
theorem l_FnExactStageRedo_h (aS:Qc) (aM:Int):TCon Tryz.prog 3 [(.a (Tup.cells Qp aS)),(.c TI aM)] (Z8 (QiA aS aM)):=by
 refine Qj rfl fun hb=>tcg (Γ:=QjY) (n:=74) (sg:=QEr.sg) Qi (TOkL.cons QuC (TOkL.cons QxY (TOkL.cons QB7 (TOkL.cons QtU (TOkL.cons Quj (TOkL.cons QD9 (TOkL.cons QEJ TOkL.nil))))))) (by kernel_rfl) (by kernel_rfl) (QCq _ aS aM ?_)
 refine ⟨pl_0,fun _=>rfl,fun g_aS=>?_⟩
 have q_aS:=QGh (of_decide_eq_false g_aS) (Int.le_refl _)
 have s1:Sz.sz aS≤1048576:=q_aS
 have hl:Qaf aS aM:=by unfold Qaf;omega
 have hg0:Sz.sz (Qs aS aM)≤4294967296:=by have:=Qzr aS aM;omega
 have ka0:=QmF (x:=aS) (k:=(1:Int)) (b:=1) (c:=1048576) ⟨by omega,by omega⟩ (QlN aS) (show Sz.sz aS≤1048576 from q_aS) (by omega)
 have kn:¬ ((QA aS (1:Int)).1<0):=by have:=ka0.2.1;omega
 have kr0:=QmF (x:=(Qs aS aM)) (k:=(1:Int)) (b:=1) (c:=4294967296) ⟨by omega,by omega⟩ (QlN _) hg0 (by omega)
 obtain ⟨kp0,kh0⟩:=QCz kr0.1
 have kn0:¬ ((QA (Qs aS aM) (1:Int)).1<0):=by have:=kr0.2.1;omega
 have kt0_1:List.take ((Qs aS aM).2.1).length ((QA (Qs aS aM) (1:Int)).2.2.1)=(QA (Qs aS aM) (1:Int)).2.2.1:=YS _ _
 have kt0_2:List.take ((Qs aS aM).2.2.1).length ((QA (Qs aS aM) (1:Int)).2.2.2.1)=(QA (Qs aS aM) (1:Int)).2.2.2.1:=YS _ _
 have kt0_5:List.take ((Qs aS aM).2.2.2.2.2.1).length ((QA (Qs aS aM) (1:Int)).2.2.2.2.2.2.1)=(QA (Qs aS aM) (1:Int)).2.2.2.2.2.2.1:=YS _ _
 have kt0_6:List.take ((Qs aS aM).2.2.2.2.2.2.1).length ((QA (Qs aS aM) (1:Int)).2.2.2.2.2.2.2.1)=(QA (Qs aS aM) (1:Int)).2.2.2.2.2.2.2.1:=YS _ _
 have kt0_7:List.take ((Qs aS aM).2.2.2.2.2.2.2.1).length ((QA (Qs aS aM) (1:Int)).2.2.2.2.2.2.2.2.1)=(QA (Qs aS aM) (1:Int)).2.2.2.2.2.2.2.2.1:=YS _ _
 have kt0_8:List.take ((Qs aS aM).2.2.2.2.2.2.2.2.1).length ((QA (Qs aS aM) (1:Int)).2.2.2.2.2.2.2.2.2.1)=(QA (Qs aS aM) (1:Int)).2.2.2.2.2.2.2.2.2.1:=YS _ _
 have kt0_9:List.take ((Qs aS aM).2.2.2.2.2.2.2.2.2.1).length ((QA (Qs aS aM) (1:Int)).2.2.2.2.2.2.2.2.2.2.1)=(QA (Qs aS aM) (1:Int)).2.2.2.2.2.2.2.2.2.2.1:=YS _ _
 have kt0_10:List.take ((Qs aS aM).2.2.2.2.2.2.2.2.2.2.1).length ((QA (Qs aS aM) (1:Int)).2.2.2.2.2.2.2.2.2.2.2.1)=(QA (Qs aS aM) (1:Int)).2.2.2.2.2.2.2.2.2.2.2.1:=YS _ _
 have kt0_11:List.take ((Qs aS aM).2.2.2.2.2.2.2.2.2.2.2.1).length ((QA (Qs aS aM) (1:Int)).2.2.2.2.2.2.2.2.2.2.2.2.1)=(QA (Qs aS aM) (1:Int)).2.2.2.2.2.2.2.2.2.2.2.2.1:=YS _ _
 have ke0:((Qs aS aM).1,(QA (Qs aS aM) (1:Int)).2.2.1,(QA (Qs aS aM) (1:Int)).2.2.2.1,(Qs aS aM).2.2.2.1,(Qs aS aM).2.2.2.2.1,(QA (Qs aS aM) (1:Int)).2.2.2.2.2.2.1,(QA (Qs aS aM) (1:Int)).2.2.2.2.2.2.2.1,(QA (Qs aS aM) (1:Int)).2.2.2.2.2.2.2.2.1,(QA (Qs aS aM) (1:Int)).2.2.2.2.2.2.2.2.2.1,(QA (Qs aS aM) (1:Int)).2.2.2.2.2.2.2.2.2.2.1,(QA (Qs aS aM) (1:Int)).2.2.2.2.2.2.2.2.2.2.2.1,(QA (Qs aS aM) (1:Int)).2.2.2.2.2.2.2.2.2.2.2.2.1,(Qs aS aM).2.2.2.2.2.2.2.2.2.2.2.2.1,(Qs aS aM).2.2.2.2.2.2.2.2.2.2.2.2.2)=(QA (Qs aS aM) (1:Int)).2:=rfl
 simp only [id_eq,List.drop_zero,List.take_length,Prod.eta]
 simp [zif,m_eq,QAA,QiA,QCu,Qtx,QzG,q_aS,kn,kp0,kh0,kn0,kt0_1,kt0_2,kt0_5,kt0_6,kt0_7,kt0_8,kt0_9,kt0_10,kt0_11,ke0,hl]
end
end Go.Proofs.YtdplaepmjogjjaaGreat.Am

