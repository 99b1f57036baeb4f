/-
  Written by program: the code of functions, what it asks, and that it comes to what the models say.
-/
import Derived.Test.YtephkbajoofeoaaWEH2
import Derived.Test.YtephkbajoofeoaaWEH4
import Derived.Test.YtephkbajoofeoaaWEPP
import Derived.Test.YtephkbajoofeoaaWEH5
import Derived.Test.YtephkbajoofeoaaWEMK1
import Derived.Test.YtephkbajoofeoaaWEMK3
import Derived.Test.YtephkbajoofeoaaWEGF
import Derived.Test.YtephkbajoofeoaaWEGD
namespace Go.Proofs.Ytephkbajoofeoaa.Am
open Go Go.RowKit Go.Proofs.Ytephkbajoofeoaa
set_option linter.all false
set_option maxHeartbeats 2000000
noncomputable section
variable (K:TRes→Prop)
def Zc (t:Bool):TRes:=zre (zcb t)
def Qmy:TRow:=Ql 14 [(.c (.sl ctOp)),(.c (.sl Qf)),(.c .bool),(.c .bool)] fun x=>(none,Zc (Qfd x.1 x.2.1 x.2.2.1 x.2.2.2.1))
def Qk3:TTab:=⟨[Qdl,QdN,Qfm,Qfi,Qek,Qd1,QfA,QcF,QcK,Qcf,QbA,Qc4,Qc9],false⟩
def QnZ:TCode :=
 (zsq [(.reg [zmv 8 (zkb false)]),(.reg [zmv 9 (zki 1048576)]),(.reg [zmv 18 0,zmv 19 9,zca 20 82 [18,19],zmv 9 20]),(zsq [(.reg [zmv 21 9,zbi 22 .lss 21 (zki 0)]),(.cond 22 (zsq [(.reg [zmv 8 (zkb true)]),.ret]) .skip)]),(.reg [zmv 23 1,zmv 24 9,zca 25 22 [23,24],zmv 9 25]),(zsq [(.reg [zmv 26 9,zbi 27 .lss 26 (zki 0)]),(.cond 27 (zsq [(.reg [zmv 8 (zkb true)]),.ret]) .skip)]),(.reg [zmv 28 0,zca 29 84 [28],zmv 30 1,zca 31 24 [30],zmv 32 2,zmv 33 3,zca 34 83 [29,31,32,33],zop 10 (.new 121 (z0s QO)),zst 10 34 14]),(.reg [zmv 35 0,zca 36 84 [35],zmv 11 36]),(.reg [zmv 37 1,zca 38 24 [37],zmv 12 38]),(.reg [zmv 39 11,zmv 40 12,zmv 41 2,zmv 42 3,zca 43 85 [39,40,41,42],zop 13 (.new 121 (z0s QO)),zst 13 43 14]),(zsq [(.reg [zLd 44 13 14,zLd 45 10 14,zca 46 86 [44,45],zno 47 46]),(.cond 47 (zsq [(.reg [zmv 8 (zkb false)]),.ret]) .skip)]),(zsq [(.reg [zmv 48 11,zmv 49 0,zca 50 84 [49],zca 51 87 [48,50],zno 52 51]),(.cond 52 (zsq [(.reg [zmv 8 (zkb false)]),.ret]) .skip)]),(zsq [(.reg [zmv 53 12,zmv 54 1,zca 55 24 [54],zca 56 19 [53,55],zno 57 56]),(.cond 57 (zsq [(.reg [zmv 8 (zkb false)]),.ret]) .skip)]),(.reg [zmv 14 (zki 1)]),(.reg [zmv 58 11,zmv 59 14,zca 60 88 [58,59],zmv 14 60]),(.reg [zmv 61 12,zmv 62 14,zca 63 20 [61,62],zmv 14 63]),(zsq [(.reg [zmv 64 14,zbi 65 .lss 64 (zki 0),zmv 66 65,.grp 66 false [zLd 67 13 14,zLd 68 10 14,zca 69 86 [67,68],zno 70 69] 71 70]),(.cond 71 (zsq [(.reg [zmv 8 (zkb false)]),.ret]) .skip)]),(.reg [zmv 15 (zki 1)]),(.reg [zLd 72 13 14,zmv 73 15,zca 74 89 [72,73],zmv 15 74]),(.reg [zmv 16 (zki 1)]),(.reg [zLd 75 13 14,zmv 76 16,zca 77 90 [75,76],zmv 16 77]),(zsq [(.reg [zmv 78 16,zbi 79 .lss 78 (zki 0)]),(.cond 79 (zsq [(.reg [zmv 8 (zkb false)]),.ret]) .skip)]),(zsq [(.reg [zmv 80 16,zmv 81 15,zbi 82 .neq 80 81]),(.cond 82 (zsq [(.reg [zmv 8 (zkb false)]),.ret]) .skip)]),(.reg [zmv 83 0,zca 84 84 [83],zmv 85 1,zca 86 24 [85],zmv 87 2,zmv 88 3,zca 89 85 [84,86,87,88],zop 17 (.new 121 (z0s QO)),zst 17 89 14]),(zsq [(.reg [zLd 90 17 14,zLd 91 10 14,zca 92 86 [90,91],zno 93 92]),(.cond 93 (zsq [(.reg [zmv 8 (zkb false)]),.ret]) .skip)]),(.reg [zmv 16 (zki 1)]),(.reg [zLd 94 13 14,zmv 95 16,zca 96 90 [94,95],zmv 16 96]),(zsq [(.reg [zmv 97 16,zbi 98 .lss 97 (zki 0)]),(.cond 98 (zsq [(.reg [zmv 8 (zkb false)]),.ret]) .skip)]),(zsq [(.reg [zmv 99 16,zmv 100 15,zbi 101 .neq 99 100]),(.cond 101 (zsq [(.reg [zmv 8 (zkb false)]),.ret]) .skip)]),(.reg [zmv 8 (zkb true)]),.ret])
def QtZ:List (ARv × Md):=[(.t 8,.one .d)]
theorem QoK (aOps:List TOp') (aPlan:List TIns) (aLast:Bool) (aRedo:Bool) (h :
 let z8:=id (α:=List TIns) aPlan
 let z6:=List.take (z8.length) (List.drop 0 z8)
 let z9:=id (α:=List TOp') aOps
 let z7:=List.take (z9.length) (List.drop 0 z9)
 let z1:=Qi z7 z6 aLast aRedo
 let z3:=m_eq (α:=Qq) (z1.1,(List.take ((z1.2.1).length) (List.drop 0 (z1.2.1))),(List.take ((z1.2.2.1).length) (List.drop 0 (z1.2.2.1))),z1.2.2.2.1,z1.2.2.2.2.1,(List.take ((z1.2.2.2.2.2.1).length) (List.drop 0 (z1.2.2.2.2.2.1))),(List.take ((z1.2.2.2.2.2.2.1).length) (List.drop 0 (z1.2.2.2.2.2.2.1))),(List.take ((z1.2.2.2.2.2.2.2.1).length) (List.drop 0 (z1.2.2.2.2.2.2.2.1))),(List.take ((z1.2.2.2.2.2.2.2.2.1).length) (List.drop 0 (z1.2.2.2.2.2.2.2.2.1))),(List.take ((z1.2.2.2.2.2.2.2.2.2.1).length) (List.drop 0 (z1.2.2.2.2.2.2.2.2.2.1))),(List.take ((z1.2.2.2.2.2.2.2.2.2.2.1).length) (List.drop 0 (z1.2.2.2.2.2.2.2.2.2.2.1))),(List.take ((z1.2.2.2.2.2.2.2.2.2.2.2.1).length) (List.drop 0 (z1.2.2.2.2.2.2.2.2.2.2.2.1))),z1.2.2.2.2.2.2.2.2.2.2.2.2.1,z1.2.2.2.2.2.2.2.2.2.2.2.2.2) z1
 let z5:=Qs (α:=Qq) z1 (1:Int)
 let z10:=List.take ((z1.2.2.2.2.2.2.2.2.2.2.2.1).length) (List.drop 0 ((z5.2).2.2.2.2.2.2.2.2.2.2.2.1))
 let z11:=List.take ((z1.2.2.2.2.2.2.2.2.2.2.1).length) (List.drop 0 ((z5.2).2.2.2.2.2.2.2.2.2.2.1))
 let z12:=List.take ((z1.2.2.2.2.2.2.2.2.2.1).length) (List.drop 0 ((z5.2).2.2.2.2.2.2.2.2.2.1))
 let z13:=m_sz (α:=List TOp') aOps (1048576:Int)
 let z14:=p_to (α:=List TIns) aPlan
 let z15:=List.take ((z1.2.2.2.2.2.2.2.2.1).length) (List.drop 0 ((z5.2).2.2.2.2.2.2.2.2.1))
 let z16:=p_to (α:=List TOp') aOps
 let z17:=List.take ((z1.2.2.2.2.2.2.2.1).length) (List.drop 0 ((z5.2).2.2.2.2.2.2.2.1))
 let z18:=List.take ((z1.2.2.2.2.2.2.1).length) (List.drop 0 ((z5.2).2.2.2.2.2.2.1))
 let z19:=List.take ((z1.2.2.2.2.2.1).length) (List.drop 0 ((z5.2).2.2.2.2.2.1))
 let z20:=List.take ((z1.2.2.1).length) (List.drop 0 ((z5.2).2.2.1))
 let z21:=JT z7 z6 aLast aRedo
 let z22:=List.take ((z1.2.1).length) (List.drop 0 ((z5.2).2.1))
 let z2:=m_heldS (α:=Qq) (z1.1,z22,z20,z1.2.2.2.1,z1.2.2.2.2.1,z19,z18,z17,z15,z12,z11,z10,z1.2.2.2.2.2.2.2.2.2.2.2.2.1,z1.2.2.2.2.2.2.2.2.2.2.2.2.2) (1:Int)
 let z4:=Q1 (α:=Qq) (z1.1,z22,z20,z1.2.2.2.1,z1.2.2.2.2.1,z19,z18,z17,z15,z12,z11,z10,z1.2.2.2.2.2.2.2.2.2.2.2.2.1,z1.2.2.2.2.2.2.2.2.2.2.2.2.2) (1:Int)
 ((p_sz (α:=List TOp') aOps (1048576:Int))∧(zif (decide (z13<(0:Int))) (K (Zc true)) ((p_sz (α:=List TIns) aPlan z13)∧(zif (decide ((m_sz (α:=List TIns) aPlan z13)<(0:Int))) (K (Zc true)) ((z16∧(z14∧z21))∧(z16∧(z14∧(z21∧(zif (!z3) (K (Zc false)) (z16∧(zif (!(m_eq (α:=List TOp') z7 z7)) (K (Zc false)) (z14∧(zif (!(m_eq (α:=List TIns) z6 z6)) (K (Zc false)) ((z9.length=z9.length)∧((z8.length=z8.length)∧(zif ((decide (((Qk (α:=List TIns) z8 ((Qk (α:=List TOp') z9 (1:Int)).1)).1)<(0:Int)))||(!z3)) (K (Zc false)) ((((z1.2.1).length=(z1.2.1).length)∧(((z1.2.2.1).length=(z1.2.2.1).length)∧(((z1.2.2.2.2.2.1).length=(z1.2.2.2.2.2.1).length)∧(((z1.2.2.2.2.2.2.1).length=(z1.2.2.2.2.2.2.1).length)∧(((z1.2.2.2.2.2.2.2.1).length=(z1.2.2.2.2.2.2.2.1).length)∧(((z1.2.2.2.2.2.2.2.2.1).length=(z1.2.2.2.2.2.2.2.2.1).length)∧(((z1.2.2.2.2.2.2.2.2.2.1).length=(z1.2.2.2.2.2.2.2.2.2.1).length)∧(((z1.2.2.2.2.2.2.2.2.2.2.1).length=(z1.2.2.2.2.2.2.2.2.2.2.1).length)∧((z1.2.2.2.2.2.2.2.2.2.2.2.1).length=(z1.2.2.2.2.2.2.2.2.2.2.2.1).length)))))))))∧(z4∧(zif (decide (z2<(0:Int))) (K (Zc false)) (zif (z2 != (z5.1)) (K (Zc false)) ((z16∧(z14∧z21))∧(zif (!z3) (K (Zc false)) (z4∧(zif (decide (z2<(0:Int))) (K (Zc false)) (zif (z2 != (z5.1)) (K (Zc false)) (K (Zc true)))))))))))))))))))))))))))):Hold (tawp Qk3 (0+0) QnZ (TQ 0 0 QtZ K) (Qh [(.c (.sl ctOp) aOps),(.c (.sl Qf) aPlan),(.c .bool aLast),(.c .bool aRedo)])) :=
 Hold.of (by kernel_rfl) h
theorem l_FnExactStageNew_h (aOps:List TOp') (aPlan:List TIns) (aLast:Bool) (aRedo:Bool):TCon Try.prog 14 [(.c (.sl ctOp) aOps),(.c (.sl Qf) aPlan),(.c .bool aLast),(.c .bool aRedo)] (Zc (Qfd aOps aPlan aLast aRedo)):=by
 refine Qn rfl fun hb=>tcg (Γ:=Qk3) (n:=102) (sg:=Qmy.sg) Qo (TOkL.cons Qnj (TOkL.cons QnY (TOkL.cons Qm5 (TOkL.cons QrO (TOkL.cons Qn7 (TOkL.cons Qos (TOkL.cons Qqh (TOkL.cons Qiv (TOkL.cons QgN (TOkL.cons Qir (TOkL.cons QkY (TOkL.cons Qs0 (TOkL.cons QtO TOkL.nil))))))))))))) (by kernel_rfl) (by kernel_rfl) (QoK _ aOps aPlan aLast aRedo ?_)
 refine ⟨pl_0,fun _=>rfl,fun g_aOps=>?_⟩
 have q_aOps:=Qkr (of_decide_eq_false g_aOps) (Int.le_refl _)
 refine ⟨QrK (pl_0),fun _=>rfl,fun g_aPlan=>?_⟩
 have q_aPlan:=Qkr (of_decide_eq_false g_aPlan) (Qtp (of_decide_eq_false g_aOps) (Int.le_refl _))
 have s1:Sz.sz aOps≤1048576:=q_aOps
 have s2:Sz.sz aPlan≤1048576:=q_aPlan
 have s3:=J5 aPlan
 have hl:JT aOps aPlan aLast aRedo:=⟨by omega,by omega⟩
 have hg0:Sz.sz (Qi aOps aPlan aLast aRedo)≤4294967296:=by have:=QnW aOps aPlan aLast aRedo;omega
 have ka0:=Qlj (x:=aOps) (k:=(1:Int)) (b:=1) (c:=1048576) ⟨by omega,by omega⟩ (Qga aOps) (show Sz.sz aOps≤1048576 from q_aOps) (by omega)
 have ka1:=Qlj (x:=aPlan) (k:=(Qk aOps (1:Int)).1) (b:=16777217) (c:=1048576) ⟨ka0.2.1,by have:=ka0.2.2;omega⟩ (QgJ aPlan) (show Sz.sz aPlan≤1048576 from q_aPlan) (by omega)
 have kn:¬ ((Qk aPlan (Qk aOps (1:Int)).1).1<0):=by have:=ka1.2.1;omega
 have kr0:=QpZ (x:=(Qi aOps aPlan aLast aRedo)) (k:=(1:Int)) (b:=1) (c:=4294967296) ⟨by omega,by omega⟩ (QqY _) hg0 (by omega)
 obtain ⟨kp0,kh0⟩:=QoY kr0.1
 have kn0:¬ ((Qs (Qi aOps aPlan aLast aRedo) (1:Int)).1<0):=by have:=kr0.2.1;omega
 have kt0_1:List.take ((Qi aOps aPlan aLast aRedo).2.1).length ((Qs (Qi aOps aPlan aLast aRedo) (1:Int)).2.2.1)=(Qs (Qi aOps aPlan aLast aRedo) (1:Int)).2.2.1:=Z7 _ _
 have kt0_2:List.take ((Qi aOps aPlan aLast aRedo).2.2.1).length ((Qs (Qi aOps aPlan aLast aRedo) (1:Int)).2.2.2.1)=(Qs (Qi aOps aPlan aLast aRedo) (1:Int)).2.2.2.1:=Z7 _ _
 have kt0_5:List.take ((Qi aOps aPlan aLast aRedo).2.2.2.2.2.1).length ((Qs (Qi aOps aPlan aLast aRedo) (1:Int)).2.2.2.2.2.2.1)=(Qs (Qi aOps aPlan aLast aRedo) (1:Int)).2.2.2.2.2.2.1:=Z7 _ _
 have kt0_6:List.take ((Qi aOps aPlan aLast aRedo).2.2.2.2.2.2.1).length ((Qs (Qi aOps aPlan aLast aRedo) (1:Int)).2.2.2.2.2.2.2.1)=(Qs (Qi aOps aPlan aLast aRedo) (1:Int)).2.2.2.2.2.2.2.1:=Z7 _ _
 have kt0_7:List.take ((Qi aOps aPlan aLast aRedo).2.2.2.2.2.2.2.1).length ((Qs (Qi aOps aPlan aLast aRedo) (1:Int)).2.2.2.2.2.2.2.2.1)=(Qs (Qi aOps aPlan aLast aRedo) (1:Int)).2.2.2.2.2.2.2.2.1:=Z7 _ _
 have kt0_8:List.take ((Qi aOps aPlan aLast aRedo).2.2.2.2.2.2.2.2.1).length ((Qs (Qi aOps aPlan aLast aRedo) (1:Int)).2.2.2.2.2.2.2.2.2.1)=(Qs (Qi aOps aPlan aLast aRedo) (1:Int)).2.2.2.2.2.2.2.2.2.1:=Z7 _ _
 have kt0_9:List.take ((Qi aOps aPlan aLast aRedo).2.2.2.2.2.2.2.2.2.1).length ((Qs (Qi aOps aPlan aLast aRedo) (1:Int)).2.2.2.2.2.2.2.2.2.2.1)=(Qs (Qi aOps aPlan aLast aRedo) (1:Int)).2.2.2.2.2.2.2.2.2.2.1:=Z7 _ _
 have kt0_10:List.take ((Qi aOps aPlan aLast aRedo).2.2.2.2.2.2.2.2.2.2.1).length ((Qs (Qi aOps aPlan aLast aRedo) (1:Int)).2.2.2.2.2.2.2.2.2.2.2.1)=(Qs (Qi aOps aPlan aLast aRedo) (1:Int)).2.2.2.2.2.2.2.2.2.2.2.1:=Z7 _ _
 have kt0_11:List.take ((Qi aOps aPlan aLast aRedo).2.2.2.2.2.2.2.2.2.2.2.1).length ((Qs (Qi aOps aPlan aLast aRedo) (1:Int)).2.2.2.2.2.2.2.2.2.2.2.2.1)=(Qs (Qi aOps aPlan aLast aRedo) (1:Int)).2.2.2.2.2.2.2.2.2.2.2.2.1:=Z7 _ _
 have ke0:((Qi aOps aPlan aLast aRedo).1,(Qs (Qi aOps aPlan aLast aRedo) (1:Int)).2.2.1,(Qs (Qi aOps aPlan aLast aRedo) (1:Int)).2.2.2.1,(Qi aOps aPlan aLast aRedo).2.2.2.1,(Qi aOps aPlan aLast aRedo).2.2.2.2.1,(Qs (Qi aOps aPlan aLast aRedo) (1:Int)).2.2.2.2.2.2.1,(Qs (Qi aOps aPlan aLast aRedo) (1:Int)).2.2.2.2.2.2.2.1,(Qs (Qi aOps aPlan aLast aRedo) (1:Int)).2.2.2.2.2.2.2.2.1,(Qs (Qi aOps aPlan aLast aRedo) (1:Int)).2.2.2.2.2.2.2.2.2.1,(Qs (Qi aOps aPlan aLast aRedo) (1:Int)).2.2.2.2.2.2.2.2.2.2.1,(Qs (Qi aOps aPlan aLast aRedo) (1:Int)).2.2.2.2.2.2.2.2.2.2.2.1,(Qs (Qi aOps aPlan aLast aRedo) (1:Int)).2.2.2.2.2.2.2.2.2.2.2.2.1,(Qi aOps aPlan aLast aRedo).2.2.2.2.2.2.2.2.2.2.2.2.1,(Qi aOps aPlan aLast aRedo).2.2.2.2.2.2.2.2.2.2.2.2.2)=(Qs (Qi aOps aPlan aLast aRedo) (1:Int)).2:=rfl
 simp only [id_eq,List.drop_zero,List.take_length,Prod.eta]
 simp [zif,m_eq,Qp6,QrC,Ql5,Qfd,Qsb,q_aOps,q_aPlan,kn,kp0,kh0,kn0,kt0_1,kt0_2,kt0_5,kt0_6,kt0_7,kt0_8,kt0_9,kt0_10,kt0_11,ke0,hl]
end
end Go.Proofs.Ytephkbajoofeoaa.Am

