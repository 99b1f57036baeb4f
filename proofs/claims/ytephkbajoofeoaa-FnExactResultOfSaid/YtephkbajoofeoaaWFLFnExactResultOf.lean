/-
  Written by program: the code of functions, what it asks, and that it comes to what the models say.
-/
import Derived.Test.YtephkbajoofeoaaWFH6
import Derived.Test.YtephkbajoofeoaaWFPR
import Derived.Test.YtephkbajoofeoaaWFH1
import Derived.Test.YtephkbajoofeoaaWFMK4
import Derived.Test.YtephkbajoofeoaaWFMK2
import Derived.Test.YtephkbajoofeoaaWFGF
namespace Go.Proofs.Ytephkbajoofeoaa.Am
open Go Go.RowKit Go.Proofs.Ytephkbajoofeoaa
set_option linter.all false
set_option maxHeartbeats 2000000
noncomputable section
variable (K:TRes→Prop)
def ZB (t:Bool):TRes:=zre (zcb t)
def QwX:TRow:=Ql 16 [(.a QG)] fun x=>(some (Ye x.1),ZB (QfY x.1))
def QhG:TTab:=⟨[Qfa,Qfx,Qev,Qgd,Qcf,QdW,Qgi,QeC,Qgw],false⟩
def QpO:TCode :=
 (zsq [(.reg [zop 1 (.box 133 0 4),zmv 2 (zkb false)]),(.reg [zmv 3 (zki 1048576)]),(.reg [zLd 11 1 4,zmv 12 3,zca 13 91 [11,12],zmv 3 13]),(zsq [(.reg [zmv 14 3,zbi 15 .lss 14 (zki 0)]),(.cond 15 (zsq [(.reg [zmv 2 (zkb true)]),.ret]) .skip)]),(.reg [zLd 16 1 4,zca 17 93 [16],zca 18 97 [17],zop 4 (.new 119 (z0s QM)),zst 4 18 3]),(.reg [zLd 19 1 4,zca 20 93 [19],zop 5 (.new 139 (z0s QG)),zst 5 20 4]),(.reg [zLd 21 5 4,zca 22 98 [21],zop 6 (.new 119 (z0s QM)),zst 6 22 3]),(zsq [(.reg [zLd 23 6 3,zLd 24 4 3,zca 25 99 [23,24],zno 26 25]),(.cond 26 (zsq [(.reg [zmv 2 (zkb false)]),.ret]) .skip)]),(zsq [(.draw [zLd 27 5 4,zLd 28 1 4,zca 29 93 [28],zca 30 95 [27,29],zno 31 30] [(0,2)]),(.cond 31 (zsq [(.reg [zmv 2 (zkb false)]),.ret]) .skip)]),(.reg [zmv 7 (zki 1)]),(.reg [zLd 32 5 4,zmv 33 7,zca 34 96 [32,33],zmv 7 34]),(zsq [(.reg [zmv 35 7,zbi 36 .lss 35 (zki 0),zmv 37 36,.grp 37 false [zLd 38 6 3,zLd 39 4 3,zca 40 99 [38,39],zno 41 40] 42 41]),(.cond 42 (zsq [(.reg [zmv 2 (zkb false)]),.ret]) .skip)]),(.reg [zmv 8 (zki 1)]),(.reg [zLd 43 6 3,zmv 44 8,zca 45 100 [43,44],zmv 8 45]),(.reg [zmv 9 (zki 1)]),(.reg [zLd 46 6 3,zmv 47 9,zca 48 101 [46,47],zmv 9 48]),(zsq [(.reg [zmv 49 9,zbi 50 .lss 49 (zki 0)]),(.cond 50 (zsq [(.reg [zmv 2 (zkb false)]),.ret]) .skip)]),(zsq [(.reg [zmv 51 9,zmv 52 8,zbi 53 .neq 51 52]),(.cond 53 (zsq [(.reg [zmv 2 (zkb false)]),.ret]) .skip)]),(.reg [zLd 54 1 4,zca 55 93 [54],zca 56 98 [55],zop 10 (.new 119 (z0s QM)),zst 10 56 3]),(zsq [(.reg [zLd 57 10 3,zLd 58 4 3,zca 59 99 [57,58],zno 60 59]),(.cond 60 (zsq [(.reg [zmv 2 (zkb false)]),.ret]) .skip)]),(.reg [zmv 9 (zki 1)]),(.reg [zLd 61 6 3,zmv 62 9,zca 63 101 [61,62],zmv 9 63]),(zsq [(.reg [zmv 64 9,zbi 65 .lss 64 (zki 0)]),(.cond 65 (zsq [(.reg [zmv 2 (zkb false)]),.ret]) .skip)]),(zsq [(.reg [zmv 66 9,zmv 67 8,zbi 68 .neq 66 67]),(.cond 68 (zsq [(.reg [zmv 2 (zkb false)]),.ret]) .skip)]),(.reg [zmv 2 (zkb true)]),.ret])
def Qx5:List (ARv × Md):=[(.t 2,.one .d)]
theorem Qzx (aP:Qs) (h :
 let z2:=id (α:=Qs) aP
 let z6:=List.take ((z2.2.2.1).length) (List.drop 0 (z2.2.2.1))
 let z7:=List.take ((z2.2.2.2).length) (List.drop 0 (z2.2.2.2))
 let z9:=List.take ((z2.2.1).length) (List.drop 0 (z2.2.1))
 let z10:=List.take ((z2.1).length) (List.drop 0 (z2.1))
 let z1:=QL (z10,z9,z6,z7)
 let z3:=Qal (z10,z9,z6,z7)
 let z5:=m_eq (α:=Qx) ((List.take ((z1.1).length) (List.drop 0 (z1.1))),z1.2.1,z1.2.2) z1
 let z11:=QX (α:=Qx) z1 (1:Int)
 let z4:=List.take ((z1.1).length) (List.drop 0 ((z11.2).1))
 let z8:=m_heldS (α:=Qx) (z4,z1.2.1,z1.2.2) (1:Int)
 let z12:=p_to (α:=Qs) aP
 let z13:=ZG (α:=Qx) (z4,z1.2.1,z1.2.2) (1:Int)
 ((p_sz (α:=Qs) aP (1048576:Int))∧(zif (decide ((m_sz (α:=Qs) aP (1048576:Int))<(0:Int))) (K (ZB true)) ((z12∧z3)∧(z12∧(z3∧(zif (!z5) (K (ZB false)) (z12∧(zif (!(m_eq (α:=Qs) (z10,z9,z6,z7) (z10,z9,z6,z7))) (K (ZB false)) ((((z2.1).length=(z2.1).length)∧(((z2.2.1).length=(z2.2.1).length)∧(((z2.2.2.1).length=(z2.2.2.1).length)∧((z2.2.2.2).length=(z2.2.2.2).length))))∧(zif ((decide (((QX (α:=Qs) z2 (1:Int)).1)<(0:Int)))||(!z5)) (K (ZB false)) (((z1.1).length=(z1.1).length)∧(z13∧(zif (decide (z8<(0:Int))) (K (ZB false)) (zif (z8 != (z11.1)) (K (ZB false)) ((z12∧z3)∧(zif (!z5) (K (ZB false)) (z13∧(zif (decide (z8<(0:Int))) (K (ZB false)) (zif (z8 != (z11.1)) (K (ZB false)) (K (ZB true)))))))))))))))))))))):Hold (tawp QhG (0+0) QpO (TQ 0 0 Qx5 K) (Qk [(.a (Tup.cells QG aP))])) :=
 Hold.of (by kernel_rfl) h
theorem l_FnExactResultOf_h (aP:Qs) (hp:Ye aP):TCon Try.prog 16 [(.a (Tup.cells QG aP))] (ZB (QfY aP)):=by
 refine Qp rfl fun hb=>tcg (Γ:=QhG) (n:=69) (sg:=QwX.sg) Qo (TOkL.cons QvX (TOkL.cons Qyl (TOkL.cons QqO (TOkL.cons Qxt (TOkL.cons QlO (TOkL.cons Qq2 (TOkL.cons QoI (TOkL.cons Qyp (TOkL.cons Qyn TOkL.nil))))))))) (by kernel_rfl) (by kernel_rfl) (Qzx _ aP ?_)
 refine ⟨pl_0,fun _=>rfl,fun g_aP=>?_⟩
 have q_aP:=Qxy (of_decide_eq_false g_aP) (Int.le_refl _)
 have s1:Sz.sz aP≤1048576:=q_aP
 have hl:Qal aP:=⟨by omega,hp⟩
 have hs:=QeQ aP
 have hg0:Sz.sz (QL aP)≤4294967296:=by
  have h1:∀ l:List Qd,Sz.sz (l.flatMap Zc)≤Sz.sz l:=by
   intro l
   induction l with
   | nil=>simp
   | cons x r ih=>have:=Qfi x;simp only [List.flatMap_cons,Qsi,QaX];omega
  have:=h1 (Q2 aP)
  unfold QL
  split
  ·simp only [Qw,Qy,QD];omega
  ·simp [Qd2,Qw]
 have ka0:=QhH (x:=aP) (k:=(1:Int)) (b:=1) (c:=1048576) ⟨by omega,by omega⟩ (Quk aP) (show Sz.sz aP≤1048576 from q_aP) (by omega)
 have kn:¬ ((QX aP (1:Int)).1<0):=by have:=ka0.2.1;omega
 have kr0:=QhH (x:=(QL aP)) (k:=(1:Int)) (b:=1) (c:=4294967296) ⟨by omega,by omega⟩ (Qtt _) hg0 (by omega)
 obtain ⟨kp0,kh0⟩:=Qxm kr0.1
 have kn0:¬ ((QX (QL aP) (1:Int)).1<0):=by have:=kr0.2.1;omega
 have kt0_0:List.take ((QL aP).1).length ((QX (QL aP) (1:Int)).2.1)=(QX (QL aP) (1:Int)).2.1:=Qs7 _ _
 have ke0:((QX (QL aP) (1:Int)).2.1,(QL aP).2.1,(QL aP).2.2)=(QX (QL aP) (1:Int)).2:=rfl
 simp only [id_eq,List.drop_zero,List.take_length,Prod.eta]
 simp [zif,m_eq,QfY,Qzd,QuY,QrU,Qx9,hp,q_aP,kn,kp0,kh0,kn0,kt0_0,ke0,hl]
end
end Go.Proofs.Ytephkbajoofeoaa.Am

