/-
  Written by program: the code of functions, what it asks, and that it comes to what the models say.
-/
import Derived.Test.YtephkbajoofeoaaWCH6
import Derived.Test.YtephkbajoofeoaaWCPR
import Derived.Test.YtephkbajoofeoaaWCH1
import Derived.Test.YtephkbajoofeoaaWCMK4
import Derived.Test.YtephkbajoofeoaaWCMK1
import Derived.Test.YtephkbajoofeoaaWCGF
namespace Go.Proofs.Ytephkbajoofeoaa.Am
open Go Go.RowKit Go.Proofs.Ytephkbajoofeoaa
set_option linter.all false
set_option maxHeartbeats 2000000
noncomputable section
variable (K:TRes→Prop)
def Zu (t:Bool):TRes:=zre (zcb t)
def QnF:TRow:=Qm 15 [(.a QM)] fun x=>(none,Zu (QeP x.1))
def Ql9:TTab:=⟨[Qes,Qdx,QeO,Qe1,YM,QeZ,Qek,Yy,QdN],false⟩
def QuV:TCode :=
 (zsq [(.reg [zop 1 (.box 133 0 4),zmv 2 (zkb false)]),(.reg [zmv 3 (zki 1048576)]),(.reg [zLd 11 1 4,zmv 12 3,zca 13 91 [11,12],zmv 3 13]),(zsq [(.reg [zmv 14 3,zbi 15 .lss 14 (zki 0)]),(.cond 15 (zsq [(.reg [zmv 2 (zkb true)]),.ret]) .skip)]),(.reg [zLd 16 1 4,zca 17 93 [16],zca 18 92 [17],zmv 4 18]),(.reg [zLd 19 1 4,zca 20 93 [19],zop 5 (.new 139 (z0s QM)),zst 5 20 4]),(.reg [zLd 21 5 4,zca 22 94 [21],zmv 6 22]),(zsq [(.reg [zmv 23 6,zmv 24 4,zca 25 66 [23,24],zno 26 25]),(.cond 26 (zsq [(.reg [zmv 2 (zkb false)]),.ret]) .skip)]),(zsq [(.draw [zLd 27 5 4,zLd 28 1 4,zca 29 93 [28],zca 30 95 [27,29],zno 31 30] [(0,2)]),(.cond 31 (zsq [(.reg [zmv 2 (zkb false)]),.ret]) .skip)]),(.reg [zmv 7 (zki 1)]),(.reg [zLd 32 5 4,zmv 33 7,zca 34 96 [32,33],zmv 7 34]),(zsq [(.reg [zmv 35 7,zbi 36 .lss 35 (zki 0),zmv 37 36,.grp 37 false [zmv 38 6,zmv 39 4,zca 40 66 [38,39],zno 41 40] 42 41]),(.cond 42 (zsq [(.reg [zmv 2 (zkb false)]),.ret]) .skip)]),(.reg [zmv 8 (zki 1)]),(.reg [zmv 43 6,zmv 44 8,zca 45 69 [43,44],zmv 8 45]),(.reg [zmv 9 (zki 1)]),(.reg [zmv 46 6,zmv 47 9,zca 48 70 [46,47],zmv 9 48]),(zsq [(.reg [zmv 49 9,zbi 50 .lss 49 (zki 0)]),(.cond 50 (zsq [(.reg [zmv 2 (zkb false)]),.ret]) .skip)]),(zsq [(.reg [zmv 51 9,zmv 52 8,zbi 53 .neq 51 52]),(.cond 53 (zsq [(.reg [zmv 2 (zkb false)]),.ret]) .skip)]),(.reg [zLd 54 1 4,zca 55 93 [54],zca 56 94 [55],zmv 10 56]),(zsq [(.reg [zmv 57 10,zmv 58 4,zca 59 66 [57,58],zno 60 59]),(.cond 60 (zsq [(.reg [zmv 2 (zkb false)]),.ret]) .skip)]),(.reg [zmv 9 (zki 1)]),(.reg [zmv 61 6,zmv 62 9,zca 63 70 [61,62],zmv 9 63]),(zsq [(.reg [zmv 64 9,zbi 65 .lss 64 (zki 0)]),(.cond 65 (zsq [(.reg [zmv 2 (zkb false)]),.ret]) .skip)]),(zsq [(.reg [zmv 66 9,zmv 67 8,zbi 68 .neq 66 67]),(.cond 68 (zsq [(.reg [zmv 2 (zkb false)]),.ret]) .skip)]),(.reg [zmv 2 (zkb true)]),.ret])
def QrY:List (ARv × Md):=[(.t 2,.one .d)]
theorem QoC (aP:Qt) (h :
 let z2:=id (α:=Qt) aP
 let z5:=List.take ((z2.2.2.1).length) (List.drop 0 (z2.2.2.1))
 let z6:=List.take ((z2.2.2.2).length) (List.drop 0 (z2.2.2.2))
 let z7:=List.take ((z2.2.1).length) (List.drop 0 (z2.2.1))
 let z8:=List.take ((z2.1).length) (List.drop 0 (z2.1))
 let z1:=QU (z8,z7,z5,z6)
 let z3:=Jw (α:=Qt) (z8,z7,z5,z6)
 let z9:=m_eq (α:=List Int) (List.take (z1.length) (List.drop 0 z1)) z1
 let z11:=Qg (α:=List Int) z1 (1:Int)
 let z4:=List.take (z1.length) (List.drop 0 (z11.2))
 let z10:=m_held (α:=List Int) z4 (1:Int)
 let z12:=p_to (α:=Qt) aP
 ((p_sz (α:=Qt) aP (1048576:Int))∧(zif (decide ((m_sz (α:=Qt) aP (1048576:Int))<(0:Int))) (K (Zu true)) ((z12∧z3)∧(z12∧(z3∧(zif (!z9) (K (Zu false)) (z12∧(zif (!(m_eq (α:=Qt) (z8,z7,z5,z6) (z8,z7,z5,z6))) (K (Zu false)) ((((z2.1).length=(z2.1).length)∧(((z2.2.1).length=(z2.2.1).length)∧(((z2.2.2.1).length=(z2.2.2.1).length)∧((z2.2.2.2).length=(z2.2.2.2).length))))∧(zif ((decide (((Jf (α:=Qt) z2 (1:Int)).1)<(0:Int)))||(!z9)) (K (Zu false)) ((z1.length=z1.length)∧((Zp (α:=List Int) z4 (1:Int))∧(zif (decide (z10<(0:Int))) (K (Zu false)) (zif (z10 != (z11.1)) (K (Zu false)) ((z12∧z3)∧(zif (!z9) (K (Zu false)) ((Zp (α:=List Int) z4 (1:Int))∧(zif (decide (z10<(0:Int))) (K (Zu false)) (zif (z10 != (z11.1)) (K (Zu false)) (K (Zu true)))))))))))))))))))))):Hold (tawp Ql9 (0+0) QuV (TQ 0 0 QrY K) (Ql [(.a (Tup.cells QM aP))])) :=
 Hold.of (by kernel_rfl) h
theorem l_FnExactStashCounts_h (aP:Qt):TCon Try.prog 15 [(.a (Tup.cells QM aP))] (Zu (QeP aP)):=by
 refine Qq rfl fun hb=>tcg (Γ:=Ql9) (n:=69) (sg:=QnF.sg) Qp (TOkL.cons QtA (TOkL.cons Qst (TOkL.cons Qra (TOkL.cons QpA (TOkL.cons JQ (TOkL.cons Qny (TOkL.cons QsM (TOkL.cons J5 (TOkL.cons Qpx TOkL.nil))))))))) (by kernel_rfl) (by kernel_rfl) (QoC _ aP ?_)
 refine ⟨pl_0,fun _=>rfl,fun g_aP=>?_⟩
 have q_aP:=Qwq (of_decide_eq_false g_aP) (Int.le_refl _)
 have s1:Sz.sz aP≤1048576:=q_aP
 have hl:Jw (α:=Qt) aP:=by unfold Jw;omega
 have hs:=QfI aP
 have hg0:Sz.sz (QU aP)≤4294967296:=by
  have:=Qaa (Qcx aP)
  rw [QuR];unfold QU;rw [List.length_map];omega
 have ka0:=QoS (x:=aP) (k:=(1:Int)) (b:=1) (c:=1048576) ⟨by omega,by omega⟩ (QpN aP) (show Sz.sz aP≤1048576 from q_aP) (by omega)
 have kn:¬ ((Jf aP (1:Int)).1<0):=by have:=ka0.2.1;omega
 have kr0:=QrA (x:=(QU aP)) (k:=(1:Int)) (b:=1) (c:=4294967296) ⟨by omega,by omega⟩ (ZK _) hg0 (by omega)
 obtain ⟨kp0,kh0⟩:=Quo kr0.1
 have kn0:¬ ((Qg (QU aP) (1:Int)).1<0):=by have:=kr0.2.1;omega
 have kt0_0:List.take ((QU aP)).length ((Qg (QU aP) (1:Int)).2)=(Qg (QU aP) (1:Int)).2:=Qnv _ _
 simp only [id_eq,List.drop_zero,List.take_length,Prod.eta]
 simp [zif,m_eq,QeP,Qs0,Qvo,QnE,QpL,q_aP,kn,kp0,kh0,kn0,kt0_0,hl]
end
end Go.Proofs.Ytephkbajoofeoaa.Am

