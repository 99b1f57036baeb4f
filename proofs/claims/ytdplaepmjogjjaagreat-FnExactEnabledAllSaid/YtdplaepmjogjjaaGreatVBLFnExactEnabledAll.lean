/-
  Written by program: the code of functions, what it asks, and that it comes to what the models say.
-/
import Derived.Test.YtdplaepmjogjjaaGreatVBH6
import Derived.Test.YtdplaepmjogjjaaGreatVBPR
import Derived.Test.YtdplaepmjogjjaaGreatVBH1
import Derived.Test.YtdplaepmjogjjaaGreatVBMK4
import Derived.Test.YtdplaepmjogjjaaGreatVBMK1
import Derived.Test.YtdplaepmjogjjaaGreatVBGF
namespace Go.Proofs.YtdplaepmjogjjaaGreat.Am
open Go Go.RowKit Go.Proofs.YtdplaepmjogjjaaGreat
set_option linter.all false
set_option maxHeartbeats 2000000
noncomputable section
variable (K:TRes→Prop)
def ZR (t:Bool):TRes:=zre (zcb t)
def QtM:TRow:=Qi 4 [(.a Qx)] fun x=>(none,ZR (Qhc x.1))
def QmM:TTab:=⟨[Qim,QfZ,QeZ,Qiy,Jt,QhN,QgT,Ja,Qfo],false⟩
def QAA:TCode :=
 (zsq [(.reg [zop 1 (.box 49 0 4),zmv 2 (zkb false)]),(.reg [zmv 3 (zki 1048576)]),(.reg [zLd 11 1 4,zmv 12 3,zca 13 19 [11,12],zmv 3 13]),(zsq [(.reg [zmv 14 3,zbi 15 .lss 14 (zki 0)]),(.cond 15 (zsq [(.reg [zmv 2 (zkb true)]),.ret]) .skip)]),(.reg [zLd 16 1 4,zca 17 21 [16],zca 18 20 [17],zmv 4 18]),(.reg [zLd 19 1 4,zca 20 21 [19],zop 5 (.new 56 (z0s Qx)),zst 5 20 4]),(.reg [zLd 21 5 4,zca 22 22 [21],zmv 6 22]),(zsq [(.reg [zmv 23 6,zmv 24 4,zca 25 23 [23,24],zno 26 25]),(.cond 26 (zsq [(.reg [zmv 2 (zkb false)]),.ret]) .skip)]),(zsq [(.draw [zLd 27 5 4,zLd 28 1 4,zca 29 21 [28],zca 30 24 [27,29],zno 31 30] [(0,2)]),(.cond 31 (zsq [(.reg [zmv 2 (zkb false)]),.ret]) .skip)]),(.reg [zmv 7 (zki 1)]),(.reg [zLd 32 5 4,zmv 33 7,zca 34 25 [32,33],zmv 7 34]),(zsq [(.reg [zmv 35 7,zbi 36 .lss 35 (zki 0),zmv 37 36,.grp 37 false [zmv 38 6,zmv 39 4,zca 40 23 [38,39],zno 41 40] 42 41]),(.cond 42 (zsq [(.reg [zmv 2 (zkb false)]),.ret]) .skip)]),(.reg [zmv 8 (zki 1)]),(.reg [zmv 43 6,zmv 44 8,zca 45 26 [43,44],zmv 8 45]),(.reg [zmv 9 (zki 1)]),(.reg [zmv 46 6,zmv 47 9,zca 48 27 [46,47],zmv 9 48]),(zsq [(.reg [zmv 49 9,zbi 50 .lss 49 (zki 0)]),(.cond 50 (zsq [(.reg [zmv 2 (zkb false)]),.ret]) .skip)]),(zsq [(.reg [zmv 51 9,zmv 52 8,zbi 53 .neq 51 52]),(.cond 53 (zsq [(.reg [zmv 2 (zkb false)]),.ret]) .skip)]),(.reg [zLd 54 1 4,zca 55 21 [54],zca 56 22 [55],zmv 10 56]),(zsq [(.reg [zmv 57 10,zmv 58 4,zca 59 23 [57,58],zno 60 59]),(.cond 60 (zsq [(.reg [zmv 2 (zkb false)]),.ret]) .skip)]),(.reg [zmv 9 (zki 1)]),(.reg [zmv 61 6,zmv 62 9,zca 63 27 [61,62],zmv 9 63]),(zsq [(.reg [zmv 64 9,zbi 65 .lss 64 (zki 0)]),(.cond 65 (zsq [(.reg [zmv 2 (zkb false)]),.ret]) .skip)]),(zsq [(.reg [zmv 66 9,zmv 67 8,zbi 68 .neq 66 67]),(.cond 68 (zsq [(.reg [zmv 2 (zkb false)]),.ret]) .skip)]),(.reg [zmv 2 (zkb true)]),.ret])
def QuI:List (ARv × Md):=[(.t 2,.one .d)]
theorem Qyw (aP:Qp) (h :
 let z2:=id (α:=Qp) aP
 let z5:=List.take ((z2.2.2.1).length) (List.drop 0 (z2.2.2.1))
 let z6:=List.take ((z2.2.2.2).length) (List.drop 0 (z2.2.2.2))
 let z7:=List.take ((z2.2.1).length) (List.drop 0 (z2.2.1))
 let z8:=List.take ((z2.1).length) (List.drop 0 (z2.1))
 let z1:=Zc (z8,z7,z5,z6)
 let z3:=Qaw (α:=Qp) (z8,z7,z5,z6)
 let z9:=m_eq (α:=List Int) (List.take (z1.length) (List.drop 0 z1)) z1
 let z11:=Qm (α:=List Int) z1 (1:Int)
 let z4:=List.take (z1.length) (List.drop 0 (z11.2))
 let z10:=m_held (α:=List Int) z4 (1:Int)
 let z12:=p_to (α:=Qp) aP
 ((p_sz (α:=Qp) aP (1048576:Int))∧(zif (decide ((m_sz (α:=Qp) aP (1048576:Int))<(0:Int))) (K (ZR true)) ((z12∧z3)∧(z12∧(z3∧(zif (!z9) (K (ZR false)) (z12∧(zif (!(m_eq (α:=Qp) (z8,z7,z5,z6) (z8,z7,z5,z6))) (K (ZR false)) ((((z2.1).length=(z2.1).length)∧(((z2.2.1).length=(z2.2.1).length)∧(((z2.2.2.1).length=(z2.2.2.1).length)∧((z2.2.2.2).length=(z2.2.2.2).length))))∧(zif ((decide (((Qaz (α:=Qp) z2 (1:Int)).1)<(0:Int)))||(!z9)) (K (ZR false)) ((z1.length=z1.length)∧((ZN (α:=List Int) z4 (1:Int))∧(zif (decide (z10<(0:Int))) (K (ZR false)) (zif (z10 != (z11.1)) (K (ZR false)) ((z12∧z3)∧(zif (!z9) (K (ZR false)) ((ZN (α:=List Int) z4 (1:Int))∧(zif (decide (z10<(0:Int))) (K (ZR false)) (zif (z10 != (z11.1)) (K (ZR false)) (K (ZR true)))))))))))))))))))))):Hold (tawp QmM (0+0) QAA (TQ 0 0 QuI K) (Qg [(.a (Tup.cells Qx aP))])) :=
 Hold.of (by kernel_rfl) h
theorem l_FnExactEnabledAll_h (aP:Qp):TCon Tryz.prog 4 [(.a (Tup.cells Qx aP))] (ZR (Qhc aP)):=by
 refine Qk rfl fun hb=>tcg (Γ:=QmM) (n:=69) (sg:=QtM.sg) Ql (TOkL.cons QwR (TOkL.cons QtO (TOkL.cons QyS (TOkL.cons QDI (TOkL.cons Qa0 (TOkL.cons QCc (TOkL.cons Qv4 (TOkL.cons QaR (TOkL.cons QEM TOkL.nil))))))))) (by kernel_rfl) (by kernel_rfl) (Qyw _ aP ?_)
 refine ⟨pl_0,fun _=>rfl,fun g_aP=>?_⟩
 have q_aP:=QDS (of_decide_eq_false g_aP) (Int.le_refl _)
 have s1:Sz.sz aP≤1048576:=q_aP
 have hl:Qaw (α:=Qp) aP:=by unfold Qaw;omega
 have hs:=Qgh aP
 have hg0:Sz.sz (Zc aP)≤4294967296:=by
  have h1:=QaW (Qb9 aP)
  have h2:=List.length_filter_le (fun s=>QO aP s) ((List.range (Qb9 aP).length).map fun k:Nat=>(k:Int))
  rw [List.length_map,List.length_range] at h2
  rw [QDc];unfold Zc;omega
 have ka0:=QCQ (x:=aP) (k:=(1:Int)) (b:=1) (c:=1048576) ⟨by omega,by omega⟩ (QuF aP) (show Sz.sz aP≤1048576 from q_aP) (by omega)
 have kn:¬ ((Qaz aP (1:Int)).1<0):=by have:=ka0.2.1;omega
 have kr0:=QCq (x:=(Zc aP)) (k:=(1:Int)) (b:=1) (c:=4294967296) ⟨by omega,by omega⟩ (Yx _) hg0 (by omega)
 obtain ⟨kp0,kh0⟩:=QvE kr0.1
 have kn0:¬ ((Qm (Zc aP) (1:Int)).1<0):=by have:=kr0.2.1;omega
 have kt0_0:List.take ((Zc aP)).length ((Qm (Zc aP) (1:Int)).2)=(Qm (Zc aP) (1:Int)).2:=QEP _ _
 simp only [id_eq,List.drop_zero,List.take_length,Prod.eta]
 simp [zif,m_eq,Qhc,QvP,QzD,QDf,QxM,q_aP,kn,kp0,kh0,kn0,kt0_0,hl]
end
end Go.Proofs.YtdplaepmjogjjaaGreat.Am

