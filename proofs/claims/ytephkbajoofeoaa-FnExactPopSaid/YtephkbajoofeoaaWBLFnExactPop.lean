/-
  Written by program: the code of functions, what it asks, and that it comes to what the models say.
-/
import Derived.Test.YtephkbajoofeoaaWBH3
import Derived.Test.YtephkbajoofeoaaWBPO
import Derived.Test.YtephkbajoofeoaaWBMK2
import Derived.Test.YtephkbajoofeoaaWBGF
namespace Go.Proofs.Ytephkbajoofeoaa.Am
open Go Go.RowKit Go.Proofs.Ytephkbajoofeoaa
set_option linter.all false
set_option maxHeartbeats 2000000
noncomputable section
variable (K:TRes→Prop)
def QY (t:Bool):TRes:=zre (zcb t)
def Qnh:TRow:=Qm 7 [(.a Qz)] fun x=>(none,QY (QcK x.1))
def QfH:TTab:=⟨[Qcd,Qc9,Qa9,Qbi,QbV,QaZ,Qbk,Qba,Qcx,QbR],false⟩
def Qi4:TCode :=
 (zsq [(.reg [zop 1 (.box 52 0 2),zmv 2 (zkb false)]),(.reg [zmv 3 (zki 1048576)]),(.reg [zLd 17 1 2,zmv 18 3,zca 19 34 [17,18],zmv 3 19]),(zsq [(.reg [zmv 20 3,zbi 21 .lss 20 (zki 0)]),(.cond 21 (zsq [(.reg [zmv 2 (zkb true)]),.ret]) .skip)]),(.reg [zLd 23 1 2,zca 24 37 [23],zca 25 44 [24],zmv 22 25,zex 26 22 0,zex 27 22 1,zex 28 22 2,zop 4 (.new 36 (z0s Qz)),zop 5 (.new 39 (z0s Qc)),zst 4 26 2,zst 5 27 2,zmv 6 28]),(.reg [zLd 29 1 2,zca 30 37 [29],zop 7 (.new 36 (z0s Qz)),zst 7 30 2]),(.reg [zLd 32 7 2,zca 33 30 [32],zmv 31 33,zex 34 31 0,zex 35 31 1,zex 36 31 2,zop 8 (.new 36 (z0s Qz)),zop 9 (.new 39 (z0s Qc)),zst 8 34 2,zst 9 35 2,zmv 10 36]),(zsq [(.reg [zLd 37 8 2,zLd 38 4 2,zca 39 39 [37,38],zno 40 39,zmv 41 40,.grp 41 false [zLd 42 9 2,zLd 43 5 2,zca 44 40 [42,43],zno 45 44] 46 45,zmv 47 46,.grp 47 false [zmv 48 10,zmv 49 6,zop 50 (.eqb true 48 49)] 51 50]),(.cond 51 (zsq [(.reg [zmv 2 (zkb false)]),.ret]) .skip)]),(zsq [(.draw [zLd 52 7 2,zLd 53 1 2,zca 54 37 [53],zca 55 39 [52,54],zno 56 55] [(0,2)]),(.cond 56 (zsq [(.reg [zmv 2 (zkb false)]),.ret]) .skip)]),(.reg [zmv 11 (zki 1)]),(.reg [zLd 57 7 2,zmv 58 11,zca 59 41 [57,58],zmv 11 59]),(zsq [(.reg [zmv 60 11,zbi 61 .lss 60 (zki 0),zmv 62 61,.grp 62 false [zLd 63 8 2,zLd 64 4 2,zca 65 39 [63,64],zno 66 65] 67 66,zmv 68 67,.grp 68 false [zLd 69 9 2,zLd 70 5 2,zca 71 40 [69,70],zno 72 71] 73 72,zmv 74 73,.grp 74 false [zmv 75 10,zmv 76 6,zop 77 (.eqb true 75 76)] 78 77]),(.cond 78 (zsq [(.reg [zmv 2 (zkb false)]),.ret]) .skip)]),(.reg [zmv 12 (zki 1)]),(.reg [zLd 79 8 2,zmv 80 12,zca 81 41 [79,80],zmv 12 81]),(.reg [zLd 82 9 2,zmv 83 12,zca 84 42 [82,83],zmv 12 84]),(.reg [zmv 13 (zki 1)]),(.reg [zLd 85 8 2,zmv 86 13,zca 87 43 [85,86],zmv 13 87]),(zsq [(.reg [zmv 88 13,zbi 89 .lss 88 (zki 0)]),(.cond 89 (zsq [(.reg [zmv 2 (zkb false)]),.ret]) .skip)]),(.reg [zLd 90 9 2,zmv 91 13,zca 92 45 [90,91],zmv 13 92]),(zsq [(.reg [zmv 93 13,zbi 94 .lss 93 (zki 0)]),(.cond 94 (zsq [(.reg [zmv 2 (zkb false)]),.ret]) .skip)]),(zsq [(.reg [zmv 95 13,zmv 96 12,zbi 97 .neq 95 96]),(.cond 97 (zsq [(.reg [zmv 2 (zkb false)]),.ret]) .skip)]),(.reg [zLd 99 1 2,zca 100 37 [99],zca 101 30 [100],zmv 98 101,zex 102 98 0,zex 103 98 1,zex 104 98 2,zop 14 (.new 36 (z0s Qz)),zop 15 (.new 39 (z0s Qc)),zst 14 102 2,zst 15 103 2,zmv 16 104]),(zsq [(.reg [zLd 105 14 2,zLd 106 4 2,zca 107 39 [105,106],zno 108 107,zmv 109 108,.grp 109 false [zLd 110 15 2,zLd 111 5 2,zca 112 40 [110,111],zno 113 112] 114 113,zmv 115 114,.grp 115 false [zmv 116 16,zmv 117 6,zop 118 (.eqb true 116 117)] 119 118]),(.cond 119 (zsq [(.reg [zmv 2 (zkb false)]),.ret]) .skip)]),(.reg [zmv 13 (zki 1)]),(.reg [zLd 120 8 2,zmv 121 13,zca 122 43 [120,121],zmv 13 122]),(zsq [(.reg [zmv 123 13,zbi 124 .lss 123 (zki 0)]),(.cond 124 (zsq [(.reg [zmv 2 (zkb false)]),.ret]) .skip)]),(.reg [zLd 125 9 2,zmv 126 13,zca 127 45 [125,126],zmv 13 127]),(zsq [(.reg [zmv 128 13,zbi 129 .lss 128 (zki 0)]),(.cond 129 (zsq [(.reg [zmv 2 (zkb false)]),.ret]) .skip)]),(zsq [(.reg [zmv 130 13,zmv 131 12,zbi 132 .neq 130 131]),(.cond 132 (zsq [(.reg [zmv 2 (zkb false)]),.ret]) .skip)]),(.reg [zmv 2 (zkb true)]),.ret])
def Qnd:List (ARv × Md):=[(.t 2,.one .d)]
theorem Qjg (aQ:Qe) (h :
 let z6:=id (α:=Qe) aQ
 let z4:=List.take ((z6.2).length) (List.drop 0 (z6.2))
 let z1:=Qo (z6.1,z4)
 let z5:=m_eq (α:=Qb) ((z1.2.1).1,(List.take (((z1.2.1).2).length) (List.drop 0 ((z1.2.1).2)))) (z1.2.1)
 let z7:=Qw (α:=Qe) (z1.1) (1:Int)
 let z8:=m_eq (α:=Qe) ((z1.1).1,(List.take (((z1.1).2).length) (List.drop 0 ((z1.1).2)))) (z1.1)
 let z10:=List.take (((z1.1).2).length) (List.drop 0 ((z7.2).2))
 let z2:=m_heldS (α:=Qe) ((z1.1).1,z10) (1:Int)
 let z11:=Qw (α:=Qb) (z1.2.1) (z7.1)
 let z3:=List.take (((z1.2.1).2).length) (List.drop 0 ((z11.2).2))
 let z9:=m_heldS (α:=Qb) ((z1.2.1).1,z3) z2
 let z12:=p_to (α:=Qe) aQ
 let z13:=QF (α:=Qe) (z6.1,z4)
 let z14:=QT (α:=Qe) ((z1.1).1,z10) (1:Int)
 let z15:=QT (α:=Qb) ((z1.2.1).1,z3) z2
 ((p_sz (α:=Qe) aQ (1048576:Int))∧(zif (decide ((m_sz (α:=Qe) aQ (1048576:Int))<(0:Int))) (K (QY true)) ((z12∧z13)∧(z12∧(z13∧(zif (((!z8)||(!z5))||(!((z1.2.2)==(z1.2.2)))) (K (QY false)) (z12∧(zif (!(m_eq (α:=Qe) (z6.1,z4) (z6.1,z4))) (K (QY false)) (((z6.2).length=(z6.2).length)∧(zif ((((decide (((Qw (α:=Qe) z6 (1:Int)).1)<(0:Int)))||(!z8))||(!z5))||(!((z1.2.2)==(z1.2.2)))) (K (QY false)) ((((z1.1).2).length=((z1.1).2).length)∧((((z1.2.1).2).length=((z1.2.1).2).length)∧(z14∧(zif (decide (z2<(0:Int))) (K (QY false)) (z15∧(zif (decide (z9<(0:Int))) (K (QY false)) (zif (z9 != (z11.1)) (K (QY false)) ((z12∧z13)∧(zif (((!z8)||(!z5))||(!((z1.2.2)==(z1.2.2)))) (K (QY false)) (z14∧(zif (decide (z2<(0:Int))) (K (QY false)) (z15∧(zif (decide (z9<(0:Int))) (K (QY false)) (zif (z9 != (z11.1)) (K (QY false)) (K (QY true))))))))))))))))))))))))))):Hold (tawp QfH (0+0) Qi4 (TQ 0 0 Qnd K) (Qk [(.a [(.c TI aQ.1),(.c (.sl Qc) aQ.2)])])) :=
 Hold.of (by kernel_rfl) h
theorem l_FnExactPop_h (aQ:Qe):TCon Try.prog 7 [(.a [(.c TI aQ.1),(.c (.sl Qc) aQ.2)])] (QY (QcK aQ)):=by
 refine Qr rfl fun hb=>tcg (Γ:=QfH) (n:=133) (sg:=Qnh.sg) Qq (TOkL.cons QlO (TOkL.cons QjR (TOkL.cons Qmy (TOkL.cons Qld (TOkL.cons Qn3 (TOkL.cons Qhc (TOkL.cons QjL (TOkL.cons Qj8 (TOkL.cons Qnz (TOkL.cons QlX TOkL.nil)))))))))) (by kernel_rfl) (by kernel_rfl) (Qjg _ aQ ?_)
 refine ⟨pl_0,fun _=>rfl,fun g_aQ=>?_⟩
 have q_aQ:=Qni (of_decide_eq_false g_aQ) (Int.le_refl _)
 have s1:Sz.sz aQ≤1048576:=q_aQ
 have hl:QF (α:=Qe) aQ:=by unfold QF;omega
 have hg0:Sz.sz (Qo aQ).1≤4294967296:=by
  unfold Qo
  simp only [QB,QD] at s1
  split
  ·have:Sz.sz aQ.2.tail≤Sz.sz aQ.2:=by cases h:aQ.2 <;> simp
   simp only [QB,QD];omega
  ·simp only [QB,QD];omega
 have hg1:Sz.sz (Qo aQ).2.1≤4294967296:=by
  unfold Qo
  simp only [QB,QD] at s1
  split
  ·rename_i h
   have h2:0<aQ.2.length:=by simp at h;exact h.2
   have h3:=Qap (Qck h2 (0,[]))
   simp only [QB,QD] at h3 ⊢;omega
  ·simp [QB]
 have ka0:=QbM (x:=aQ) (k:=(1:Int)) (b:=1) (c:=1048576) ⟨by omega,by omega⟩ (QdM aQ) (show Sz.sz aQ≤1048576 from q_aQ) (by omega)
 have kn:¬ ((Qw aQ (1:Int)).1<0):=by have:=ka0.2.1;omega
 have kr0:=QbM (x:=(Qo aQ).1) (k:=(1:Int)) (b:=1) (c:=4294967296) ⟨by omega,by omega⟩ (QdM _) hg0 (by omega)
 obtain ⟨kp0,kh0⟩:=QdW kr0.1
 have kn0:¬ ((Qw (Qo aQ).1 (1:Int)).1<0):=by have:=kr0.2.1;omega
 have kt0_1:List.take (((Qo aQ).1).2).length ((Qw (Qo aQ).1 (1:Int)).2.2)=(Qw (Qo aQ).1 (1:Int)).2.2:=Qf5 _ _
 have ke0:(((Qo aQ).1).1,(Qw (Qo aQ).1 (1:Int)).2.2)=(Qw (Qo aQ).1 (1:Int)).2:=rfl
 have kr1:=QbM (x:=(Qo aQ).2.1) (k:=(Qw (Qo aQ).1 (1:Int)).1) (b:=68719476737) (c:=4294967296) ⟨kr0.2.1,by have:=kr0.2.2;omega⟩ (Qlv _) hg1 (by omega)
 obtain ⟨kp1,kh1⟩:=QdW kr1.1
 have kn1:¬ ((Qw (Qo aQ).2.1 (Qw (Qo aQ).1 (1:Int)).1).1<0):=by have:=kr1.2.1;omega
 have kt1_1:List.take (((Qo aQ).2.1).2).length ((Qw (Qo aQ).2.1 (Qw (Qo aQ).1 (1:Int)).1).2.2)=(Qw (Qo aQ).2.1 (Qw (Qo aQ).1 (1:Int)).1).2.2:=Qf5 _ _
 have ke1:(((Qo aQ).2.1).1,(Qw (Qo aQ).2.1 (Qw (Qo aQ).1 (1:Int)).1).2.2)=(Qw (Qo aQ).2.1 (Qw (Qo aQ).1 (1:Int)).1).2:=rfl
 simp only [id_eq,List.drop_zero,List.take_length,Prod.eta]
 simp [zif,m_eq,QcK,Qj1,QiO,Qnk,Qmt,q_aQ,kn,kp0,kh0,kn0,kt0_1,ke0,kp1,kh1,kn1,kt1_1,ke1,hl]
end
end Go.Proofs.Ytephkbajoofeoaa.Am

