/-
  Written by program: the code of functions, what it asks, and that it comes to what the models say.
-/
import Derived.Test.YtephkbajoofeoaaWDH2
import Derived.Test.YtephkbajoofeoaaWDPN
import Derived.Test.YtephkbajoofeoaaWDH1
import Derived.Test.YtephkbajoofeoaaWDMK2
import Derived.Test.YtephkbajoofeoaaWDMK1
import Derived.Test.YtephkbajoofeoaaWDGF
namespace Go.Proofs.Ytephkbajoofeoaa.Am
open Go Go.RowKit Go.Proofs.Ytephkbajoofeoaa
set_option linter.all false
set_option maxHeartbeats 2000000
noncomputable section
variable (K:TRes→Prop)
def Zm (t:Bool):TRes:=zre (zcb t)
def Qql:TRow:=Qj 11 [(.a [(.sl ctOp)]),(.c TI)] fun x=>(none,Zm (QcF x.1 x.2.1))
def QiS:TTab:=⟨[QcG,QeW,QdL,QcQ,QaZ,QcN,Qeg,QaM,QcI],false⟩
def Qmn:TCode :=
 (zsq [(.reg [zop 2 (.box 94 0 1),zmv 4 (zkb false)]),(.reg [zmv 5 (zki 1048576)]),(.reg [zLd 16 2 1,zmv 17 5,zca 18 63 [16,17],zmv 5 18]),(zsq [(.reg [zmv 19 5,zbi 20 .lss 19 (zki 0)]),(.cond 20 (zsq [(.reg [zmv 4 (zkb true)]),.ret]) .skip)]),(.reg [zLd 22 2 1,zca 23 65 [22],zmv 24 1,zca 25 64 [23,24],zmv 21 25,zex 26 21 0,zex 27 21 1,zmv 6 26,zmv 7 27]),(.reg [zLd 28 2 1,zca 29 65 [28],zop 8 (.new 66 [(.n ctOp)]),zst 8 29 1]),(.reg [zLd 31 8 1,zmv 32 1,zca 33 59 [31,32],zmv 30 33,zex 34 30 0,zex 35 30 1,zmv 9 34,zmv 10 35]),(zsq [(.reg [zmv 36 9,zmv 37 6,zca 38 66 [36,37],zno 39 38,zmv 40 39,.grp 40 false [zmv 41 10,zmv 42 7,zop 43 (.eqb true 41 42)] 44 43]),(.cond 44 (zsq [(.reg [zmv 4 (zkb false)]),.ret]) .skip)]),(zsq [(.draw [zLd 45 8 1,zLd 46 2 1,zca 47 65 [46],zca 48 67 [45,47],zno 49 48] [(0,2)]),(.cond 49 (zsq [(.reg [zmv 4 (zkb false)]),.ret]) .skip)]),(.reg [zmv 11 (zki 1)]),(.reg [zLd 50 8 1,zmv 51 11,zca 52 68 [50,51],zmv 11 52]),(zsq [(.reg [zmv 53 11,zbi 54 .lss 53 (zki 0),zmv 55 54,.grp 55 false [zmv 56 9,zmv 57 6,zca 58 66 [56,57],zno 59 58] 60 59,zmv 61 60,.grp 61 false [zmv 62 10,zmv 63 7,zop 64 (.eqb true 62 63)] 65 64]),(.cond 65 (zsq [(.reg [zmv 4 (zkb false)]),.ret]) .skip)]),(.reg [zmv 12 (zki 1)]),(.reg [zmv 66 9,zmv 67 12,zca 68 69 [66,67],zmv 12 68]),(.reg [zmv 13 (zki 1)]),(.reg [zmv 69 9,zmv 70 13,zca 71 70 [69,70],zmv 13 71]),(zsq [(.reg [zmv 72 13,zbi 73 .lss 72 (zki 0)]),(.cond 73 (zsq [(.reg [zmv 4 (zkb false)]),.ret]) .skip)]),(zsq [(.reg [zmv 74 13,zmv 75 12,zbi 76 .neq 74 75]),(.cond 76 (zsq [(.reg [zmv 4 (zkb false)]),.ret]) .skip)]),(.reg [zLd 78 2 1,zca 79 65 [78],zmv 80 1,zca 81 59 [79,80],zmv 77 81,zex 82 77 0,zex 83 77 1,zmv 14 82,zmv 15 83]),(zsq [(.reg [zmv 84 14,zmv 85 6,zca 86 66 [84,85],zno 87 86,zmv 88 87,.grp 88 false [zmv 89 15,zmv 90 7,zop 91 (.eqb true 89 90)] 92 91]),(.cond 92 (zsq [(.reg [zmv 4 (zkb false)]),.ret]) .skip)]),(.reg [zmv 13 (zki 1)]),(.reg [zmv 93 9,zmv 94 13,zca 95 70 [93,94],zmv 13 95]),(zsq [(.reg [zmv 96 13,zbi 97 .lss 96 (zki 0)]),(.cond 97 (zsq [(.reg [zmv 4 (zkb false)]),.ret]) .skip)]),(zsq [(.reg [zmv 98 13,zmv 99 12,zbi 100 .neq 98 99]),(.cond 100 (zsq [(.reg [zmv 4 (zkb false)]),.ret]) .skip)]),(.reg [zmv 4 (zkb true)]),.ret])
def Qnx:List (ARv × Md):=[(.t 4,.one .d)]
theorem Qom (aM:List TOp') (aStages:Int) (h :
 let z3:=id (α:=List TOp') aM
 let z7:=List.take (z3.length) (List.drop 0 z3)
 let z1:=QB z7 aStages
 let z4:=m_eq (α:=List Int) (List.take ((z1.1).length) (List.drop 0 (z1.1))) (z1.1)
 let z6:=Qz (α:=List Int) (z1.1) (1:Int)
 let z2:=List.take ((z1.1).length) (List.drop 0 (z6.2))
 let z5:=m_held (α:=List Int) z2 (1:Int)
 let z8:=p_to (α:=List TOp') aM
 ((p_sz (α:=List TOp') aM (1048576:Int))∧(zif (decide ((m_sz (α:=List TOp') aM (1048576:Int))<(0:Int))) (K (Zm true)) (z8∧(z8∧(zif ((!z4)||(!((z1.2)==(z1.2)))) (K (Zm false)) (z8∧(zif (!(m_eq (α:=List TOp') z7 z7)) (K (Zm false)) ((z3.length=z3.length)∧(zif (((decide (((YE (α:=List TOp') z3 (1:Int)).1)<(0:Int)))||(!z4))||(!((z1.2)==(z1.2)))) (K (Zm false)) (((z1.1).length=(z1.1).length)∧((Zb (α:=List Int) z2 (1:Int))∧(zif (decide (z5<(0:Int))) (K (Zm false)) (zif (z5 != (z6.1)) (K (Zm false)) (z8∧(zif ((!z4)||(!((z1.2)==(z1.2)))) (K (Zm false)) ((Zb (α:=List Int) z2 (1:Int))∧(zif (decide (z5<(0:Int))) (K (Zm false)) (zif (z5 != (z6.1)) (K (Zm false)) (K (Zm true))))))))))))))))))))):Hold (tawp QiS (0+0) Qmn (TQ 0 0 Qnx K) (Qh [(.a [(.c (.sl ctOp) aM)]),(.c TI aStages)])) :=
 Hold.of (by kernel_rfl) h
theorem l_FnExactBestCuts_h (aM:List TOp') (aStages:Int):TCon Try.prog 11 [(.a [(.c (.sl ctOp) aM)]),(.c TI aStages)] (Zm (QcF aM aStages)):=by
 refine Ql rfl fun hb=>tcg (Γ:=QiS) (n:=101) (sg:=Qql.sg) Qm (TOkL.cons Qo5 (TOkL.cons Qsi (TOkL.cons Qms (TOkL.cons QmJ (TOkL.cons Qiu (TOkL.cons Qn0 (TOkL.cons QnI (TOkL.cons QjB (TOkL.cons QnE TOkL.nil))))))))) (by kernel_rfl) (by kernel_rfl) (Qom _ aM aStages ?_)
 refine ⟨pl_0,fun _=>rfl,fun g_aM=>?_⟩
 have q_aM:=QlH (of_decide_eq_false g_aM) (Int.le_refl _)
 have hg0:Sz.sz (QB aM aStages).1≤4294967296:=by
  rw [Qbz]
  by_cases h:(Qq aM&&m_in aStages 1 aM.length)=true
  ·obtain ⟨pre,post,he,_⟩:=Qs5 h
   have h1:=h
   simp only [Bool.and_eq_true] at h1
   have hm:=(JY h1.1).2
   have hk:=h1.2
   simp only [m_in,Bool.and_eq_true,decide_eq_true_eq] at hk
   have:=((JW (n:=aM.length) (k:=aStages) (by omega) hk.1 hk.2).2.2 (QB aM aStages).1 (by rw [he];simp)).2
   omega
  ·unfold QB;rw [if_neg h];simp
 have ka0:=Qo2 (x:=aM) (k:=(1:Int)) (b:=1) (c:=1048576) ⟨by omega,by omega⟩ (Qpq aM) (show Sz.sz aM≤1048576 from q_aM) (by omega)
 have kn:¬ ((YE aM (1:Int)).1<0):=by have:=ka0.2.1;omega
 have kr0:=QsL (x:=(QB aM aStages).1) (k:=(1:Int)) (b:=1) (c:=4294967296) ⟨by omega,by omega⟩ (QhU _) hg0 (by omega)
 obtain ⟨kp0,kh0⟩:=Qq0 kr0.1
 have kn0:¬ ((Qz (QB aM aStages).1 (1:Int)).1<0):=by have:=kr0.2.1;omega
 have kt0_0:List.take (((QB aM aStages).1)).length ((Qz (QB aM aStages).1 (1:Int)).2)=(Qz (QB aM aStages).1 (1:Int)).2:=QqJ _ _
 simp only [id_eq,List.drop_zero,List.take_length,Prod.eta]
 simp [zif,m_eq,Qn7,QcF,QsR,QpU,QqQ,q_aM,kn,kp0,kh0,kn0,kt0_0]
end
end Go.Proofs.Ytephkbajoofeoaa.Am

