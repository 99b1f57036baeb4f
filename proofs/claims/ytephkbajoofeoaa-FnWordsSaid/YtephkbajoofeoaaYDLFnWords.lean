/-
  Written by program: the code of functions, what it asks, and that it comes to what the models say.
-/
import Derived.Test.YtephkbajoofeoaaYDD1
import Derived.Test.YtephkbajoofeoaaYDD6
import Derived.Test.YtephkbajoofeoaaYDP6
import Derived.Test.YtephkbajoofeoaaYDGC
namespace Go.Proofs.Ytephkbajoofeoaa.Am
open Go Go.RowKit Go.Proofs.Ytephkbajoofeoaa
set_option linter.all false
set_option maxHeartbeats 2000000
noncomputable section
variable (K:TRes→Prop)
def Je (t:Bool):TRes:=zre (zcb t)
def QmF:TRow:=Qp 12 [(.c (.sl [(.int .u8)]))] fun x=>(none,Je (Qcb x.1))
def Qnb:List TRow:=[QdZ,QcE,Qd8,Qdx,JN,Qb1,Qax]
def Qp6:TCode :=
 (zsq [(.reg [zmv 2 (zkb false)]),(zsq [(.reg [zmv 10 0,zca 11 26 [10]]),(.cond 11 (zsq [(.reg [zmv 2 (zkb true)]),.ret]) .skip)]),(.reg [zmv 13 0,zca 14 71 [13],zmv 12 14,zex 15 12 0,zex 16 12 1,zop 3 (.new 103 (z0s QB)),zst 3 15 6,zmv 4 16]),(.draw [zmv 17 0,zca 18 72 [17,(zki 0)],zfa 19 3 3,zld 20 19 1,zle 21 20,zbi 22 .add 21 (zki 1),zbi 23 .rem 18 22,zmv 5 23] [(1,2),(1,3),(1,4)]),(.reg [zmv 24 0,zca 25 72 [24,(zki 1)],zbi 26 .rem 25 (zki 5),zbi 27 .add (zki 1) 26,zmv 6 27]),(.reg [zLd 28 3 6,zmv 29 5,zmv 30 6,zca 31 73 [28,29,30],zmv 7 31]),(.reg [zLd 32 3 6,zmv 33 5,zca 34 74 [32,33],zmv 8 34]),(.reg [zLd 35 3 6,zmv 36 5,zca 37 75 [35,36],zmv 9 37]),(zsq [(.reg [zmv 38 9,zmv 39 8,zbi 40 .gtr 38 39,zmv 41 40,.grp 41 false [zmv 42 7,zbi 43 .lss 42 (zki 0)] 44 43,zmv 45 44,.grp 45 false [zmv 46 7,zbi 47 .gtr 46 (zki 0),zmv 48 47,.grp 48 true [zmv 49 7,zmv 50 9,zbi 51 .lss 49 50] 52 51] 53 52]),(.cond 53 (zsq [(.reg [zmv 2 (zkb false)]),.ret]) .skip)]),(zsq [(.reg [zmv 54 7,zbi 55 .eql 54 (zki 0),zmv 56 55,.grp 56 false [zmv 57 6,zbi 58 .geq 57 (zki 5)] 59 58]),(.cond 59 (zsq [(.reg [zmv 60 7,zLd 61 3 6,zmv 62 5,zmv 63 6,zca 64 76 [61,62,63],zbi 65 .eql 60 64,zmv 2 65]),.ret]) .skip)]),(.reg [zLd 66 3 6,zmv 67 5,zmv 68 6,zbi 69 .add 68 (zki 1),zca 70 73 [66,67,69],zmv 71 7,zbi 72 .geq 70 71,zmv 73 72,.grp 73 true [zLd 74 3 6,zmv 75 5,zmv 76 6,zbi 77 .add 76 (zki 1),zca 78 73 [74,75,77],zmv 79 7,zbi 80 .sub 78 79,zmv 81 9,zbi 82 .leq 80 81] 83 82,zmv 84 83,.grp 84 true [zmv 85 7,zmv 86 6,zmv 87 9,zbi 88 .mul 86 87,zmv 89 8,zbi 90 .mul (zki 2) 89,zbi 91 .add 88 90,zbi 92 .leq 85 91] 93 92,zmv 2 93]),.ret])
def Qpo:List (ARv × Md):=[(.t 2,.one .d)]
theorem Qj3 (code:List Int) (h :
 let z3:=w64 ((1:Int)+(Int.tmod (m_at code (1:Int)) (5:Int)))
 let z4:=JK code
 let z1:=Int.tmod (m_at code (0:Int)) (w64 ((((z4.1).2.2.2.1).length:Int)+(1:Int)))
 let z2:=QA (z4.1) z1 z3
 let z5:=Qy (z4.1) z1
 let z6:=QA (z4.1) z1 (w64 (z3+(1:Int)))
 (zif (JS code) (K (Je true)) ((Zy code)∧(((p_at code (0:Int))∧(¬ (w64 ((((z4.1).2.2.2.1).length:Int)+(1:Int)):Int)=0))∧(((p_at code (1:Int))∧(¬ ((5:Int):Int)=0))∧(zif (((decide (z5>(QC (z4.1) z1)))||(decide (z2<(0:Int))))||((decide (z2>(0:Int)))&&(decide (z2<z5)))) (K (Je false)) (zif ((z2==(0:Int))||(decide (z3≥(5:Int)))) (K (Je (z2==z2))) (K (Je (((decide (z6≥z2))&&(decide ((w64 (z6-z2))≤z5)))&&(decide (z2≤(w64 ((w64 (z3*z5))+(w64 ((2:Int)*(QC (z4.1) z1))))))))))))))))):Hold (tawp Qnb (0+0) Qp6 (TQ 0 0 Qpo K) (Qm [(.c (.sl [(.int .u8)]) code)])) :=
 Hold.of (by kernel_rfl) h
theorem l_FnWords_h (code:List Int):TCon Try.prog 12 [(.c (.sl [(.int .u8)]) code)] (Je (Qcb code)):=by
 refine QP rfl fun hb=>tcg (n:=94) (sg:=QmF.sg) Qt (TOk.cons Qnz (TOk.cons Qlm (TOk.cons Qm9 (TOk.cons Qnp (TOk.cons Qeq (TOk.cons Qe6 (TOk.cons Qfa TOk.nil))))))) (by kernel_rfl) (by kernel_rfl) (Qj3 _ code ?_)
 have hl_code:code.length≤9223372036854775807:=hb.1.1
 conv=>zeta
 refine ⟨fun _=>R_eq rfl,fun hb=>?_⟩
 have hn:=Qks hb
 have hpost:=QjX code hn
 obtain ⟨⟨c,b⟩,hr⟩:∃ r,JK code=r:=⟨_,rfl⟩
 rw [hr] at hpost ⊢
 simp only
 have hpost:c.2.2.2.1.length≤4:=hpost
 refine ⟨hn,⟨Int.le_refl 0,by rw [Qi (x:=(c.2.2.2.1.length:Int)+1) (by omega) (by omega)];omega⟩,⟨by show (0:Int)≤1;omega,by omega⟩,?_⟩
 generalize Int.tmod (m_at code 0) _=s
 have hm:∃ m,w64 (1+Int.tmod (m_at code 1) 5)=m:=⟨_,rfl⟩
 obtain ⟨m,hm⟩:=hm
 rw [hm]
 have hv:=J1 c s
 have hw:=Jc c s
 have hL:=Qe3 c s m
 refine ⟨fun h=>?_,fun _=>⟨fun _=>R_eq (by simp [Qcb]),fun h=>R_eq ?_⟩⟩
 ·simp at h;omega
 ·simp only [Bool.or_eq_false_iff,beq_eq_false_iff_ne,decide_eq_false_iff_not] at h
  have hK:=QpN c s m h.1 (by omega)
  rw [Qi (x:=m+1) (by omega) (by omega),Qi (x:=QA c s (m+1)-_) (by omega) (by omega),Qi (x:=2*_) (by omega) (by omega),Qi (x:=m*_) (by omega) (by omega),Qi (by omega) (by omega)]
  simp only [Qcb,Bool.and_eq_true,decide_eq_true_eq]
  omega
end
end Go.Proofs.Ytephkbajoofeoaa.Am

