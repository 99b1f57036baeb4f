/-
  Written by program: the code of functions, what it asks, and that it comes to what the models say.
-/
import Derived.Test.YtephkbajoofeoaaYCD1
import Derived.Test.YtephkbajoofeoaaYCD4
import Derived.Test.YtephkbajoofeoaaYCP5
import Derived.Test.YtephkbajoofeoaaYCP4
import Derived.Test.YtephkbajoofeoaaYCGC
namespace Go.Proofs.Ytephkbajoofeoaa.Am
open Go Go.RowKit Go.Proofs.Ytephkbajoofeoaa
set_option linter.all false
set_option maxHeartbeats 2000000
noncomputable section
variable (K:TRes→Prop)
def Q4 (t:Bool):TRes:=zre (zcb t)
def QjB:TRow:=Qr 8 [(.c (.sl [(.int .u8)]))] fun x=>(none,Q4 (Zm x.1))
def JD:List TRow:=[Qct,QcF,JE,QcY,Qav,QcS,J8,QaK]
def Qfp:TCode :=
 (zsq [(zsq [(.reg [zmv 50 9,zmv 51 4,zle 52 51,zbi 53 .leq 50 52]),(.cond 53 .skip (.exit 0))]),(.block 1 (zsq [(.reg [zLd 57 3 1,zmv 58 4,zmv 59 9,zca 60 49 [57,58,59],zmv 56 60,zex 61 56 0,zex 62 56 1,zmv 10 61,zmv 11 62]),(zsq [(.draw [zmv 63 10,zmv 64 7,zbi 65 .neq 63 64,zmv 66 65,.grp 66 false [zmv 67 11,zmv 68 10,zbi 69 .leq 67 68] 70 69,zmv 71 70,.grp 71 false [zLd 72 3 1,zmv 73 4,zmv 74 9,zca 75 51 [72,73,74],zLd 76 3 1,zmv 77 4,zca 78 50 [76,77],zbi 79 .gtr 75 78] 80 79] [(12,13)]),(.cond 80 (zsq [(.reg [zmv 2 (zkb false)]),.ret]) .skip)]),(.reg [zmv 81 11,zmv 7 81]),(.reg [zmv 82 8,zLd 83 3 1,zmv 84 4,zmv 85 9,zca 86 51 [83,84,85],zbi 87 .add 82 86,zmv 8 87])])),(.reg [zmv 54 9,zbi 55 .add 54 (zki 1),zmv 9 55])])
def QgA:List (Nat × Md):=[(3,.b [.d]),(4,.one .d),(7,.one .d),(8,.one .d),(9,.one .d)]
def Qfs:TCode :=
 (zsq [(zsq [(.reg [zmv 88 13,zfa 89 3 0,zld 90 89 1,zle 91 90,zbi 92 .lss 88 91]),(.cond 92 .skip (.exit 2))]),(.block 3 (.reg [zmv 95 12,zfa 96 3 0,zld 97 96 1,zmv 98 13,zia 99 97 98 ctOp,zLd 100 99 4,zca 101 52 [100],zbi 102 .add 95 101,zmv 12 102])),(.reg [zmv 93 13,zbi 94 .add 93 (zki 1),zmv 13 94])])
def Qfl:List (Nat × Md):=[(3,.b [.d]),(4,.one .d),(7,.one .d),(8,.one .d),(12,.one .d),(13,.one .d)]
def QdA:TCode :=
 (zsq [(.reg [zmv 103 7,zfa 104 3 0,zld 105 104 1,zle 106 105,zbi 107 .eql 103 106,zmv 108 107,.grp 108 true [zmv 109 8,zmv 110 12,zbi 111 .eql 109 110] 112 111,zmv 113 112,.grp 113 true [zLd 114 3 1,zmv 115 4,zca 116 50 [114,115],zmv 117 4,zle 118 117,zbi 119 .add 118 (zki 1),zbi 120 .mul 116 119,zmv 121 12,zbi 122 .geq 120 121] 123 122,zmv 2 123]),.ret])
def Qhr:TCode :=
 (zsq [(.reg [zmv 12 (zki 0)]),(zsq [(.reg [zmv 13 (zki 0)]),(.block 2 (.loop Qfl Qfs))]),QdA])
def QiD:TCode :=
 (zsq [(.reg [zmv 2 (zkb false)]),(zsq [(.reg [zmv 14 0,zca 15 26 [14]]),(.cond 15 (zsq [(.reg [zmv 2 (zkb true)]),.ret]) .skip)]),(.reg [zmv 17 0,zca 18 46 [17],zmv 16 18,zex 19 16 0,zex 20 16 1,zop 3 (.new 66 [(.n ctOp)]),zst 3 19 1,zmv 4 20]),(zsq [(.draw [zLd 21 3 1,zmv 22 4,zca 23 47 [21,22],zLd 24 3 1,zmv 25 4,zca 26 48 [24,25],zop 27 (.eqb true 23 26)] [(2,3)]),(.cond 27 (zsq [(.reg [zmv 2 (zkb false)]),.ret]) .skip)]),(zsq [(.reg [zLd 28 3 1,zmv 29 4,zca 30 48 [28,29],zno 31 30]),(.cond 31 (zsq [(.reg [zLd 33 3 1,zmv 34 4,zca 35 49 [33,34,(zki 0)],zmv 32 35,zex 36 32 0,zex 37 32 1,zmv 5 36,zmv 6 37]),(.reg [zmv 38 5,zbi 39 .eql 38 (zki 0),zmv 40 39,.grp 40 true [zmv 41 6,zbi 42 .eql 41 (zki 0)] 43 42,zmv 44 43,.grp 44 true [zLd 45 3 1,zmv 46 4,zca 47 50 [45,46],zbi 48 .eql 47 (zki 0)] 49 48,zmv 2 49]),.ret]) .skip)]),(.reg [zmv 7 (zki 0)]),(.reg [zmv 8 (zki 0)]),(zsq [(.reg [zmv 9 (zki 0)]),(.block 0 (.loop QgA Qfp))]),Qhr])
def QhS:List (ARv × Md):=[(.t 2,.one .d)]
def Qa8:Qd:=TQ 0 0 QhS K
def QnE:Qd:=Qseq (tawp JD 0 QdA (Qa8 K)) (Qa8 K)
def Qmi:Qd:=Qblk 2 (QnE K)
def Jp (code:List Int) (at1:Int) (sum:Int) (all:Int) (i:Int):Prop:=Loop JD 0 Qfl Qfs (Qmi K) ⟨[(3,(.p 0 0 0)),(4,(zcs [TI] ((Qj code).2))),(7,(zci at1)),(8,(zci sum)),(12,(zci all)),(13,(zci i))],[(0,(.box [(zcs ctOp ((Qj code).1))]))],1⟩
def QmF:Qd:=Qseq (tawp JD 0 Qhr (Qa8 K)) (Qa8 K)
def Ql1:Qd:=Qblk 0 (QmF K)
def Jz (code:List Int) (at1:Int) (sum:Int) (s:Int):Prop:=Loop JD 0 QgA Qfp (Ql1 K) ⟨[(3,(.p 0 0 0)),(4,(zcs [TI] ((Qj code).2))),(7,(zci at1)),(8,(zci sum)),(9,(zci s))],[(0,(.box [(zcs ctOp ((Qj code).1))]))],1⟩
theorem QhE (code:List Int) (at1:Int) (sum:Int) (all:Int) (i:Int) (h :
 (zif (decide (i<(((Qj code).1).length:Int))) (((0:Int)≤i∧Int.toNat i<((Qj code).1).length)∧(Jp K code at1 sum (w64 (all+(Q5 (gtd dOp ((Qj code).1) (Int.toNat i))))) (w64 (i+(1:Int))))) (K (Q4 (((at1==(((Qj code).1).length:Int))&&(sum==all))&&(decide ((w64 ((QL ((Qj code).1) ((Qj code).2))*(w64 ((((Qj code).2).length:Int)+(1:Int)))))≥all))))))):Jp K code at1 sum all i :=
 Loop.of (by kernel_rfl) h
theorem Qe1 (code:List Int) (at1:Int) (sum:Int) (s:Int) (h :
 (zif (decide (s≤(((Qj code).2).length:Int))) (zif (((((Qo ((Qj code).1) ((Qj code).2) s).1) != at1)||(decide (((Qo ((Qj code).1) ((Qj code).2) s).2)≤((Qo ((Qj code).1) ((Qj code).2) s).1))))||(decide ((QS ((Qj code).1) ((Qj code).2) s)>(QL ((Qj code).1) ((Qj code).2))))) (K (Q4 false)) (Jz K code ((Qo ((Qj code).1) ((Qj code).2) s).2) (w64 (sum+(QS ((Qj code).1) ((Qj code).2) s))) (w64 (s+(1:Int))))) (Jp K code at1 sum 0 0))):Jz K code at1 sum s :=
 Loop.of (by kernel_rfl) h
theorem Qle (code:List Int) (h :
 (zif (JB code) (K (Q4 true)) ((Zo code)∧(zif (!((Qh ((Qj code).1) ((Qj code).2))==(Qh ((Qj code).1) ((Qj code).2)))) (K (Q4 false)) (zif (!(Qh ((Qj code).1) ((Qj code).2))) (K (Q4 (((((Qo ((Qj code).1) ((Qj code).2) (0:Int)).1)==(0:Int))&&(((Qo ((Qj code).1) ((Qj code).2) (0:Int)).2)==(0:Int)))&&((QL ((Qj code).1) ((Qj code).2))==(0:Int))))) (Jz K code 0 0 0)))))):Hold (tawp JD (0+0) QiD (TQ 0 0 QhS K) (Ql [(.c (.sl [(.int .u8)]) code)])) :=
 Hold.of (by kernel_rfl) h
theorem l_FnCovers_h (code:List Int):TCon Try.prog 8 [(.c (.sl [(.int .u8)]) code)] (Q4 (Zm code)):=by
 refine QY rfl fun hb=>tcg (n:=124) (sg:=QjB.sg) Qv (TOk.cons QiG (TOk.cons Qlg (TOk.cons Qci (TOk.cons QnR (TOk.cons Qhc (TOk.cons QjD (TOk.cons Qgy (TOk.cons Qei TOk.nil)))))))) (by kernel_rfl) (by kernel_rfl) (Qle _ code ?_)
 have hl_code:code.length≤9223372036854775807:=hb.1.1
 refine ⟨fun _=>R_eq rfl,fun hb=>?_⟩
 have hn:=QiP hb
 have hpost:=Qm6 code hn
 obtain ⟨⟨m,cuts⟩,hr⟩:∃ r,Qj code=r:=⟨_,rfl⟩
 rw [hr] at hpost ⊢
 simp only
 refine ⟨hn,fun h=>by simp at h,fun _=>⟨fun h=>R_eq ?_,fun h=>?_⟩⟩
 ·simp only [Bool.not_eq_true'] at h
  simp [Qo,QL,h,Zm]
 simp only [Bool.not_eq_false'] at h
 have hl:=Qcz h
 have hE:Qn m cuts (cuts.length+1)=m.length:=Qln h
 have hM:=QjK h
 have hA:=Qes h (s:=cuts.length+1) (Nat.le_refl _)
 rw [hE,List.take_length] at hA
 have hR:=Jm m
 have k4:Jp (fun r'=>r'=Q4 (Zm code)) code (m.length:Int) (QI m) (QI (m.take 0)) ((0:Nat):Int):=by
  refine Jf m.length (fun k=>Jp (fun r'=>r'=Q4 (Zm code)) code (m.length:Int) (QI m) (QI (m.take k)) (k:Int)) ?_ ?_
  ·refine QhE (fun r'=>r'=Q4 (Zm code)) code _ _ _ _ ?_
   rw [hr]
   refine ⟨fun h=>by simp at h,fun _=>R_eq ?_⟩
   have h5:0≤((cuts.length+1:Nat):Int)*QL m cuts∧((cuts.length+1:Nat):Int)*QL m cuts≤8*288:=⟨Int.mul_nonneg (by omega) hM.1,Int.mul_le_mul (by omega) hM.2 hM.1 (by omega)⟩
   simp only
   rw [List.take_length,sc1 (by omega),Int.mul_comm]
   generalize ((cuts.length+1:Nat):Int)*QL m cuts=P at hA h5 ⊢
   rw [Qk (x:=P) (by omega) (by omega)]
   simp only [Zm,Bool.and_eq_true,beq_self_eq_true,true_and,decide_eq_true_eq]
   omega
  ·intro k hk ih
   refine QhE (fun r'=>r'=Q4 (Zm code)) code _ _ _ _ ?_
   rw [hr]
   refine ⟨fun _=>⟨⟨by omega,by simpa using hk⟩,?_⟩,fun h=>by simp at h;omega⟩
   have h1:=Qik hk
   have h2:=Jm (m.take (k+1))
   rw [List.length_take] at h2
   simp only [Int.toNat_natCast]
   rw [← h1,Qk (by omega) (by omega),sc1 (by omega)]
   exact ih
 have k2:Jz (fun r'=>r'=Q4 (Zm code)) code ((Qn m cuts 0:Nat):Int) (QI (m.take (Qn m cuts 0))) ((0:Nat):Int):=by
  refine Jf (cuts.length+1) (fun k=>Jz (fun r'=>r'=Q4 (Zm code)) code ((Qn m cuts k:Nat):Int) (QI (m.take (Qn m cuts k))) (k:Int)) ?_ ?_
  ·refine Qe1 (fun r'=>r'=Q4 (Zm code)) code _ _ _ ?_
   rw [hr]
   refine ⟨fun h=>by simp at h;omega,fun _=>?_⟩
   rw [hE,List.take_length]
   simpa [QI] using k4
  ·intro k hk ih
   refine Qe1 (fun r'=>r'=Q4 (Zm code)) code _ _ _ ?_
   rw [hr]
   have hk':k≤cuts.length:=by omega
   refine ⟨fun _=>?_,fun h=>by simp at h;omega⟩
   simp only
   rw [Qgx h hk']
   have h1:=Qb6 h hk'
   have h2:=QdU h hk'
   refine ⟨fun h=>?_,fun _=>?_⟩
   ·simp at h;omega
   ·have h3:=Qgh h hk'
    have h4:=Jm (m.take (Qn m cuts (k+1)))
    rw [List.length_take] at h4
    rw [← h3,Qk (by omega) (by omega),sc1 (by omega)]
    exact ih
 have e0:Qn m cuts 0=0:=rfl
 rw [e0] at k2
 simpa [QI] using k2
end
end Go.Proofs.Ytephkbajoofeoaa.Am

