/-
  Written by program: the code of functions, what it asks, and that it comes to what the models say.
-/
import Derived.Test.YtephkbajoofeoaaYAD1
import Derived.Test.YtephkbajoofeoaaYAD3
import Derived.Test.YtephkbajoofeoaaYAPL
import Derived.Test.YtephkbajoofeoaaYAPE
import Derived.Test.YtephkbajoofeoaaYAPM
import Derived.Test.YtephkbajoofeoaaYAPT
namespace Go.Proofs.Ytephkbajoofeoaa.Am
open Go Go.RowKit Go.Proofs.Ytephkbajoofeoaa
set_option linter.all false
set_option maxHeartbeats 2000000
noncomputable section
variable (K:TRes→Prop)
def Yc (t:Bool):TRes:=zre (zcb t)
def QlF:TRow:=Qy 9 [(.c (.sl [(.int .u8)]))] fun x=>(none,Yc (Jw x.1))
def Qf2:List TRow:=[QcA,Qbl,Qcq,QaX,Qb8,Qbb,QcK,QbI,QbM]
def Qdg:TCode :=
 (zsq [(.reg [zmv 77 3,zmv 78 4,zmv 79 5,zmv 80 6,zca 81 54 [77,78,79,80],zmv 11 81]),(.reg [zmv 83 0,zca 84 55 [83],zmv 82 84,zex 85 82 0,zex 86 82 1,zex 87 82 2,zex 88 82 3,zex 89 82 4,zmv 12 85,zmv 13 86,zmv 14 87,zmv 15 88,zmv 16 89]),(.reg [zmv 90 8,zmv 91 4,zmv 92 5,zmv 93 6,zmv 94 7,zca 95 23 [90,91,92,93,94],zmv 96 95,.grp 96 true [zmv 97 8,zmv 98 4,zmv 99 5,zmv 100 6,zmv 101 7,zca 102 25 [97,98,99,100,101]] 103 102,zmv 104 103,.grp 104 true [zmv 105 8,zca 106 56 [105],zmv 107 10,zbi 108 .eql 106 107] 109 108,zmv 110 109,.grp 110 true [zmv 111 8,zca 112 57 [111],zmv 113 10,zbi 114 .eql 112 113] 115 114,zmv 116 115,.grp 116 true [zmv 117 11,zbi 118 .geq 117 (zki 0)] 119 118,zmv 120 119,.grp 120 true [zmv 121 11,zmv 122 10,zbi 123 .leq 121 122] 124 123,zmv 125 124,.grp 125 true [zmv 126 12,zmv 127 13,zmv 128 14,zmv 129 15,zmv 130 16,zca 131 25 [126,127,128,129,130],zmv 132 12,zmv 133 13,zmv 134 14,zmv 135 15,zmv 136 16,zca 137 23 [132,133,134,135,136],zop 138 (.eqb false 131 137)] 139 138,zmv 2 139]),.ret])
def QlJ:List (Nat × Md):=zdl [0,3,4,5,6,7,8,10]
def Qjs:TCode:=.wk QlJ Qdg
def QhA:TCode :=
 (zsq [(.reg [zmv 2 (zkb false)]),(zsq [(.reg [zmv 17 0,zca 18 26 [17]]),(.cond 18 (zsq [(.reg [zmv 2 (zkb true)]),.ret]) .skip)]),(.reg [zmv 20 0,zca 21 53 [20],zmv 19 21,zex 22 19 0,zex 23 19 1,zex 24 19 2,zex 25 19 3,zex 26 19 4,zmv 3 22,zmv 4 23,zmv 5 24,zmv 6 25,zmv 7 26]),(.reg [zmv 27 3,zmv 28 4,zmv 29 5,zmv 30 6,zmv 31 7,zca 32 18 [27,28,29,30,31],zmv 8 32]),(.reg [zmv 33 3,zbi 34 .geq 33 (zki 1),zmv 35 34,.grp 35 true [zmv 36 3,zbi 37 .leq 36 (zki 2)] 38 37,zmv 39 38,.grp 39 true [zmv 40 4,zbi 41 .geq 40 (zki 1)] 42 41,zmv 43 42,.grp 43 true [zmv 44 4,zbi 45 .leq 44 (zki 4)] 46 45,zmv 47 46,.grp 47 true [zmv 48 5,zbi 49 .geq 48 (zki 0)] 50 49,zmv 51 50,.grp 51 true [zmv 52 5,zmv 53 4,zbi 54 .lss 52 53] 55 54,zmv 56 55,.grp 56 true [zmv 57 6,zbi 58 .geq 57 (zki 1)] 59 58,zmv 60 59,.grp 60 true [zmv 61 6,zbi 62 .leq 61 (zki 5)] 63 62,zmv 9 63]),(zsq [(.reg [zmv 64 9,zno 65 64]),(.cond 65 (zsq [(.reg [zmv 66 8,zle 67 66,zbi 68 .eql 67 (zki 0),zmv 2 68]),.ret]) .skip)]),(.reg [zmv 69 6,zmv 10 69]),(zsq [(.reg [zmv 70 3,zbi 71 .eql 70 (zki 2)]),(.cond 71 (.reg [zmv 72 6,zmv 73 4,zmv 74 5,zbi 75 .sub 73 74,zop 76 (.mm false 72 75),zmv 10 76]) .skip)]),Qjs])
def Qc9:List (ARv × Md):=[(.t 2,.one .d)]
def Qj9:Qd:=TQ 0 0 Qc9 K
@[irreducible] def JN (code:List Int) (most:Int):Prop:=let z1:=QB code
 let z2:=Qs (z1.1) (z1.2.1) (z1.2.2.1) (z1.2.2.2.1) (z1.2.2.2.2)
 tawp Qf2 0 Qdg (Qj9 K) ⟨[(0,(zcs [(.int .u8)] code)),(3,(zci (z1.1))),(4,(zci (z1.2.1))),(5,(zci (z1.2.2.1))),(6,(zci (z1.2.2.2.1))),(7,(zcb (z1.2.2.2.2))),(8,(zcs Qb (List.take (z2.length) (List.drop 0 z2)))),(10,(zci most))],[],0⟩
theorem QkE (code:List Int) (most:Int) (h :
 let z2:=QB code
 let z1:=Qs (z2.1) (z2.2.1) (z2.2.2.1) (z2.2.2.2.1) (z2.2.2.2.2)
 let z4:=List.take (z1.length) (List.drop 0 z1)
 let z5:=QcF code
 let z3:=QI (z5.1) (z5.2.1) (z5.2.2.1) (z5.2.2.2.1) (z5.2.2.2.2)
 let z6:=QI z4 (z2.2.1) (z2.2.2.1) (z2.2.2.2.1) (z2.2.2.2.2)
 let z7:=Qo (z2.1) (z2.2.1) (z2.2.2.1) (z2.2.2.2.1)
 ((QU code)∧K (Yc ((((((z6&&z6)&&((QT z4)==most))&&((QT z4)==most))&&(decide (z7≥(0:Int))))&&(decide (z7≤most)))&&((z3==z3)))))):Hold (JN K code most) :=
 Hold.of (by kernel_rfl) h
theorem Qjn (code:List Int) (h :
 (zif (Jb code) (K (Yc true)) ((QU code)∧(zif (!((((((((decide (((QB code).1)≥(1:Int)))&&(decide (((QB code).1)≤(2:Int))))&&(decide (((QB code).2.1)≥(1:Int))))&&(decide (((QB code).2.1)≤(4:Int))))&&(decide (((QB code).2.2.1)≥(0:Int))))&&(decide (((QB code).2.2.1)<((QB code).2.1))))&&(decide (((QB code).2.2.2.1)≥(1:Int))))&&(decide (((QB code).2.2.2.1)≤(5:Int))))) (K (Yc ((((Qs ((QB code).1) ((QB code).2.1) ((QB code).2.2.1) ((QB code).2.2.2.1) ((QB code).2.2.2.2)).length:Nat):Int)==(0:Int)))) (zif (((QB code).1)==(2:Int)) (JN K code (if (w64 (((QB code).2.1)-((QB code).2.2.1)))<((QB code).2.2.2.1) then (w64 (((QB code).2.1)-((QB code).2.2.1))) else ((QB code).2.2.2.1))) (JN K code ((QB code).2.2.2.1))))))):Hold (tawp Qf2 (0+0) QhA (TQ 0 0 Qc9 K) (Qn [(.c (.sl [(.int .u8)]) code)])) :=
 Hold.of (by kernel_rfl) h
theorem l_FnPlans_h (code:List Int):TCon Try.prog 9 [(.c (.sl [(.int .u8)]) code)] (Yc (Jw code)):=by
 refine QN rfl fun hb=>tcg (n:=140) (sg:=QlF.sg) QC (TOk.cons Qjh (TOk.cons Qkt (TOk.cons Qhu (TOk.cons QeY (TOk.cons Qia (TOk.cons Qmd (TOk.cons Qkh (TOk.cons Ql3 (TOk.cons Qic TOk.nil))))))))) (by kernel_rfl) (by kernel_rfl) (Qjn _ code ?_)
 have hl_code:code.length≤9223372036854775807:=hb.1.1
 refine ⟨fun _=>R_eq rfl,fun hb=>?_⟩
 have hn:=Qj5 hb
 refine ⟨hn,?_⟩
 obtain ⟨⟨ds,n,s,m,redo⟩,hr⟩:∃ r,QB code=r:=⟨_,rfl⟩
 rw [hr]
 simp only
 refine ⟨fun h=>R_eq ?_,fun h=>?_⟩
 ·have h1:¬ (m_in ds 1 2&&Qh n s m)=true:=by
   intro h2
   simp only [Bool.and_eq_true,Yh,Yr] at h2
   simp at h
   omega
  rw [QaC h1];rfl
 ·simp at h
  have key:∀ most,most=(if ds=2 then (if n-s<m then n-s else m) else m)→JN (fun r'=>r'=Yc (Jw code)) code most:=by
   intro most hm
   refine (QkE (fun r'=>r'=Yc (Jw code)) code most ?_).h
   conv=>zeta
   rw [hr]
   refine ⟨hn,R_eq ?_⟩
   have hL:=QiR redo (ds:=ds) (n:=n) (s:=s) (M:=m) (by omega) (by omega) (by omega) (by omega) (by omega) (by omega) (by omega)
   simp only [Qbh,Bool.and_eq_true,decide_eq_true_eq] at hL
   obtain ⟨⟨⟨h1,h2⟩,h3⟩,h4⟩:=hL
   rw [← hm] at h2 h4
   simp [h1,h2,h3,h4,Jw]
  rw [Qk (x:=n-s) (by omega) (by omega)]
  refine ⟨fun h2=>key _ ?_,fun h2=>key _ ?_⟩
  ·rw [if_pos (c:=ds=2) (by simpa using h2)]
  ·rw [if_neg (c:=ds=2) (by simpa using h2)]
end
end Go.Proofs.Ytephkbajoofeoaa.Am

