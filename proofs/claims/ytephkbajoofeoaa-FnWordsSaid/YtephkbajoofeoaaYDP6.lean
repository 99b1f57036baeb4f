/- -/
import Derived.Test.YtephkbajoofeoaaYDP5
import Derived.Test.YtephkbajoofeoaaYDP1
namespace Go.Proofs.Ytephkbajoofeoaa.Am
open Go Go.RowKit Go.Proofs.Ytephkbajoofeoaa
set_option linter.all false
set_option maxHeartbeats 2000000
noncomputable section
variable (K:TRes→Prop)
def Qbd (t:Int × Int):TRes:=zre (.tp [(zci t.1),(zci t.2)])
def J5:TRow:=Qp 142 [(.a QB),(.c TI)] fun x=>(none,Qbd (Qs x.1 x.2.1))
def QlP:List TRow:=[QbL]
def QoN:TCode :=
 (zsq [(.reg [zop 2 (.box 103 0 6),zmv 4 (zki 0),zmv 5 (zki 0)]),(.reg [zfa 9 2 0,zLd 10 9 1,zfa 11 2 1,zld 12 11 1,zmv 13 1,zca 14 49 [10,12,13],zmv 8 14,zex 15 8 0,zex 16 8 1,zmv 6 15,zmv 7 16]),(zsq [(.reg [zmv 17 6,zmv 18 7,zbi 19 .eql 17 18]),(.cond 19 (zsq [(.reg [zmv 4 (zki 0),zmv 5 (zki 0)]),.ret]) .skip)]),(.draw [zfa 20 2 0,zfa 21 20 0,zld 22 21 1,zmv 23 6,zia 24 22 23 ctOp,zfa 25 24 1,zld 26 25 1,zfa 27 2 0,zfa 28 27 0,zld 29 28 1,zmv 30 7,zbi 31 .sub 30 (zki 1),zia 32 29 31 ctOp,zfa 33 32 2,zld 34 33 1,zmv 4 26,zmv 5 34] []),.ret])
def Qo0:List (ARv × Md):=[(.t 4,.one .d),(.t 5,.one .d)]
theorem Qoa (c:Qf) (s:Int) (h :
 (zif (((Qd c.1 c.2.1 s).1)==((Qd c.1 c.2.1 s).2)) (K (Qbd ((0:Int),(0:Int)))) ((((0:Int)≤(Qd c.1 c.2.1 s).1∧Int.toNat ((Qd c.1 c.2.1 s).1)<(c.1).length)∧((0:Int)≤w64 (((Qd c.1 c.2.1 s).2)-(1:Int))∧Int.toNat (w64 (((Qd c.1 c.2.1 s).2)-(1:Int)))<(c.1).length))∧K (Qbd ((gtd dOp c.1 (Int.toNat ((Qd c.1 c.2.1 s).1))).2.1,(gtd dOp c.1 (Int.toNat (w64 (((Qd c.1 c.2.1 s).2)-(1:Int))))).2.2.1))))):Hold (tawp QlP (0+0) QoN (TQ 0 0 Qo0 K) (Qm [(.a (Tup.cells QB c)),(.c TI s)])) :=
 Hold.of (by kernel_rfl) h
theorem QkJ (c:Qf) (s:Int):TCon Try.prog 142 [(.a (Tup.cells QB c)),(.c TI s)] (Qbd (Qs c s)):=by
 refine QP rfl fun hb=>tcg (n:=35) (sg:=J5.sg) Qt (TOk.cons Qh4 TOk.nil) (by kernel_rfl) (by kernel_rfl) (Qoa _ c s ?_)
 have hl_c_0:(c.1).length≤9223372036854775807:=hb.1.1.1
 have hl_c_1:(c.2.1).length≤9223372036854775807:=hb.1.2.1.1
 have hl_c_3:(c.2.2.2.1).length≤9223372036854775807:=hb.1.2.2.2.1.1
 have hl_c_4:(c.2.2.2.2.1).length≤9223372036854775807:=hb.1.2.2.2.2.1.1
 have hl_c_5:(c.2.2.2.2.2).length≤9223372036854775807:=hb.1.2.2.2.2.2.1.1
 have hr:=Ju c.1 c.2.1 s
 refine ⟨fun h=>R_eq (by simp at h;simp [Qs,h]),fun h=>?_⟩
 have hne:¬ (Qd c.1 c.2.1 s).1=(Qd c.1 c.2.1 s).2:=by simpa using h
 have e1:Int.toNat (w64 ((Qd c.1 c.2.1 s).2-1))=(Qd c.1 c.2.1 s).2.toNat-1∧(0:Int)≤w64 ((Qd c.1 c.2.1 s).2-1):=by
  rw [Qi (by omega) (by omega)];omega
 refine ⟨⟨⟨by omega,by omega⟩,e1.2,by rw [e1.1];omega⟩,R_eq ?_⟩
 rw [e1.1]
 simp [Qs,hne]
theorem Qee:Qq Try.prog J5:=Qv fun x _=>QkJ x.1 x.2.1
def Qc5 (t:Bool):TRes:=zre (zcb t)
def QbA:TRow:=Qp 143 [(.a QB),(.c TI)] fun x=>(none,Qc5 (QY x.1 x.2.1))
def Qom:List TRow:=[]
def Qnh:TCode :=
 (zsq [(.reg [zop 2 (.box 103 0 6),zmv 4 (zkb false)]),(.reg [zmv 5 1,zbi 6 .geq 5 (zki 0),zmv 7 6,.grp 7 true [zmv 8 1,zfa 9 2 3,zld 10 9 1,zle 11 10,zbi 12 .lss 8 11] 13 12,zmv 14 13,.grp 14 true [zfa 15 2 3,zld 16 15 1,zmv 17 1,zia 18 16 17 [.bool],zld 19 18 1] 20 19,zmv 4 20]),.ret])
def QmZ:List (ARv × Md):=[(.t 4,.one .d)]
theorem Qln (c:Qf) (s:Int) (h :
 ((((decide (s≥(0:Int)))&&(decide (s<((c.2.2.2.1).length:Int))))=true→((0:Int)≤s∧Int.toNat s<(c.2.2.2.1).length))∧K (Qc5 (((decide (s≥(0:Int)))&&(decide (s<((c.2.2.2.1).length:Int))))&&(gtd (false:Bool) c.2.2.2.1 (Int.toNat s)))))):Hold (tawp Qom (0+0) Qnh (TQ 0 0 QmZ K) (Qm [(.a (Tup.cells QB c)),(.c TI s)])) :=
 Hold.of (by kernel_rfl) h
theorem QjG (c:Qf) (s:Int):TCon Try.prog 143 [(.a (Tup.cells QB c)),(.c TI s)] (Qc5 (QY c s)):=by
 refine QP rfl fun hb=>tcg (n:=21) (sg:=QbA.sg) Qt TOk.nil (by kernel_rfl) (by kernel_rfl) (Qln _ c s ?_)
 have hl_c_0:(c.1).length≤9223372036854775807:=hb.1.1.1
 have hl_c_1:(c.2.1).length≤9223372036854775807:=hb.1.2.1.1
 have hl_c_3:(c.2.2.2.1).length≤9223372036854775807:=hb.1.2.2.2.1.1
 have hl_c_4:(c.2.2.2.2.1).length≤9223372036854775807:=hb.1.2.2.2.2.1.1
 have hl_c_5:(c.2.2.2.2.2).length≤9223372036854775807:=hb.1.2.2.2.2.2.1.1
 refine ⟨fun h=>by simp at h;omega,R_eq (by simp [QY])⟩
theorem QgE:Qq Try.prog QbA:=Qv fun x _=>QjG x.1 x.2.1
def YV (t:Int):TRes:=zre (zci t)
def QbB:TRow:=Qp 146 [(.a QB),(.c TI)] fun x=>(none,YV (QC x.1 x.2.1))
def QcW:List TRow:=[J9]
def QeR:TCode :=
 (zsq [(zsq [(.reg [zmv 19 8,zmv 20 6,zbi 21 .lss 19 20]),(.cond 21 .skip (.exit 0))]),(.block 1 (.reg [zmv 24 7,zfa 25 2 0,zfa 26 25 0,zld 27 26 1,zmv 28 8,zia 29 27 28 ctOp,zfa 30 29 1,zld 31 30 1,zbi 32 .add 24 31,zmv 7 32])),(.reg [zmv 22 8,zbi 23 .add 22 (zki 1),zmv 8 23])])
def QgH:List (Nat × Md):=[(2,.b (zds 6)),(5,.one .d),(6,.one .d),(7,.one .d),(8,.one .d)]
def Qgq:TCode :=
 (zsq [(zsq [(.reg [zmv 33 6,zmv 34 5,zbi 35 .gtr 33 34]),(.cond 35 (.reg [zmv 36 7,zfa 37 2 0,zfa 38 37 0,zld 39 38 1,zmv 40 6,zbi 41 .sub 40 (zki 1),zia 42 39 41 ctOp,zfa 43 42 2,zld 44 43 1,zbi 45 .add 36 44,zmv 7 45]) .skip)]),(.reg [zmv 46 7,zmv 4 46]),.ret])
def Ql9:TCode :=
 (zsq [(.reg [zop 2 (.box 103 0 6),zmv 4 (zki 0)]),(.reg [zfa 10 2 0,zLd 11 10 1,zfa 12 2 1,zld 13 12 1,zmv 14 1,zca 15 144 [11,13,14],zmv 9 15,zex 16 9 0,zex 17 9 1,zmv 5 16,zmv 6 17]),(.reg [zmv 7 (zki 0)]),(zsq [(.reg [zmv 18 5,zmv 8 18]),(.block 0 (.loop QgH QeR))]),Qgq])
def Qjq:List (ARv × Md):=[(.t 4,.one .d)]
def Qhe:Qg:=TQ 0 0 Qjq K
def Qos:Qg:=Qseq (tawp QcW 0 Qgq (Qhe K)) (Qhe K)
def Qn3:Qg:=Qblk 0 (Qos K)
def Qa1 (c:Qf) (s:Int) (n:Int) (i:Int):Prop:=Loop QcW 0 QgH QeR (Qn3 K) ⟨[(2,(.p 0 0 0)),(5,(zci ((Qd c.1 c.2.1 s).1))),(6,(zci ((Qd c.1 c.2.1 s).2))),(7,(zci n)),(8,(zci i))],[(0,(.box (Tup.cells QB c)))],1⟩
theorem QeK (c:Qf) (s:Int) (n:Int) (i:Int) (h :
 (zif (decide (i<((Qd c.1 c.2.1 s).2))) (((0:Int)≤i∧Int.toNat i<(c.1).length)∧(Qa1 K c s (w64 (n+((gtd dOp c.1 (Int.toNat i)).2.1))) (w64 (i+(1:Int))))) (zif (decide (((Qd c.1 c.2.1 s).2)>((Qd c.1 c.2.1 s).1))) (((0:Int)≤w64 (((Qd c.1 c.2.1 s).2)-(1:Int))∧Int.toNat (w64 (((Qd c.1 c.2.1 s).2)-(1:Int)))<(c.1).length)∧K (YV (w64 (n+((gtd dOp c.1 (Int.toNat (w64 (((Qd c.1 c.2.1 s).2)-(1:Int))))).2.2.1))))) (K (YV n))))):Qa1 K c s n i :=
 Loop.of (by kernel_rfl) h
theorem Qms (c:Qf) (s:Int) (h :
 (Qa1 K c s 0 ((Qd c.1 c.2.1 s).1))):Hold (tawp QcW (0+0) Ql9 (TQ 0 0 Qjq K) (Qm [(.a (Tup.cells QB c)),(.c TI s)])) :=
 Hold.of (by kernel_rfl) h
theorem Qk3 (c:Qf) (s:Int):TCon Try.prog 146 [(.a (Tup.cells QB c)),(.c TI s)] (YV (QC c s)):=by
 refine QP rfl fun hb=>tcg (n:=47) (sg:=QbB.sg) Qt (TOk.cons Qcv TOk.nil) (by kernel_rfl) (by kernel_rfl) (Qms _ c s ?_)
 have hl_c_0:(c.1).length≤9223372036854775807:=hb.1.1.1
 have hl_c_1:(c.2.1).length≤9223372036854775807:=hb.1.2.1.1
 have hl_c_3:(c.2.2.2.1).length≤9223372036854775807:=hb.1.2.2.2.1.1
 have hl_c_4:(c.2.2.2.2.1).length≤9223372036854775807:=hb.1.2.2.2.2.1.1
 have hl_c_5:(c.2.2.2.2.2).length≤9223372036854775807:=hb.1.2.2.2.2.2.1.1
 have hr:=Ju c.1 c.2.1 s
 generalize hz:(if (Qd c.1 c.2.1 s).1<(Qd c.1 c.2.1 s).2 then (gtd dOp c.1 ((Qd c.1 c.2.1 s).2.toNat-1)).2.2.1 else 0)=z
 have:=Qh9 c.1 _ _ hr.1 hr.2.1 hr.2.2.1 (fun r k=>∀ y:Int,w64 (y+(r.map fun o=>o.2.1).sum+z)=(QC c s)→Qa1 (fun r'=>r'=YV (QC c s)) c s (w64 y) k) ?_ ?_ 0 (by simp [QC,hz])
 ·rw [show (((Qd c.1 c.2.1 s).1.toNat:Nat):Int)=(Qd c.1 c.2.1 s).1 by omega] at this
  exact this
 ·intro y he
  refine QeK (fun r'=>r'=YV (QC c s)) c s _ _ ⟨fun h=>by simp at h;omega,fun _=>⟨fun h=>?_,fun h=>R_eq ?_⟩⟩
  ·have hlt:(Qd c.1 c.2.1 s).1<(Qd c.1 c.2.1 s).2:=by simpa using h
   have e1:Int.toNat (w64 ((Qd c.1 c.2.1 s).2-1))=(Qd c.1 c.2.1 s).2.toNat-1∧(0:Int)≤w64 ((Qd c.1 c.2.1 s).2-1):=by
    rw [Qi (by omega) (by omega)];omega
   refine ⟨⟨e1.2,by rw [e1.1];omega⟩,R_eq ?_⟩
   rw [if_pos hlt] at hz
   rw [e1.1,Qb7,← he,← hz]
   simp
  ·rw [if_neg (by simpa using h)] at hz
   rw [← he,← hz]
   simp
 ·intro k x r h1 h2 hlt hg ih y he
  refine QeK (fun r'=>r'=YV (QC c s)) c s _ _ ⟨fun _=>?_,fun h=>by simp at h;omega⟩
  rw [Int.toNat_natCast,hg,Qi (x:=(k:Int)+1) (by omega) (by omega),Qb7]
  refine ⟨⟨by omega,hlt⟩,ih _ ?_⟩
  rw [← he,List.map_cons,List.sum_cons]
  congr 1
  omega
theorem QeY:Qq Try.prog QbB:=Qv fun x _=>Qk3 x.1 x.2.1
def Jg (t:Int):TRes:=zre (zci t)
def JN:TRow:=Qp 74 [(.a QB),(.c TI)] fun x=>(none,Jg (QC x.1 x.2.1))
def QdC:List TRow:=[QbL,J5]
def Qhm:TCode :=
 (zsq [(zsq [(.reg [zmv 26 9,zmv 27 6,zbi 28 .lss 26 27]),(.cond 28 .skip (.exit 0))]),(.block 1 (.reg [zmv 31 8,zfa 32 2 0,zfa 33 32 0,zld 34 33 1,zmv 35 9,zia 36 34 35 ctOp,zfa 37 36 1,zld 38 37 1,zbi 39 .add 31 38,zmv 8 39])),(.reg [zmv 29 9,zbi 30 .add 29 (zki 1),zmv 9 30])])
def QiH:List (Nat × Md):=[(2,.b (zds 6)),(6,.one .d),(8,.one .d),(9,.one .d)]
def QeD:TCode :=
 (zsq [(.reg [zmv 40 8,zmv 4 40]),.ret])
def Qpk:TCode :=
 (zsq [(.reg [zop 2 (.box 103 0 6),zmv 4 (zki 0)]),(.reg [zfa 11 2 0,zLd 12 11 1,zfa 13 2 1,zld 14 13 1,zmv 15 1,zca 16 49 [12,14,15],zmv 10 16,zex 17 10 0,zex 18 10 1,zmv 5 17,zmv 6 18]),(.reg [zLd 20 2 6,zmv 21 1,zca 22 142 [20,21],zmv 19 22,zex 23 19 0,zex 24 19 1,zmv 7 23,zmv 8 24]),(zsq [(.reg [zmv 25 5,zmv 9 25]),(.block 0 (.loop QiH Qhm))]),QeD])
def QiD:List (ARv × Md):=[(.t 4,.one .d)]
def QhA:Qg:=TQ 0 0 QiD K
def QpR:Qg:=Qseq (tawp QdC 0 QeD (QhA K)) (QhA K)
def QpP:Qg:=Qblk 0 (QpR K)
def QbS (c:Qf) (s:Int) (n:Int) (i:Int):Prop:=Loop QdC 0 QiH Qhm (QpP K) ⟨[(2,(.p 0 0 0)),(6,(zci ((Qd c.1 c.2.1 s).2))),(8,(zci n)),(9,(zci i))],[(0,(.box (Tup.cells QB c)))],1⟩
theorem Qgc (c:Qf) (s:Int) (n:Int) (i:Int) (h :
 (zif (decide (i<((Qd c.1 c.2.1 s).2))) (((0:Int)≤i∧Int.toNat i<(c.1).length)∧(QbS K c s (w64 (n+((gtd dOp c.1 (Int.toNat i)).2.1))) (w64 (i+(1:Int))))) (K (Jg n)))):QbS K c s n i :=
 Loop.of (by kernel_rfl) h
theorem QkL (c:Qf) (s:Int) (h :
 (QbS K c s ((Qs c s).2) ((Qd c.1 c.2.1 s).1))):Hold (tawp QdC (0+0) Qpk (TQ 0 0 QiD K) (Qm [(.a (Tup.cells QB c)),(.c TI s)])) :=
 Hold.of (by kernel_rfl) h
theorem Ql3 (c:Qf) (s:Int):TCon Try.prog 74 [(.a (Tup.cells QB c)),(.c TI s)] (Jg (QC c s)):=by
 refine QP rfl fun hb=>tcg (n:=41) (sg:=JN.sg) Qt (TOk.cons Qh4 (TOk.cons Qee TOk.nil)) (by kernel_rfl) (by kernel_rfl) (QkL _ c s ?_)
 have hl_c_0:(c.1).length≤9223372036854775807:=hb.1.1.1
 have hl_c_1:(c.2.1).length≤9223372036854775807:=hb.1.2.1.1
 have hl_c_3:(c.2.2.2.1).length≤9223372036854775807:=hb.1.2.2.2.1.1
 have hl_c_4:(c.2.2.2.2.1).length≤9223372036854775807:=hb.1.2.2.2.2.1.1
 have hl_c_5:(c.2.2.2.2.2).length≤9223372036854775807:=hb.1.2.2.2.2.2.1.1
 have hr:=Ju c.1 c.2.1 s
 generalize hz:(if (Qd c.1 c.2.1 s).1<(Qd c.1 c.2.1 s).2 then (gtd dOp c.1 ((Qd c.1 c.2.1 s).2.toNat-1)).2.2.1 else 0)=z
 have ez:(Qs c s).2=z:=by
  rw [← hz]
  unfold Qs
  by_cases h:(Qd c.1 c.2.1 s).1=(Qd c.1 c.2.1 s).2
  ·simp [h]
  ·simp only [if_neg h];rw [if_pos (by omega)]
 have hzm:0≤z∧z≤6:=by
  rw [← hz]
  split
  ·rename_i h
   have hc:=(hr.2.2.2.1 h).1
   simp only [Qw,Qu,Bool.and_eq_true] at hc
   have:=Jl (QaZ hc.1.2 _ _ (YI (i:=(Qd c.1 c.2.1 s).2.toNat-1) (by omega) dOp)).1
   omega
  ·omega
 have:=Qh9 c.1 _ _ hr.1 hr.2.1 hr.2.2.1 (fun r k=>∀ y:Int,w64 (y+(r.map fun o=>o.2.1).sum)=(QC c s)→QbS (fun r'=>r'=Jg (QC c s)) c s (w64 y) k) ?_ ?_ z (by simp only [QC,hz];rw [Int.add_comm])
 ·rw [show (((Qd c.1 c.2.1 s).1.toNat:Nat):Int)=(Qd c.1 c.2.1 s).1 by omega,Qi (x:=z) (by omega) (by omega),← ez] at this
  exact this
 ·intro y he
  refine Qgc (fun r'=>r'=Jg (QC c s)) c s _ _ ⟨fun h=>by simp at h;omega,fun _=>R_eq ?_⟩
  simpa using he
 ·intro k x r h1 h2 hlt hg ih y he
  refine Qgc (fun r'=>r'=Jg (QC c s)) c s _ _ ⟨fun _=>?_,fun h=>by simp at h;omega⟩
  rw [Int.toNat_natCast,hg,Qi (x:=(k:Int)+1) (by omega) (by omega),Qb7]
  refine ⟨⟨by omega,hlt⟩,ih _ ?_⟩
  rw [← he,List.map_cons,List.sum_cons,Int.add_assoc]
theorem Qeq:Qq Try.prog JN:=Qv fun x _=>Ql3 x.1 x.2.1
def QaG (t:Int):TRes:=zre (zci t)
def Qb1:TRow:=Qp 75 [(.a QB),(.c TI)] fun x=>(none,QaG (Qy x.1 x.2.1))
def QkG:List TRow:=[QbA,J5,JN]
def QkI:TCode :=
 (zsq [(.reg [zop 2 (.box 103 0 6),zmv 4 (zki 0)]),(zsq [(.reg [zLd 7 2 6,zmv 8 1,zca 9 143 [7,8]]),(.cond 9 (zsq [(.reg [zLd 11 2 6,zmv 12 1,zca 13 142 [11,12],zmv 10 13,zex 14 10 0,zex 15 10 1,zmv 5 14,zmv 6 15]),(.reg [zmv 16 5,zmv 4 16]),.ret]) .skip)]),(.reg [zLd 17 2 6,zmv 18 1,zca 19 74 [17,18],zmv 4 19]),.ret])
def Qj7:List (ARv × Md):=[(.t 4,.one .d)]
theorem Qkt (c:Qf) (s:Int) (h :
 (zif (QY c s) (K (QaG ((Qs c s).1))) (K (QaG (QC c s))))):Hold (tawp QkG (0+0) QkI (TQ 0 0 Qj7 K) (Qm [(.a (Tup.cells QB c)),(.c TI s)])) :=
 Hold.of (by kernel_rfl) h
theorem QmT (c:Qf) (s:Int):TCon Try.prog 75 [(.a (Tup.cells QB c)),(.c TI s)] (QaG (Qy c s)):=by
 refine QP rfl fun hb=>tcg (n:=20) (sg:=Qb1.sg) Qt (TOk.cons QgE (TOk.cons Qee (TOk.cons Qeq TOk.nil))) (by kernel_rfl) (by kernel_rfl) (Qkt _ c s ?_)
 have hl_c_0:(c.1).length≤9223372036854775807:=hb.1.1.1
 have hl_c_1:(c.2.1).length≤9223372036854775807:=hb.1.2.1.1
 have hl_c_3:(c.2.2.2.1).length≤9223372036854775807:=hb.1.2.2.2.1.1
 have hl_c_4:(c.2.2.2.2.1).length≤9223372036854775807:=hb.1.2.2.2.2.1.1
 have hl_c_5:(c.2.2.2.2.2).length≤9223372036854775807:=hb.1.2.2.2.2.2.1.1
 refine ⟨fun h=>R_eq (by simp [Qy,h]),fun h=>R_eq (by simp [Qy,h])⟩
theorem Qe6:Qq Try.prog Qb1:=Qv fun x _=>QmT x.1 x.2.1
def Qa9 (t:Int):TRes:=zre (zci t)
def QcX:TRow:=Qp 145 [(.a QB),(.c TI)] fun x=>(none,Qa9 (Qy x.1 x.2.1))
def Qlt:List TRow:=[J9,QbB]
def Qkr:TCode :=
 (zsq [(.reg [zop 2 (.box 103 0 6),zmv 4 (zki 0)]),(.reg [zfa 8 2 0,zLd 9 8 1,zfa 10 2 1,zld 11 10 1,zmv 12 1,zca 13 144 [9,11,12],zmv 7 13,zex 14 7 0,zex 15 7 1,zmv 5 14,zmv 6 15]),(zsq [(.reg [zmv 16 6,zmv 17 5,zbi 18 .gtr 16 17,zmv 19 18,.grp 19 true [zmv 20 1,zfa 21 2 3,zld 22 21 1,zle 23 22,zbi 24 .lss 20 23] 25 24,zmv 26 25,.grp 26 true [zfa 27 2 3,zld 28 27 1,zmv 29 1,zia 30 28 29 [.bool],zld 31 30 1] 32 31]),(.cond 32 (zsq [(.reg [zfa 33 2 0,zfa 34 33 0,zld 35 34 1,zmv 36 5,zia 37 35 36 ctOp,zfa 38 37 1,zld 39 38 1,zmv 4 39]),.ret]) .skip)]),(.reg [zLd 40 2 6,zmv 41 1,zca 42 146 [40,41],zmv 4 42]),.ret])
def QlO:List (ARv × Md):=[(.t 4,.one .d)]
theorem QnL (c:Qf) (s:Int) (h :
 ((((decide (((Qd c.1 c.2.1 s).2)>((Qd c.1 c.2.1 s).1)))&&(decide (s<((c.2.2.2.1).length:Int))))=true→((0:Int)≤s∧Int.toNat s<(c.2.2.2.1).length))∧(zif (((decide (((Qd c.1 c.2.1 s).2)>((Qd c.1 c.2.1 s).1)))&&(decide (s<((c.2.2.2.1).length:Int))))&&(gtd (false:Bool) c.2.2.2.1 (Int.toNat s))) (((0:Int)≤(Qd c.1 c.2.1 s).1∧Int.toNat ((Qd c.1 c.2.1 s).1)<(c.1).length)∧K (Qa9 ((gtd dOp c.1 (Int.toNat ((Qd c.1 c.2.1 s).1))).2.1))) (K (Qa9 (QC c s)))))):Hold (tawp Qlt (0+0) Qkr (TQ 0 0 QlO K) (Qm [(.a (Tup.cells QB c)),(.c TI s)])) :=
 Hold.of (by kernel_rfl) h
theorem Qo1 (c:Qf) (s:Int):TCon Try.prog 145 [(.a (Tup.cells QB c)),(.c TI s)] (Qa9 (Qy c s)):=by
 refine QP rfl fun hb=>tcg (n:=43) (sg:=QcX.sg) Qt (TOk.cons Qcv (TOk.cons QeY TOk.nil)) (by kernel_rfl) (by kernel_rfl) (QnL _ c s ?_)
 have hl_c_0:(c.1).length≤9223372036854775807:=hb.1.1.1
 have hl_c_1:(c.2.1).length≤9223372036854775807:=hb.1.2.1.1
 have hl_c_3:(c.2.2.2.1).length≤9223372036854775807:=hb.1.2.2.2.1.1
 have hl_c_4:(c.2.2.2.2.1).length≤9223372036854775807:=hb.1.2.2.2.2.1.1
 have hl_c_5:(c.2.2.2.2.2).length≤9223372036854775807:=hb.1.2.2.2.2.2.1.1
 have hr:=Ju c.1 c.2.1 s
 refine ⟨fun h=>?_,fun h=>⟨⟨by omega,?_⟩,R_eq ?_⟩,fun h=>R_eq ?_⟩
 ·simp at h
  have:=hr.2.2.2.1 h.1
  omega
 ·simp at h;omega
 ·simp at h
  have h1:=hr.2.2.2.1 h.1.1
  have e1:QY c s=true:=by simp [QY,h];omega
  simp [Qy,e1,Qs,Int.ne_of_lt h.1.1]
 ·by_cases e1:QY c s=true
  ·simp only [QY,Bool.and_eq_true,decide_eq_true_eq] at e1
   have hn:¬ (Qd c.1 c.2.1 s).1<(Qd c.1 c.2.1 s).2:=by
    intro hlt
    simp [hlt,e1] at h
   have e2:(Qd c.1 c.2.1 s).1=(Qd c.1 c.2.1 s).2:=by omega
   simp [Qy,QY,e1,Qs,e2,QC,slice,Qok]
  ·simp [Qy,e1]
theorem Qp2:Qq Try.prog QcX:=Qv fun x _=>Qo1 x.1 x.2.1
def YK (t:Int):TRes:=zre (zci t)
def Qax:TRow:=Qp 76 [(.a QB),(.c TI),(.c TI)] fun x=>(none,YK (QA x.1 x.2.1 x.2.2.1))
def Qja:List TRow:=[J9,Z7,QcX,QbB]
def Qfp:TCode :=
 (zsq [(.draw [zmv 48 9,zLd 49 3 6,zmv 50 1,zca 51 145 [49,50],zbi 52 .mul 48 51,zfa 53 3 0,zfa 54 53 0,zld 55 54 1,zmv 56 7,zia 57 55 56 ctOp,zfa 58 57 1,zld 59 58 1,zfa 60 3 0,zfa 61 60 0,zld 62 61 1,zmv 63 8,zbi 64 .sub 63 (zki 1),zia 65 62 64 ctOp,zfa 66 65 2,zld 67 66 1,zop 68 (.mm true 59 67),zbi 69 .add 52 68,zmv 10 69] [(3,5),(3,6),(3,7),(3,9),(3,10),(3,11),(3,12),(3,13),(3,14),(3,17),(3,18),(3,19)]),(zsq [(.reg [zmv 70 1,zfa 71 3 3,zld 72 71 1,zle 73 72,zbi 74 .lss 70 73,zmv 75 74,.grp 75 true [zfa 76 3 3,zld 77 76 1,zmv 78 1,zia 79 77 78 [.bool],zld 80 79 1] 81 80]),(.cond 81 (.reg [zmv 82 10,zLd 83 3 6,zmv 84 1,zca 85 146 [83,84],zbi 86 .add 82 85,zmv 10 86]) .skip)]),(.reg [zmv 87 10,zmv 6 87]),.ret])
def QjH:List (Nat × Md):=[(1,.one .d),(3,.b (zds 6)),(7,.one .d),(8,.one .d),(9,.one .d)]
def QpF:TCode:=.wk QjH Qfp
def QjT:TCode :=
 (zsq [(.reg [zop 3 (.box 103 0 6),zmv 6 (zki 0)]),(.reg [zfa 12 3 0,zLd 13 12 1,zfa 14 3 1,zld 15 14 1,zmv 16 1,zca 17 144 [13,15,16],zmv 11 17,zex 18 11 0,zex 19 11 1,zmv 7 18,zmv 8 19]),(zsq [(.reg [zmv 20 8,zmv 21 7,zbi 22 .leq 20 21,zmv 23 22,.grp 23 false [zmv 24 2,zca 25 102 [24,(zki 1),(zki 5)],zno 26 25] 27 26,zmv 28 27,.grp 28 false [zfa 29 3 1,zld 30 29 1,zle 31 30,zbi 32 .add 31 (zki 1),zca 33 102 [32,(zki 1),(zki 4)],zno 34 33] 35 34]),(.cond 35 (zsq [(.reg [zmv 6 (zki 0)]),.ret]) .skip)]),(.reg [zmv 36 2,zmv 9 36]),(zsq [(.reg [zfa 37 3 2,zld 38 37 1,zbi 39 .eql 38 (zki 2)]),(.cond 39 (.reg [zmv 40 2,zfa 41 3 1,zld 42 41 1,zle 43 42,zbi 44 .add 43 (zki 1),zmv 45 1,zbi 46 .sub 44 45,zop 47 (.mm false 40 46),zmv 9 47]) .skip)]),QpF])
def Qgk:List (ARv × Md):=[(.t 6,.one .d)]
def Qou:Qg:=TQ 0 0 Qgk K
@[irreducible] def QaK (c:Qf) (s:Int) (k:Int):Prop:=tawp Qja 0 Qfp (Qou K) ⟨[(1,(zci s)),(3,(.p 0 0 0)),(7,(zci ((Qd c.1 c.2.1 s).1))),(8,(zci ((Qd c.1 c.2.1 s).2))),(9,(zci k))],[(0,(.box (Tup.cells QB c)))],1⟩
theorem QkE (c:Qf) (s:Int) (k:Int) (h :
 let z2:=Qd c.1 c.2.1 s
 let z3:=gtd dOp c.1 (Int.toNat (w64 ((z2.2)-(1:Int))))
 let z1:=w64 ((w64 (k*(Qy c s)))+(if ((gtd dOp c.1 (Int.toNat (z2.1))).2.1)<(z3.2.2.1) then (z3.2.2.1) else ((gtd dOp c.1 (Int.toNat (z2.1))).2.1)))
 ((((0:Int)≤z2.1∧Int.toNat (z2.1)<(c.1).length)∧((0:Int)≤w64 ((z2.2)-(1:Int))∧Int.toNat (w64 ((z2.2)-(1:Int)))<(c.1).length))∧(((decide (s<((c.2.2.2.1).length:Int)))=true→((0:Int)≤s∧Int.toNat s<(c.2.2.2.1).length))∧(zif ((decide (s<((c.2.2.2.1).length:Int)))&&(gtd (false:Bool) c.2.2.2.1 (Int.toNat s))) (K (YK (w64 (z1+(QC c s))))) (K (YK z1)))))):Hold (QaK K c s k) :=
 Hold.of (by kernel_rfl) h
theorem QmP (c:Qf) (s:Int) (micro:Int) (h :
 (zif (((decide (((Qd c.1 c.2.1 s).2)≤((Qd c.1 c.2.1 s).1)))||(!(m_in micro (1:Int) (5:Int))))||(!(m_in (w64 (((c.2.1).length:Int)+(1:Int))) (1:Int) (4:Int)))) (K (YK (0:Int))) (zif (c.2.2.1==(2:Int)) (QaK K c s (if (w64 ((w64 (((c.2.1).length:Int)+(1:Int)))-s))<micro then (w64 ((w64 (((c.2.1).length:Int)+(1:Int)))-s)) else micro)) (QaK K c s micro)))):Hold (tawp Qja (0+0) QjT (TQ 0 0 Qgk K) (Qm [(.a (Tup.cells QB c)),(.c TI s),(.c TI micro)])) :=
 Hold.of (by kernel_rfl) h
theorem Qoe (c:Qf) (s:Int) (micro:Int):TCon Try.prog 76 [(.a (Tup.cells QB c)),(.c TI s),(.c TI micro)] (YK (QA c s micro)):=by
 refine QP rfl fun hb=>tcg (n:=88) (sg:=Qax.sg) Qt (TOk.cons Qcv (TOk.cons YY (TOk.cons Qp2 (TOk.cons QeY TOk.nil)))) (by kernel_rfl) (by kernel_rfl) (QmP _ c s micro ?_)
 have hl_c_0:(c.1).length≤9223372036854775807:=hb.1.1.1
 have hl_c_1:(c.2.1).length≤9223372036854775807:=hb.1.2.1.1
 have hl_c_3:(c.2.2.2.1).length≤9223372036854775807:=hb.1.2.2.2.1.1
 have hl_c_4:(c.2.2.2.2.1).length≤9223372036854775807:=hb.1.2.2.2.2.1.1
 have hl_c_5:(c.2.2.2.2.2).length≤9223372036854775807:=hb.1.2.2.2.2.2.1.1
 have hr:=Ju c.1 c.2.1 s
 have hs:=QbN (c:=c)
 refine ⟨fun h=>R_eq ?_,fun h=>?_⟩
 ·unfold QA
  rw [if_neg]
  intro h2
  simp only [Bool.and_eq_true,QE,decide_eq_true_eq] at h2
  have hc:=hs.2.2.1.1 (by omega)
  have hst:=hs.2.2.2 hc
  have:=hr.2.2.2.2 ⟨hc,by omega,by omega⟩
  rw [← hst] at h
  have e:=Qi (x:=Qn c) (by omega) (by omega)
  rw [e] at h
  grind [m_in]
 ·have hlt:(Qd c.1 c.2.1 s).1<(Qd c.1 c.2.1 s).2:=by grind
  have hc:=hr.2.2.2.1 hlt
  have hst:=hs.2.2.2 hc.1
  have hz:Qs c s=((gtd dOp c.1 (Qd c.1 c.2.1 s).1.toNat).2.1,(gtd dOp c.1 ((Qd c.1 c.2.1 s).2.toNat-1)).2.2.1):=by
   unfold Qs;simp only [if_neg (Int.ne_of_lt hlt)]
  have e1:Int.toNat (w64 ((Qd c.1 c.2.1 s).2-1))=(Qd c.1 c.2.1 s).2.toNat-1∧(0:Int)≤w64 ((Qd c.1 c.2.1 s).2-1):=by
   rw [Qi (by omega) (by omega)];omega
  have e2:w64 ((c.2.1.length:Int)+1)=Qn c:=by rw [hst];exact Qi (by omega) (by omega)
  have e3:w64 (Qn c-s)=Qn c-s:=Qi (by omega) (by omega)
  have hred:QY c s=(decide (s<(c.2.2.2.1.length:Int))&&gtd false c.2.2.2.1 s.toNat):=by
   unfold QY;rw [decide_eq_true hc.2.1,Bool.true_and]
  rw [e2] at h ⊢
  have hin:(m_in s 0 (Qn c-1)&&m_in micro 1 5&&decide (Qn c≤4))=true:=by grind [m_in]
  have key:∀ k:Int,QA c s micro=w64 (w64 (w64 (k*Qy c s)+iMax (Qs c s).1 (Qs c s).2)+if QY c s then QC c s else 0)→QaK (fun r'=>r'=YK (QA c s micro)) c s k:=by
   intro k hk
   refine (QkE (fun r'=>r'=YK (QA c s micro)) c s _ ⟨⟨⟨by omega,by omega⟩,e1.2,by rw [e1.1];omega⟩,fun h=>⟨by omega,by simp at h;omega⟩,fun h=>R_eq ?_,fun h=>R_eq ?_⟩).h
   ·rw [hk,hred,h,e1.1,hz];rfl
   ·rw [hk,hred,h,e1.1,hz];simp [Qfk];rfl
  rw [e3]
  refine ⟨fun h1=>key _ ?_,fun h1=>key _ ?_⟩
  ·simp only [QA,hin,if_true]
   simp at h1
   rw [if_pos h1];rfl
  ·simp only [QA,hin,if_true]
   simp at h1
   rw [if_neg h1]
theorem Qfa:Qq Try.prog Qax:=Qv fun x _=>Qoe x.1 x.2.1 x.2.2.1
def YF (t:Int):TRes:=zre (zci t)
def Qdx:TRow:=Qp 73 [(.a QB),(.c TI),(.c TI)] fun x=>(none,YF (QA x.1 x.2.1 x.2.2.1))
def Qhi:List TRow:=[QdA,J5,Qb1,QbA,JN]
def Qhc:TCode :=
 (zsq [(.reg [zLd 43 3 6,zmv 44 1,zca 45 142 [43,44],zmv 42 45,zex 46 42 0,zex 47 42 1,zmv 9 46,zmv 10 47]),(.reg [zmv 48 8,zLd 49 3 6,zmv 50 1,zca 51 75 [49,50],zbi 52 .mul 48 51,zmv 53 9,zmv 54 10,zop 55 (.mm true 53 54),zbi 56 .add 52 55,zmv 11 56]),(zsq [(.reg [zLd 57 3 6,zmv 58 1,zca 59 143 [57,58]]),(.cond 59 (.reg [zmv 60 11,zLd 61 3 6,zmv 62 1,zca 63 74 [61,62],zbi 64 .add 60 63,zmv 11 64]) .skip)]),(.reg [zmv 65 11,zmv 6 65]),.ret])
def QkX:List (Nat × Md):=[(1,.one .d),(3,.b (zds 6)),(8,.one .d)]
def Qn0:TCode:=.wk QkX Qhc
def Qpj:TCode :=
 (zsq [(.reg [zop 3 (.box 103 0 6),zmv 6 (zki 0)]),(.reg [zLd 12 3 6,zca 13 141 [12],zmv 7 13]),(zsq [(.reg [zmv 14 1,zbi 15 .lss 14 (zki 0),zmv 16 15,.grp 16 false [zmv 17 1,zmv 18 7,zbi 19 .geq 17 18] 20 19,zmv 21 20,.grp 21 false [zmv 22 2,zbi 23 .lss 22 (zki 1)] 24 23,zmv 25 24,.grp 25 false [zmv 26 2,zbi 27 .gtr 26 (zki 5)] 28 27,zmv 29 28,.grp 29 false [zmv 30 7,zbi 31 .gtr 30 (zki 4)] 32 31]),(.cond 32 (zsq [(.reg [zmv 6 (zki 0)]),.ret]) .skip)]),(.reg [zmv 33 2,zmv 8 33]),(zsq [(.reg [zfa 34 3 2,zld 35 34 1,zbi 36 .eql 35 (zki 2)]),(.cond 36 (.reg [zmv 37 2,zmv 38 7,zmv 39 1,zbi 40 .sub 38 39,zop 41 (.mm false 37 40),zmv 8 41]) .skip)]),Qn0])
def Qix:List (ARv × Md):=[(.t 6,.one .d)]
def Qpv:Qg:=TQ 0 0 Qix K
@[irreducible] def QbR (c:Qf) (s:Int) (count:Int):Prop:=tawp Qhi 0 Qhc (Qpv K) ⟨[(1,(zci s)),(3,(.p 0 0 0)),(8,(zci count))],[(0,(.box (Tup.cells QB c)))],1⟩
theorem Qp7 (c:Qf) (s:Int) (count:Int) (h :
 (zif (QY c s) (K (YF (w64 ((w64 ((w64 (count*(Qy c s)))+(if ((Qs c s).1)<((Qs c s).2) then ((Qs c s).2) else ((Qs c s).1))))+(QC c s))))) (K (YF (w64 ((w64 (count*(Qy c s)))+(if ((Qs c s).1)<((Qs c s).2) then ((Qs c s).2) else ((Qs c s).1)))))))):Hold (QbR K c s count) :=
 Hold.of (by kernel_rfl) h
theorem Qor (c:Qf) (s:Int) (micro:Int) (h :
 (zif (((((decide (s<(0:Int)))||(decide (s≥(Qn c))))||(decide (micro<(1:Int))))||(decide (micro>(5:Int))))||(decide ((Qn c)>(4:Int)))) (K (YF (0:Int))) (zif (c.2.2.1==(2:Int)) (QbR K c s (if (w64 ((Qn c)-s))<micro then (w64 ((Qn c)-s)) else micro)) (QbR K c s micro)))):Hold (tawp Qhi (0+0) Qpj (TQ 0 0 Qix K) (Qm [(.a (Tup.cells QB c)),(.c TI s),(.c TI micro)])) :=
 Hold.of (by kernel_rfl) h
theorem Qpf (c:Qf) (s:Int) (micro:Int):TCon Try.prog 73 [(.a (Tup.cells QB c)),(.c TI s),(.c TI micro)] (YF (QA c s micro)):=by
 refine QP rfl fun hb=>tcg (n:=66) (sg:=Qdx.sg) Qt (TOk.cons QmX (TOk.cons Qee (TOk.cons Qe6 (TOk.cons QgE (TOk.cons Qeq TOk.nil))))) (by kernel_rfl) (by kernel_rfl) (Qor _ c s micro ?_)
 have hl_c_0:(c.1).length≤9223372036854775807:=hb.1.1.1
 have hl_c_1:(c.2.1).length≤9223372036854775807:=hb.1.2.1.1
 have hl_c_3:(c.2.2.2.1).length≤9223372036854775807:=hb.1.2.2.2.1.1
 have hl_c_4:(c.2.2.2.2.1).length≤9223372036854775807:=hb.1.2.2.2.2.1.1
 have hl_c_5:(c.2.2.2.2.2).length≤9223372036854775807:=hb.1.2.2.2.2.2.1.1
 have hs:=QbN (c:=c)
 refine ⟨fun h=>R_eq (by unfold QA;rw [if_neg];grind [m_in]),fun h=>?_⟩
 have hin:(m_in s 0 (Qn c-1)&&m_in micro 1 5&&decide (Qn c≤4))=true:=by grind [m_in]
 have hin2:=hin
 simp only [Bool.and_eq_true,QE,decide_eq_true_eq] at hin2
 have e3:w64 (Qn c-s)=Qn c-s:=Qi (by omega) (by omega)
 have key:∀ k:Int,QA c s micro=w64 (w64 (w64 (k*Qy c s)+iMax (Qs c s).1 (Qs c s).2)+if QY c s then QC c s else 0)→QbR (fun r'=>r'=YF (QA c s micro)) c s k:=by
  intro k hk
  refine (Qp7 (fun r'=>r'=YF (QA c s micro)) c s _ ⟨fun h=>R_eq ?_,fun h=>R_eq ?_⟩).h
  ·rw [hk,h];rfl
  ·rw [hk,h];simp [Qfk];rfl
 rw [e3]
 refine ⟨fun h1=>key _ ?_,fun h1=>key _ ?_⟩
 ·simp only [QA,hin,if_true]
  simp at h1
  rw [if_pos h1];rfl
 ·simp only [QA,hin,if_true]
  simp at h1
  rw [if_neg h1]
theorem Qnp:Qq Try.prog Qdx:=Qv fun x _=>Qpf x.1 x.2.1 x.2.2.1
end
end Go.Proofs.Ytephkbajoofeoaa.Am

