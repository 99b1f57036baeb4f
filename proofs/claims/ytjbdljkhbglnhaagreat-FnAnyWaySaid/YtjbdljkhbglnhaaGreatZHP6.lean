/- -/
import Derived.Test.YtjbdljkhbglnhaaGreatZHP5
import Derived.Test.YtjbdljkhbglnhaaGreatZHP1
namespace Go.Proofs.YtjbdljkhbglnhaaGreat.Am
open Go Go.RowKit Go.Proofs.YtjbdljkhbglnhaaGreat
set_option linter.all false
set_option maxHeartbeats 2000000
noncomputable section
variable (K:TRes→Prop)
def QiZ (t:Int × Int):TRes:=zre (.tp [(zci t.1),(zci t.2)])
def QfB:TRow:=Qg 127 [(.a QS),(.c TI)] fun x=>(none,QiZ (Zm x.1 x.2.1))
def QHV:List TRow:=[Qfg]
def QIo:TCode :=
 (zsq [(.reg [zop 2 (.box 30 0 6),zmv 4 (zki 0),zmv 5 (zki 0)]),(.reg [zfa 9 2 0,zLd 10 9 1,zfa 11 2 1,zld 12 11 1,zmv 13 1,zca 14 71 [10,12,13],zmv 8 14,zex 15 8 0,zex 16 8 1,zmv 6 15,zmv 7 16]),(zsq [(.reg [zmv 17 6,zmv 18 7,zbi 19 .eql 17 18]),(.cond 19 (zsq [(.reg [zmv 4 (zki 0),zmv 5 (zki 0)]),.ret]) .skip)]),(.draw [zfa 20 2 0,zfa 21 20 0,zld 22 21 1,zmv 23 6,zia 24 22 23 ctOp,zfa 25 24 1,zld 26 25 1,zfa 27 2 0,zfa 28 27 0,zld 29 28 1,zmv 30 7,zbi 31 .sub 30 (zki 1),zia 32 29 31 ctOp,zfa 33 32 2,zld 34 33 1,zmv 4 26,zmv 5 34] []),.ret])
def QG1:List (ARv × Md):=[(.t 4,.one .d),(.t 5,.one .d)]
theorem QKn (c:Ql) (s:Int) (h :
 (zif (((Qp c.1 c.2.1 s).1)==((Qp c.1 c.2.1 s).2)) (K (QiZ ((0:Int),(0:Int)))) ((((0:Int)≤(Qp c.1 c.2.1 s).1∧Int.toNat ((Qp c.1 c.2.1 s).1)<(c.1).length)∧((0:Int)≤w64 (((Qp c.1 c.2.1 s).2)-(1:Int))∧Int.toNat (w64 (((Qp c.1 c.2.1 s).2)-(1:Int)))<(c.1).length))∧K (QiZ ((gtd dOp c.1 (Int.toNat ((Qp c.1 c.2.1 s).1))).2.1,(gtd dOp c.1 (Int.toNat (w64 (((Qp c.1 c.2.1 s).2)-(1:Int))))).2.2.1))))):Hold (tawp QHV (0+0) QIo (TQ 0 0 QG1 K) (Qf [(.a (Tup.cells QS c)),(.c TI s)])) :=
 Hold.of (by kernel_rfl) h
theorem QGZ (c:Ql) (s:Int):TCon Tryz.prog 127 [(.a (Tup.cells QS c)),(.c TI s)] (QiZ (Zm c s)):=by
 refine Qq rfl fun hb=>tcg (n:=35) (sg:=QfB.sg) Qj (TOk.cons QmY TOk.nil) (by kernel_rfl) (by kernel_rfl) (QKn _ c s ?_)
 have hl_c_0:(c.1).length≤9223372036854775807:=hb.1.1.1
 have hl_c_1:(c.2.1).length≤9223372036854775807:=hb.1.2.1.1
 have hl_c_3:(c.2.2.2.1).length≤9223372036854775807:=hb.1.2.2.2.1.1
 have hl_c_4:(c.2.2.2.2.1).length≤9223372036854775807:=hb.1.2.2.2.2.1.1
 have hl_c_5:(c.2.2.2.2.2).length≤9223372036854775807:=hb.1.2.2.2.2.2.1.1
 have hr:=Qb1 c.1 c.2.1 s
 refine ⟨fun h=>R_eq (by simp at h;simp [Zm,h]),fun h=>?_⟩
 have hne:¬ (Qp c.1 c.2.1 s).1=(Qp c.1 c.2.1 s).2:=by simpa using h
 have e1:Int.toNat (w64 ((Qp c.1 c.2.1 s).2-1))=(Qp c.1 c.2.1 s).2.toNat-1∧(0:Int)≤w64 ((Qp c.1 c.2.1 s).2-1):=by
  rw [Qo (by omega) (by omega)];omega
 refine ⟨⟨⟨by omega,by omega⟩,e1.2,by rw [e1.1];omega⟩,R_eq ?_⟩
 rw [e1.1]
 simp [Zm,hne]
theorem Qjd:Qh Tryz.prog QfB:=Qk fun x _=>QGZ x.1 x.2.1
def Qk8 (t:Bool):TRes:=zre (zcb t)
def Qgc:TRow:=Qg 129 [(.a QS),(.c TI)] fun x=>(none,Qk8 (YD x.1 x.2.1))
def QAJ:List TRow:=[]
def QP1:TCode :=
 (zsq [(.reg [zop 2 (.box 30 0 6),zmv 4 (zkb false)]),(.reg [zmv 5 1,zbi 6 .geq 5 (zki 0),zmv 7 6,.grp 7 true [zmv 8 1,zfa 9 2 3,zld 10 9 1,zle 11 10,zbi 12 .lss 8 11] 13 12,zmv 14 13,.grp 14 true [zfa 15 2 3,zld 16 15 1,zmv 17 1,zia 18 16 17 [.bool],zld 19 18 1] 20 19,zmv 4 20]),.ret])
def QD8:List (ARv × Md):=[(.t 4,.one .d)]
theorem QRl (c:Ql) (s:Int) (h :
 ((((decide (s≥(0:Int)))&&(decide (s<((c.2.2.2.1).length:Int))))=true→((0:Int)≤s∧Int.toNat s<(c.2.2.2.1).length))∧K (Qk8 (((decide (s≥(0:Int)))&&(decide (s<((c.2.2.2.1).length:Int))))&&(gtd (false:Bool) c.2.2.2.1 (Int.toNat s)))))):Hold (tawp QAJ (0+0) QP1 (TQ 0 0 QD8 K) (Qf [(.a (Tup.cells QS c)),(.c TI s)])) :=
 Hold.of (by kernel_rfl) h
theorem QFX (c:Ql) (s:Int):TCon Tryz.prog 129 [(.a (Tup.cells QS c)),(.c TI s)] (Qk8 (YD c s)):=by
 refine Qq rfl fun hb=>tcg (n:=21) (sg:=Qgc.sg) Qj TOk.nil (by kernel_rfl) (by kernel_rfl) (QRl _ c s ?_)
 have hl_c_0:(c.1).length≤9223372036854775807:=hb.1.1.1
 have hl_c_1:(c.2.1).length≤9223372036854775807:=hb.1.2.1.1
 have hl_c_3:(c.2.2.2.1).length≤9223372036854775807:=hb.1.2.2.2.1.1
 have hl_c_4:(c.2.2.2.2.1).length≤9223372036854775807:=hb.1.2.2.2.2.1.1
 have hl_c_5:(c.2.2.2.2.2).length≤9223372036854775807:=hb.1.2.2.2.2.2.1.1
 refine ⟨fun h=>by simp at h;omega,R_eq (by simp [YD])⟩
theorem Qrm:Qh Tryz.prog Qgc:=Qk fun x _=>QFX x.1 x.2.1
def Qc1 (t:Int):TRes:=zre (zci t)
def QfL:TRow:=Qg 156 [(.a QS),(.c TI)] fun x=>(none,Qc1 (Zz x.1 x.2.1))
def Qm8:List TRow:=[Qei]
def QsK:TCode :=
 (zsq [(zsq [(.reg [zmv 19 8,zmv 20 6,zbi 21 .lss 19 20]),(.cond 21 .skip (.exit 0))]),(.block 1 (.reg [zmv 24 7,zfa 25 2 0,zfa 26 25 0,zld 27 26 1,zmv 28 8,zia 29 27 28 ctOp,zfa 30 29 1,zld 31 30 1,zbi 32 .add 24 31,zmv 7 32])),(.reg [zmv 22 8,zbi 23 .add 22 (zki 1),zmv 8 23])])
def Qv1:List (Nat × Md):=[(2,.b (zds 6)),(5,.one .d),(6,.one .d),(7,.one .d),(8,.one .d)]
def Qsb:TCode :=
 (zsq [(zsq [(.reg [zmv 33 6,zmv 34 5,zbi 35 .gtr 33 34]),(.cond 35 (.reg [zmv 36 7,zfa 37 2 0,zfa 38 37 0,zld 39 38 1,zmv 40 6,zbi 41 .sub 40 (zki 1),zia 42 39 41 ctOp,zfa 43 42 2,zld 44 43 1,zbi 45 .add 36 44,zmv 7 45]) .skip)]),(.reg [zmv 46 7,zmv 4 46]),.ret])
def QFl:TCode :=
 (zsq [(.reg [zop 2 (.box 30 0 6),zmv 4 (zki 0)]),(.reg [zfa 10 2 0,zLd 11 10 1,zfa 12 2 1,zld 13 12 1,zmv 14 1,zca 15 93 [11,13,14],zmv 9 15,zex 16 9 0,zex 17 9 1,zmv 5 16,zmv 6 17]),(.reg [zmv 7 (zki 0)]),(zsq [(.reg [zmv 18 5,zmv 8 18]),(.block 0 (.loop Qv1 QsK))]),Qsb])
def Qp2:List (ARv × Md):=[(.t 4,.one .d)]
def QqP:Qb:=TQ 0 0 Qp2 K
def QPK:Qb:=Qseq (tawp Qm8 0 Qsb (QqP K)) (QqP K)
def QLf:Qb:=Qblk 0 (QPK K)
def QgT (c:Ql) (s:Int) (n:Int) (i:Int):Prop:=Loop Qm8 0 Qv1 QsK (QLf K) ⟨[(2,(.p 0 0 0)),(5,(zci ((Qp c.1 c.2.1 s).1))),(6,(zci ((Qp c.1 c.2.1 s).2))),(7,(zci n)),(8,(zci i))],[(0,(.box (Tup.cells QS c)))],1⟩
theorem Qvr (c:Ql) (s:Int) (n:Int) (i:Int) (h :
 (zif (decide (i<((Qp c.1 c.2.1 s).2))) (((0:Int)≤i∧Int.toNat i<(c.1).length)∧(QgT K c s (w64 (n+((gtd dOp c.1 (Int.toNat i)).2.1))) (w64 (i+(1:Int))))) (zif (decide (((Qp c.1 c.2.1 s).2)>((Qp c.1 c.2.1 s).1))) (((0:Int)≤w64 (((Qp c.1 c.2.1 s).2)-(1:Int))∧Int.toNat (w64 (((Qp c.1 c.2.1 s).2)-(1:Int)))<(c.1).length)∧K (Qc1 (w64 (n+((gtd dOp c.1 (Int.toNat (w64 (((Qp c.1 c.2.1 s).2)-(1:Int))))).2.2.1))))) (K (Qc1 n))))):QgT K c s n i :=
 Loop.of (by kernel_rfl) h
theorem QAF (c:Ql) (s:Int) (h :
 (QgT K c s 0 ((Qp c.1 c.2.1 s).1))):Hold (tawp Qm8 (0+0) QFl (TQ 0 0 Qp2 K) (Qf [(.a (Tup.cells QS c)),(.c TI s)])) :=
 Hold.of (by kernel_rfl) h
theorem QG5 (c:Ql) (s:Int):TCon Tryz.prog 156 [(.a (Tup.cells QS c)),(.c TI s)] (Qc1 (Zz c s)):=by
 refine Qq rfl fun hb=>tcg (n:=47) (sg:=QfL.sg) Qj (TOk.cons QiD TOk.nil) (by kernel_rfl) (by kernel_rfl) (QAF _ c s ?_)
 have hl_c_0:(c.1).length≤9223372036854775807:=hb.1.1.1
 have hl_c_1:(c.2.1).length≤9223372036854775807:=hb.1.2.1.1
 have hl_c_3:(c.2.2.2.1).length≤9223372036854775807:=hb.1.2.2.2.1.1
 have hl_c_4:(c.2.2.2.2.1).length≤9223372036854775807:=hb.1.2.2.2.2.1.1
 have hl_c_5:(c.2.2.2.2.2).length≤9223372036854775807:=hb.1.2.2.2.2.2.1.1
 have hr:=Qb1 c.1 c.2.1 s
 generalize hz:(if (Qp c.1 c.2.1 s).1<(Qp c.1 c.2.1 s).2 then (gtd dOp c.1 ((Qp c.1 c.2.1 s).2.toNat-1)).2.2.1 else 0)=z
 have:=QhM c.1 _ _ hr.1 hr.2.1 hr.2.2.1 (fun r k=>∀ y:Int,w64 (y+(r.map fun o=>o.2.1).sum+z)=(Zz c s)→QgT (fun r'=>r'=Qc1 (Zz c s)) c s (w64 y) k) ?_ ?_ 0 (by simp [Zz,hz])
 ·rw [show (((Qp c.1 c.2.1 s).1.toNat:Nat):Int)=(Qp c.1 c.2.1 s).1 by omega] at this
  exact this
 ·intro y he
  refine Qvr (fun r'=>r'=Qc1 (Zz c s)) c s _ _ ⟨fun h=>by simp at h;omega,fun _=>⟨fun h=>?_,fun h=>R_eq ?_⟩⟩
  ·have hlt:(Qp c.1 c.2.1 s).1<(Qp c.1 c.2.1 s).2:=by simpa using h
   have e1:Int.toNat (w64 ((Qp c.1 c.2.1 s).2-1))=(Qp c.1 c.2.1 s).2.toNat-1∧(0:Int)≤w64 ((Qp c.1 c.2.1 s).2-1):=by
    rw [Qo (by omega) (by omega)];omega
   refine ⟨⟨e1.2,by rw [e1.1];omega⟩,R_eq ?_⟩
   rw [if_pos hlt] at hz
   rw [e1.1,Qdh,← he,← hz]
   simp
  ·rw [if_neg (by simpa using h)] at hz
   rw [← he,← hz]
   simp
 ·intro k x r h1 h2 hlt hg ih y he
  refine Qvr (fun r'=>r'=Qc1 (Zz c s)) c s _ _ ⟨fun _=>?_,fun h=>by simp at h;omega⟩
  rw [Int.toNat_natCast,hg,Qo (x:=(k:Int)+1) (by omega) (by omega),Qdh]
  refine ⟨⟨by omega,hlt⟩,ih _ ?_⟩
  rw [← he,List.map_cons,List.sum_cons]
  congr 1
  omega
theorem Qqk:Qh Tryz.prog QfL:=Qk fun x _=>QG5 x.1 x.2.1
def QdN (t:Int):TRes:=zre (zci t)
def QgF:TRow:=Qg 130 [(.a QS),(.c TI)] fun x=>(none,QdN (Zz x.1 x.2.1))
def Qlj:List TRow:=[Qfg,QfB]
def Qtz:TCode :=
 (zsq [(zsq [(.reg [zmv 26 9,zmv 27 6,zbi 28 .lss 26 27]),(.cond 28 .skip (.exit 0))]),(.block 1 (.reg [zmv 31 8,zfa 32 2 0,zfa 33 32 0,zld 34 33 1,zmv 35 9,zia 36 34 35 ctOp,zfa 37 36 1,zld 38 37 1,zbi 39 .add 31 38,zmv 8 39])),(.reg [zmv 29 9,zbi 30 .add 29 (zki 1),zmv 9 30])])
def QqU:List (Nat × Md):=[(2,.b (zds 6)),(6,.one .d),(8,.one .d),(9,.one .d)]
def QxG:TCode :=
 (zsq [(.reg [zmv 40 8,zmv 4 40]),.ret])
def QGn:TCode :=
 (zsq [(.reg [zop 2 (.box 30 0 6),zmv 4 (zki 0)]),(.reg [zfa 11 2 0,zLd 12 11 1,zfa 13 2 1,zld 14 13 1,zmv 15 1,zca 16 71 [12,14,15],zmv 10 16,zex 17 10 0,zex 18 10 1,zmv 5 17,zmv 6 18]),(.reg [zLd 20 2 6,zmv 21 1,zca 22 127 [20,21],zmv 19 22,zex 23 19 0,zex 24 19 1,zmv 7 23,zmv 8 24]),(zsq [(.reg [zmv 25 5,zmv 9 25]),(.block 0 (.loop QqU Qtz))]),QxG])
def Qpe:List (ARv × Md):=[(.t 4,.one .d)]
def Qu5:Qb:=TQ 0 0 Qpe K
def QPb:Qb:=Qseq (tawp Qlj 0 QxG (Qu5 K)) (Qu5 K)
def QNK:Qb:=Qblk 0 (QPb K)
def QiL (c:Ql) (s:Int) (n:Int) (i:Int):Prop:=Loop Qlj 0 QqU Qtz (QNK K) ⟨[(2,(.p 0 0 0)),(6,(zci ((Qp c.1 c.2.1 s).2))),(8,(zci n)),(9,(zci i))],[(0,(.box (Tup.cells QS c)))],1⟩
theorem Qxy (c:Ql) (s:Int) (n:Int) (i:Int) (h :
 (zif (decide (i<((Qp c.1 c.2.1 s).2))) (((0:Int)≤i∧Int.toNat i<(c.1).length)∧(QiL K c s (w64 (n+((gtd dOp c.1 (Int.toNat i)).2.1))) (w64 (i+(1:Int))))) (K (QdN n)))):QiL K c s n i :=
 Loop.of (by kernel_rfl) h
theorem QQv (c:Ql) (s:Int) (h :
 (QiL K c s ((Zm c s).2) ((Qp c.1 c.2.1 s).1))):Hold (tawp Qlj (0+0) QGn (TQ 0 0 Qpe K) (Qf [(.a (Tup.cells QS c)),(.c TI s)])) :=
 Hold.of (by kernel_rfl) h
theorem QGq (c:Ql) (s:Int):TCon Tryz.prog 130 [(.a (Tup.cells QS c)),(.c TI s)] (QdN (Zz c s)):=by
 refine Qq rfl fun hb=>tcg (n:=41) (sg:=QgF.sg) Qj (TOk.cons QmY (TOk.cons Qjd TOk.nil)) (by kernel_rfl) (by kernel_rfl) (QQv _ c s ?_)
 have hl_c_0:(c.1).length≤9223372036854775807:=hb.1.1.1
 have hl_c_1:(c.2.1).length≤9223372036854775807:=hb.1.2.1.1
 have hl_c_3:(c.2.2.2.1).length≤9223372036854775807:=hb.1.2.2.2.1.1
 have hl_c_4:(c.2.2.2.2.1).length≤9223372036854775807:=hb.1.2.2.2.2.1.1
 have hl_c_5:(c.2.2.2.2.2).length≤9223372036854775807:=hb.1.2.2.2.2.2.1.1
 have hr:=Qb1 c.1 c.2.1 s
 generalize hz:(if (Qp c.1 c.2.1 s).1<(Qp c.1 c.2.1 s).2 then (gtd dOp c.1 ((Qp c.1 c.2.1 s).2.toNat-1)).2.2.1 else 0)=z
 have ez:(Zm c s).2=z:=by
  rw [← hz]
  unfold Zm
  by_cases h:(Qp c.1 c.2.1 s).1=(Qp c.1 c.2.1 s).2
  ·simp [h]
  ·simp only [if_neg h];rw [if_pos (by omega)]
 have hzm:0≤z∧z≤6:=by
  rw [← hz]
  split
  ·rename_i h
   have hc:=(hr.2.2.2.1 h).1
   simp only [Q0,Qw,Bool.and_eq_true] at hc
   have:=Qad (QiG hc.1.2 _ _ (Jp (i:=(Qp c.1 c.2.1 s).2.toNat-1) (by omega) dOp)).1
   omega
  ·omega
 have:=QhM c.1 _ _ hr.1 hr.2.1 hr.2.2.1 (fun r k=>∀ y:Int,w64 (y+(r.map fun o=>o.2.1).sum)=(Zz c s)→QiL (fun r'=>r'=QdN (Zz c s)) c s (w64 y) k) ?_ ?_ z (by simp only [Zz,hz];rw [Int.add_comm])
 ·rw [show (((Qp c.1 c.2.1 s).1.toNat:Nat):Int)=(Qp c.1 c.2.1 s).1 by omega,Qo (x:=z) (by omega) (by omega),← ez] at this
  exact this
 ·intro y he
  refine Qxy (fun r'=>r'=QdN (Zz c s)) c s _ _ ⟨fun h=>by simp at h;omega,fun _=>R_eq ?_⟩
  simpa using he
 ·intro k x r h1 h2 hlt hg ih y he
  refine Qxy (fun r'=>r'=QdN (Zz c s)) c s _ _ ⟨fun _=>?_,fun h=>by simp at h;omega⟩
  rw [Int.toNat_natCast,hg,Qo (x:=(k:Int)+1) (by omega) (by omega),Qdh]
  refine ⟨⟨by omega,hlt⟩,ih _ ?_⟩
  rw [← he,List.map_cons,List.sum_cons,Int.add_assoc]
theorem Qt8:Qh Tryz.prog QgF:=Qk fun x _=>QGq x.1 x.2.1
def QiY (t:Int):TRes:=zre (zci t)
def Qno:TRow:=Qg 128 [(.a QS),(.c TI)] fun x=>(none,QiY (ZX x.1 x.2.1))
def QIF:List TRow:=[Qgc,QfB,QgF]
def QDo:TCode :=
 (zsq [(.reg [zop 2 (.box 30 0 6),zmv 4 (zki 0)]),(zsq [(.reg [zLd 7 2 6,zmv 8 1,zca 9 129 [7,8]]),(.cond 9 (zsq [(.reg [zLd 11 2 6,zmv 12 1,zca 13 127 [11,12],zmv 10 13,zex 14 10 0,zex 15 10 1,zmv 5 14,zmv 6 15]),(.reg [zmv 16 5,zmv 4 16]),.ret]) .skip)]),(.reg [zLd 17 2 6,zmv 18 1,zca 19 130 [17,18],zmv 4 19]),.ret])
def QJG:List (ARv × Md):=[(.t 4,.one .d)]
theorem QBO (c:Ql) (s:Int) (h :
 (zif (YD c s) (K (QiY ((Zm c s).1))) (K (QiY (Zz c s))))):Hold (tawp QIF (0+0) QDo (TQ 0 0 QJG K) (Qf [(.a (Tup.cells QS c)),(.c TI s)])) :=
 Hold.of (by kernel_rfl) h
theorem QH9 (c:Ql) (s:Int):TCon Tryz.prog 128 [(.a (Tup.cells QS c)),(.c TI s)] (QiY (ZX c s)):=by
 refine Qq rfl fun hb=>tcg (n:=20) (sg:=Qno.sg) Qj (TOk.cons Qrm (TOk.cons Qjd (TOk.cons Qt8 TOk.nil))) (by kernel_rfl) (by kernel_rfl) (QBO _ c s ?_)
 have hl_c_0:(c.1).length≤9223372036854775807:=hb.1.1.1
 have hl_c_1:(c.2.1).length≤9223372036854775807:=hb.1.2.1.1
 have hl_c_3:(c.2.2.2.1).length≤9223372036854775807:=hb.1.2.2.2.1.1
 have hl_c_4:(c.2.2.2.2.1).length≤9223372036854775807:=hb.1.2.2.2.2.1.1
 have hl_c_5:(c.2.2.2.2.2).length≤9223372036854775807:=hb.1.2.2.2.2.2.1.1
 refine ⟨fun h=>R_eq (by simp [ZX,h]),fun h=>R_eq (by simp [ZX,h])⟩
theorem QHr:Qh Tryz.prog Qno:=Qk fun x _=>QH9 x.1 x.2.1
def QhA (t:Int):TRes:=zre (zci t)
def QnA:TRow:=Qg 155 [(.a QS),(.c TI)] fun x=>(none,QhA (ZX x.1 x.2.1))
def QJ7:List TRow:=[Qei,QfL]
def QIU:TCode :=
 (zsq [(.reg [zop 2 (.box 30 0 6),zmv 4 (zki 0)]),(.reg [zfa 8 2 0,zLd 9 8 1,zfa 10 2 1,zld 11 10 1,zmv 12 1,zca 13 93 [9,11,12],zmv 7 13,zex 14 7 0,zex 15 7 1,zmv 5 14,zmv 6 15]),(zsq [(.reg [zmv 16 6,zmv 17 5,zbi 18 .gtr 16 17,zmv 19 18,.grp 19 true [zmv 20 1,zfa 21 2 3,zld 22 21 1,zle 23 22,zbi 24 .lss 20 23] 25 24,zmv 26 25,.grp 26 true [zfa 27 2 3,zld 28 27 1,zmv 29 1,zia 30 28 29 [.bool],zld 31 30 1] 32 31]),(.cond 32 (zsq [(.reg [zfa 33 2 0,zfa 34 33 0,zld 35 34 1,zmv 36 5,zia 37 35 36 ctOp,zfa 38 37 1,zld 39 38 1,zmv 4 39]),.ret]) .skip)]),(.reg [zLd 40 2 6,zmv 41 1,zca 42 156 [40,41],zmv 4 42]),.ret])
def QRp:List (ARv × Md):=[(.t 4,.one .d)]
theorem QEo (c:Ql) (s:Int) (h :
 ((((decide (((Qp c.1 c.2.1 s).2)>((Qp c.1 c.2.1 s).1)))&&(decide (s<((c.2.2.2.1).length:Int))))=true→((0:Int)≤s∧Int.toNat s<(c.2.2.2.1).length))∧(zif (((decide (((Qp c.1 c.2.1 s).2)>((Qp c.1 c.2.1 s).1)))&&(decide (s<((c.2.2.2.1).length:Int))))&&(gtd (false:Bool) c.2.2.2.1 (Int.toNat s))) (((0:Int)≤(Qp c.1 c.2.1 s).1∧Int.toNat ((Qp c.1 c.2.1 s).1)<(c.1).length)∧K (QhA ((gtd dOp c.1 (Int.toNat ((Qp c.1 c.2.1 s).1))).2.1))) (K (QhA (Zz c s)))))):Hold (tawp QJ7 (0+0) QIU (TQ 0 0 QRp K) (Qf [(.a (Tup.cells QS c)),(.c TI s)])) :=
 Hold.of (by kernel_rfl) h
theorem QN8 (c:Ql) (s:Int):TCon Tryz.prog 155 [(.a (Tup.cells QS c)),(.c TI s)] (QhA (ZX c s)):=by
 refine Qq rfl fun hb=>tcg (n:=43) (sg:=QnA.sg) Qj (TOk.cons QiD (TOk.cons Qqk TOk.nil)) (by kernel_rfl) (by kernel_rfl) (QEo _ c s ?_)
 have hl_c_0:(c.1).length≤9223372036854775807:=hb.1.1.1
 have hl_c_1:(c.2.1).length≤9223372036854775807:=hb.1.2.1.1
 have hl_c_3:(c.2.2.2.1).length≤9223372036854775807:=hb.1.2.2.2.1.1
 have hl_c_4:(c.2.2.2.2.1).length≤9223372036854775807:=hb.1.2.2.2.2.1.1
 have hl_c_5:(c.2.2.2.2.2).length≤9223372036854775807:=hb.1.2.2.2.2.2.1.1
 have hr:=Qb1 c.1 c.2.1 s
 refine ⟨fun h=>?_,fun h=>⟨⟨by omega,?_⟩,R_eq ?_⟩,fun h=>R_eq ?_⟩
 ·simp at h
  have:=hr.2.2.2.1 h.1
  omega
 ·simp at h;omega
 ·simp at h
  have h1:=hr.2.2.2.1 h.1.1
  have e1:YD c s=true:=by simp [YD,h];omega
  simp [ZX,e1,Zm,Int.ne_of_lt h.1.1]
 ·by_cases e1:YD c s=true
  ·simp only [YD,Bool.and_eq_true,decide_eq_true_eq] at e1
   have hn:¬ (Qp c.1 c.2.1 s).1<(Qp c.1 c.2.1 s).2:=by
    intro hlt
    simp [hlt,e1] at h
   have e2:(Qp c.1 c.2.1 s).1=(Qp c.1 c.2.1 s).2:=by omega
   simp [ZX,YD,e1,Zm,e2,Zz,slice,QCm]
  ·simp [ZX,e1]
theorem QJF:Qh Tryz.prog QnA:=Qk fun x _=>QN8 x.1 x.2.1
def QcE (t:Int):TRes:=zre (zci t)
def Qgo:TRow:=Qg 78 [(.a QS),(.c TI),(.c TI)] fun x=>(none,QcE (Zy x.1 x.2.1 x.2.2.1))
def Qyb:List TRow:=[Qei,Jz,QnA,QfL]
def Qzc:TCode :=
 (zsq [(.draw [zmv 48 9,zLd 49 3 6,zmv 50 1,zca 51 155 [49,50],zbi 52 .mul 48 51,zfa 53 3 0,zfa 54 53 0,zld 55 54 1,zmv 56 7,zia 57 55 56 ctOp,zfa 58 57 1,zld 59 58 1,zfa 60 3 0,zfa 61 60 0,zld 62 61 1,zmv 63 8,zbi 64 .sub 63 (zki 1),zia 65 62 64 ctOp,zfa 66 65 2,zld 67 66 1,zop 68 (.mm true 59 67),zbi 69 .add 52 68,zmv 10 69] [(3,5),(3,6),(3,7),(3,9),(3,10),(3,11),(3,12),(3,13),(3,14),(3,17),(3,18),(3,19)]),(zsq [(.reg [zmv 70 1,zfa 71 3 3,zld 72 71 1,zle 73 72,zbi 74 .lss 70 73,zmv 75 74,.grp 75 true [zfa 76 3 3,zld 77 76 1,zmv 78 1,zia 79 77 78 [.bool],zld 80 79 1] 81 80]),(.cond 81 (.reg [zmv 82 10,zLd 83 3 6,zmv 84 1,zca 85 156 [83,84],zbi 86 .add 82 85,zmv 10 86]) .skip)]),(.reg [zmv 87 10,zmv 6 87]),.ret])
def QLW:List (Nat × Md):=[(1,.one .d),(3,.b (zds 6)),(7,.one .d),(8,.one .d),(9,.one .d)]
def QMM:TCode:=.wk QLW Qzc
def QEc:TCode :=
 (zsq [(.reg [zop 3 (.box 30 0 6),zmv 6 (zki 0)]),(.reg [zfa 12 3 0,zLd 13 12 1,zfa 14 3 1,zld 15 14 1,zmv 16 1,zca 17 93 [13,15,16],zmv 11 17,zex 18 11 0,zex 19 11 1,zmv 7 18,zmv 8 19]),(zsq [(.reg [zmv 20 8,zmv 21 7,zbi 22 .leq 20 21,zmv 23 22,.grp 23 false [zmv 24 2,zca 25 77 [24,(zki 1),(zki 5)],zno 26 25] 27 26,zmv 28 27,.grp 28 false [zfa 29 3 1,zld 30 29 1,zle 31 30,zbi 32 .add 31 (zki 1),zca 33 77 [32,(zki 1),(zki 4)],zno 34 33] 35 34]),(.cond 35 (zsq [(.reg [zmv 6 (zki 0)]),.ret]) .skip)]),(.reg [zmv 36 2,zmv 9 36]),(zsq [(.reg [zfa 37 3 2,zld 38 37 1,zbi 39 .eql 38 (zki 2)]),(.cond 39 (.reg [zmv 40 2,zfa 41 3 1,zld 42 41 1,zle 43 42,zbi 44 .add 43 (zki 1),zmv 45 1,zbi 46 .sub 44 45,zop 47 (.mm false 40 46),zmv 9 47]) .skip)]),QMM])
def Qxj:List (ARv × Md):=[(.t 6,.one .d)]
def QIu:Qb:=TQ 0 0 Qxj K
@[irreducible] def QfR (c:Ql) (s:Int) (k:Int):Prop:=tawp Qyb 0 Qzc (QIu K) ⟨[(1,(zci s)),(3,(.p 0 0 0)),(7,(zci ((Qp c.1 c.2.1 s).1))),(8,(zci ((Qp c.1 c.2.1 s).2))),(9,(zci k))],[(0,(.box (Tup.cells QS c)))],1⟩
theorem QFs (c:Ql) (s:Int) (k:Int) (h :
 let z2:=Qp c.1 c.2.1 s
 let z3:=gtd dOp c.1 (Int.toNat (w64 ((z2.2)-(1:Int))))
 let z1:=w64 ((w64 (k*(ZX c s)))+(if ((gtd dOp c.1 (Int.toNat (z2.1))).2.1)<(z3.2.2.1) then (z3.2.2.1) else ((gtd dOp c.1 (Int.toNat (z2.1))).2.1)))
 ((((0:Int)≤z2.1∧Int.toNat (z2.1)<(c.1).length)∧((0:Int)≤w64 ((z2.2)-(1:Int))∧Int.toNat (w64 ((z2.2)-(1:Int)))<(c.1).length))∧(((decide (s<((c.2.2.2.1).length:Int)))=true→((0:Int)≤s∧Int.toNat s<(c.2.2.2.1).length))∧(zif ((decide (s<((c.2.2.2.1).length:Int)))&&(gtd (false:Bool) c.2.2.2.1 (Int.toNat s))) (K (QcE (w64 (z1+(Zz c s))))) (K (QcE z1)))))):Hold (QfR K c s k) :=
 Hold.of (by kernel_rfl) h
theorem QRh (c:Ql) (s:Int) (micro:Int) (h :
 (zif (((decide (((Qp c.1 c.2.1 s).2)≤((Qp c.1 c.2.1 s).1)))||(!(m_in micro (1:Int) (5:Int))))||(!(m_in (w64 (((c.2.1).length:Int)+(1:Int))) (1:Int) (4:Int)))) (K (QcE (0:Int))) (zif (c.2.2.1==(2:Int)) (QfR K c s (if (w64 ((w64 (((c.2.1).length:Int)+(1:Int)))-s))<micro then (w64 ((w64 (((c.2.1).length:Int)+(1:Int)))-s)) else micro)) (QfR K c s micro)))):Hold (tawp Qyb (0+0) QEc (TQ 0 0 Qxj K) (Qf [(.a (Tup.cells QS c)),(.c TI s),(.c TI micro)])) :=
 Hold.of (by kernel_rfl) h
theorem QQ9 (c:Ql) (s:Int) (micro:Int):TCon Tryz.prog 78 [(.a (Tup.cells QS c)),(.c TI s),(.c TI micro)] (QcE (Zy c s micro)):=by
 refine Qq rfl fun hb=>tcg (n:=88) (sg:=Qgo.sg) Qj (TOk.cons QiD (TOk.cons JU (TOk.cons QJF (TOk.cons Qqk TOk.nil)))) (by kernel_rfl) (by kernel_rfl) (QRh _ c s micro ?_)
 have hl_c_0:(c.1).length≤9223372036854775807:=hb.1.1.1
 have hl_c_1:(c.2.1).length≤9223372036854775807:=hb.1.2.1.1
 have hl_c_3:(c.2.2.2.1).length≤9223372036854775807:=hb.1.2.2.2.1.1
 have hl_c_4:(c.2.2.2.2.1).length≤9223372036854775807:=hb.1.2.2.2.2.1.1
 have hl_c_5:(c.2.2.2.2.2).length≤9223372036854775807:=hb.1.2.2.2.2.2.1.1
 have hr:=Qb1 c.1 c.2.1 s
 have hs:=QbC (c:=c)
 refine ⟨fun h=>R_eq ?_,fun h=>?_⟩
 ·unfold Zy
  rw [if_neg]
  intro h2
  simp only [Bool.and_eq_true,QJ,decide_eq_true_eq] at h2
  have hc:=hs.2.2.1.1 (by omega)
  have hst:=hs.2.2.2 hc
  have:=hr.2.2.2.2 ⟨hc,by omega,by omega⟩
  rw [← hst] at h
  have e:=Qo (x:=QH c) (by omega) (by omega)
  rw [e] at h
  grind [m_in]
 ·have hlt:(Qp c.1 c.2.1 s).1<(Qp c.1 c.2.1 s).2:=by grind
  have hc:=hr.2.2.2.1 hlt
  have hst:=hs.2.2.2 hc.1
  have hz:Zm c s=((gtd dOp c.1 (Qp c.1 c.2.1 s).1.toNat).2.1,(gtd dOp c.1 ((Qp c.1 c.2.1 s).2.toNat-1)).2.2.1):=by
   unfold Zm;simp only [if_neg (Int.ne_of_lt hlt)]
  have e1:Int.toNat (w64 ((Qp c.1 c.2.1 s).2-1))=(Qp c.1 c.2.1 s).2.toNat-1∧(0:Int)≤w64 ((Qp c.1 c.2.1 s).2-1):=by
   rw [Qo (by omega) (by omega)];omega
  have e2:w64 ((c.2.1.length:Int)+1)=QH c:=by rw [hst];exact Qo (by omega) (by omega)
  have e3:w64 (QH c-s)=QH c-s:=Qo (by omega) (by omega)
  have hred:YD c s=(decide (s<(c.2.2.2.1.length:Int))&&gtd false c.2.2.2.1 s.toNat):=by
   unfold YD;rw [decide_eq_true hc.2.1,Bool.true_and]
  rw [e2] at h ⊢
  have hin:(m_in s 0 (QH c-1)&&m_in micro 1 5&&decide (QH c≤4))=true:=by grind [m_in]
  have key:∀ k:Int,Zy c s micro=w64 (w64 (w64 (k*ZX c s)+iMax (Zm c s).1 (Zm c s).2)+if YD c s then Zz c s else 0)→QfR (fun r'=>r'=QcE (Zy c s micro)) c s k:=by
   intro k hk
   refine (QFs (fun r'=>r'=QcE (Zy c s micro)) c s _ ⟨⟨⟨by omega,by omega⟩,e1.2,by rw [e1.1];omega⟩,fun h=>⟨by omega,by simp at h;omega⟩,fun h=>R_eq ?_,fun h=>R_eq ?_⟩).h
   ·rw [hk,hred,h,e1.1,hz];rfl
   ·rw [hk,hred,h,e1.1,hz];simp [QrB];rfl
  rw [e3]
  refine ⟨fun h1=>key _ ?_,fun h1=>key _ ?_⟩
  ·simp only [Zy,hin,if_true]
   simp at h1
   rw [if_pos h1];rfl
  ·simp only [Zy,hin,if_true]
   simp at h1
   rw [if_neg h1]
theorem Qsu:Qh Tryz.prog Qgo:=Qk fun x _=>QQ9 x.1 x.2.1 x.2.2.1
def Qcq (t:Int):TRes:=zre (zci t)
def QmI:TRow:=Qg 54 [(.a QS),(.c TI),(.c TI)] fun x=>(none,Qcq (Zy x.1 x.2.1 x.2.2.1))
def Qot:List TRow:=[QdM,QfB,Qno,Qgc,QgF]
def Qzd:TCode :=
 (zsq [(.reg [zLd 43 3 6,zmv 44 1,zca 45 127 [43,44],zmv 42 45,zex 46 42 0,zex 47 42 1,zmv 9 46,zmv 10 47]),(.reg [zmv 48 8,zLd 49 3 6,zmv 50 1,zca 51 128 [49,50],zbi 52 .mul 48 51,zmv 53 9,zmv 54 10,zop 55 (.mm true 53 54),zbi 56 .add 52 55,zmv 11 56]),(zsq [(.reg [zLd 57 3 6,zmv 58 1,zca 59 129 [57,58]]),(.cond 59 (.reg [zmv 60 11,zLd 61 3 6,zmv 62 1,zca 63 130 [61,62],zbi 64 .add 60 63,zmv 11 64]) .skip)]),(.reg [zmv 65 11,zmv 6 65]),.ret])
def QD6:List (Nat × Md):=[(1,.one .d),(3,.b (zds 6)),(8,.one .d)]
def QAs:TCode:=.wk QD6 Qzd
def QFe:TCode :=
 (zsq [(.reg [zop 3 (.box 30 0 6),zmv 6 (zki 0)]),(.reg [zLd 12 3 6,zca 13 59 [12],zmv 7 13]),(zsq [(.reg [zmv 14 1,zbi 15 .lss 14 (zki 0),zmv 16 15,.grp 16 false [zmv 17 1,zmv 18 7,zbi 19 .geq 17 18] 20 19,zmv 21 20,.grp 21 false [zmv 22 2,zbi 23 .lss 22 (zki 1)] 24 23,zmv 25 24,.grp 25 false [zmv 26 2,zbi 27 .gtr 26 (zki 5)] 28 27,zmv 29 28,.grp 29 false [zmv 30 7,zbi 31 .gtr 30 (zki 4)] 32 31]),(.cond 32 (zsq [(.reg [zmv 6 (zki 0)]),.ret]) .skip)]),(.reg [zmv 33 2,zmv 8 33]),(zsq [(.reg [zfa 34 3 2,zld 35 34 1,zbi 36 .eql 35 (zki 2)]),(.cond 36 (.reg [zmv 37 2,zmv 38 7,zmv 39 1,zbi 40 .sub 38 39,zop 41 (.mm false 37 40),zmv 8 41]) .skip)]),QAs])
def Qo0:List (ARv × Md):=[(.t 6,.one .d)]
def QOd:Qb:=TQ 0 0 Qo0 K
@[irreducible] def QgO (c:Ql) (s:Int) (count:Int):Prop:=tawp Qot 0 Qzd (QOd K) ⟨[(1,(zci s)),(3,(.p 0 0 0)),(8,(zci count))],[(0,(.box (Tup.cells QS c)))],1⟩
theorem QEb (c:Ql) (s:Int) (count:Int) (h :
 (zif (YD c s) (K (Qcq (w64 ((w64 ((w64 (count*(ZX c s)))+(if ((Zm c s).1)<((Zm c s).2) then ((Zm c s).2) else ((Zm c s).1))))+(Zz c s))))) (K (Qcq (w64 ((w64 (count*(ZX c s)))+(if ((Zm c s).1)<((Zm c s).2) then ((Zm c s).2) else ((Zm c s).1)))))))):Hold (QgO K c s count) :=
 Hold.of (by kernel_rfl) h
theorem QEt (c:Ql) (s:Int) (micro:Int) (h :
 (zif (((((decide (s<(0:Int)))||(decide (s≥(QH c))))||(decide (micro<(1:Int))))||(decide (micro>(5:Int))))||(decide ((QH c)>(4:Int)))) (K (Qcq (0:Int))) (zif (c.2.2.1==(2:Int)) (QgO K c s (if (w64 ((QH c)-s))<micro then (w64 ((QH c)-s)) else micro)) (QgO K c s micro)))):Hold (tawp Qot (0+0) QFe (TQ 0 0 Qo0 K) (Qf [(.a (Tup.cells QS c)),(.c TI s),(.c TI micro)])) :=
 Hold.of (by kernel_rfl) h
theorem QK4 (c:Ql) (s:Int) (micro:Int):TCon Tryz.prog 54 [(.a (Tup.cells QS c)),(.c TI s),(.c TI micro)] (Qcq (Zy c s micro)):=by
 refine Qq rfl fun hb=>tcg (n:=66) (sg:=QmI.sg) Qj (TOk.cons Qgw (TOk.cons Qjd (TOk.cons QHr (TOk.cons Qrm (TOk.cons Qt8 TOk.nil))))) (by kernel_rfl) (by kernel_rfl) (QEt _ c s micro ?_)
 have hl_c_0:(c.1).length≤9223372036854775807:=hb.1.1.1
 have hl_c_1:(c.2.1).length≤9223372036854775807:=hb.1.2.1.1
 have hl_c_3:(c.2.2.2.1).length≤9223372036854775807:=hb.1.2.2.2.1.1
 have hl_c_4:(c.2.2.2.2.1).length≤9223372036854775807:=hb.1.2.2.2.2.1.1
 have hl_c_5:(c.2.2.2.2.2).length≤9223372036854775807:=hb.1.2.2.2.2.2.1.1
 have hs:=QbC (c:=c)
 refine ⟨fun h=>R_eq (by unfold Zy;rw [if_neg];grind [m_in]),fun h=>?_⟩
 have hin:(m_in s 0 (QH c-1)&&m_in micro 1 5&&decide (QH c≤4))=true:=by grind [m_in]
 have hin2:=hin
 simp only [Bool.and_eq_true,QJ,decide_eq_true_eq] at hin2
 have e3:w64 (QH c-s)=QH c-s:=Qo (by omega) (by omega)
 have key:∀ k:Int,Zy c s micro=w64 (w64 (w64 (k*ZX c s)+iMax (Zm c s).1 (Zm c s).2)+if YD c s then Zz c s else 0)→QgO (fun r'=>r'=Qcq (Zy c s micro)) c s k:=by
  intro k hk
  refine (QEb (fun r'=>r'=Qcq (Zy c s micro)) c s _ ⟨fun h=>R_eq ?_,fun h=>R_eq ?_⟩).h
  ·rw [hk,h];rfl
  ·rw [hk,h];simp [QrB];rfl
 rw [e3]
 refine ⟨fun h1=>key _ ?_,fun h1=>key _ ?_⟩
 ·simp only [Zy,hin,if_true]
  simp at h1
  rw [if_pos h1];rfl
 ·simp only [Zy,hin,if_true]
  simp at h1
  rw [if_neg h1]
theorem QGe:Qh Tryz.prog QmI:=Qk fun x _=>QK4 x.1 x.2.1 x.2.2.1
end
end Go.Proofs.YtjbdljkhbglnhaaGreat.Am

