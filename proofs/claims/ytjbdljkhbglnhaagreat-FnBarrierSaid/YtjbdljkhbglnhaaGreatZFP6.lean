/- -/
import Derived.Test.YtjbdljkhbglnhaaGreatZFP5
import Derived.Test.YtjbdljkhbglnhaaGreatZFP1
namespace Go.Proofs.YtjbdljkhbglnhaaGreat.Am
open Go Go.RowKit Go.Proofs.YtjbdljkhbglnhaaGreat
set_option linter.all false
set_option maxHeartbeats 2000000
noncomputable section
variable (K:TRes→Prop)
def Qia (t:Int × Int):TRes:=zre (.tp [(zci t.1),(zci t.2)])
def Qf9:TRow:=Qh 127 [(.a Q0),(.c TI)] fun x=>(none,Qia (Yx x.1 x.2.1))
def QHT:List TRow:=[Qfa]
def QHw:TCode :=
 (zsq [(.reg [zop 2 (.box 30 0 6),zmv 4 (zki 0),zmv 5 (zki 0)]),(.reg [zfa 9 2 0,zLd 10 9 1,zfa 11 2 1,zld 12 11 1,zmv 13 1,zca 14 71 [10,12,13],zmv 8 14,zex 15 8 0,zex 16 8 1,zmv 6 15,zmv 7 16]),(zsq [(.reg [zmv 17 6,zmv 18 7,zbi 19 .eql 17 18]),(.cond 19 (zsq [(.reg [zmv 4 (zki 0),zmv 5 (zki 0)]),.ret]) .skip)]),(.draw [zfa 20 2 0,zfa 21 20 0,zld 22 21 1,zmv 23 6,zia 24 22 23 ctOp,zfa 25 24 1,zld 26 25 1,zfa 27 2 0,zfa 28 27 0,zld 29 28 1,zmv 30 7,zbi 31 .sub 30 (zki 1),zia 32 29 31 ctOp,zfa 33 32 2,zld 34 33 1,zmv 4 26,zmv 5 34] []),.ret])
def Q0q:List (ARv × Md):=[(.t 4,.one .d),(.t 5,.one .d)]
theorem Q3n (c:QC) (s:Int) (h :
 (zif (((QK c.1 c.2.1 s).1)==((QK c.1 c.2.1 s).2)) (K (Qia ((0:Int),(0:Int)))) ((((0:Int)≤(QK c.1 c.2.1 s).1∧Int.toNat ((QK c.1 c.2.1 s).1)<(c.1).length)∧((0:Int)≤w64 (((QK c.1 c.2.1 s).2)-(1:Int))∧Int.toNat (w64 (((QK c.1 c.2.1 s).2)-(1:Int)))<(c.1).length))∧K (Qia ((gtd dOp c.1 (Int.toNat ((QK c.1 c.2.1 s).1))).2.1,(gtd dOp c.1 (Int.toNat (w64 (((QK c.1 c.2.1 s).2)-(1:Int))))).2.2.1))))):Hold (tawp QHT (0+0) QHw (TQ 0 0 Q0q K) (Qf [(.a (Tup.cells Q0 c)),(.c TI s)])) :=
 Hold.of (by kernel_rfl) h
theorem Q1T (c:QC) (s:Int):TCon Tryz.prog 127 [(.a (Tup.cells Q0 c)),(.c TI s)] (Qia (Yx c s)):=by
 refine Qo rfl fun hb=>tcg (n:=35) (sg:=Qf9.sg) Qj (TOk.cons Qm9 TOk.nil) (by kernel_rfl) (by kernel_rfl) (Q3n _ c s ?_)
 have hl_c_0:(c.1).length≤9223372036854775807:=hb.1.1.1
 have hl_c_1:(c.2.1).length≤9223372036854775807:=hb.1.2.1.1
 have hl_c_3:(c.2.2.2.1).length≤9223372036854775807:=hb.1.2.2.2.1.1
 have hl_c_4:(c.2.2.2.2.1).length≤9223372036854775807:=hb.1.2.2.2.2.1.1
 have hl_c_5:(c.2.2.2.2.2).length≤9223372036854775807:=hb.1.2.2.2.2.2.1.1
 have hr:=Qdv c.1 c.2.1 s
 refine ⟨fun h=>R_eq (by simp at h;simp [Yx,h]),fun h=>?_⟩
 have hne:¬ (QK c.1 c.2.1 s).1=(QK c.1 c.2.1 s).2:=by simpa using h
 have e1:Int.toNat (w64 ((QK c.1 c.2.1 s).2-1))=(QK c.1 c.2.1 s).2.toNat-1∧(0:Int)≤w64 ((QK c.1 c.2.1 s).2-1):=by
  rw [Qq (by omega) (by omega)];omega
 refine ⟨⟨⟨by omega,by omega⟩,e1.2,by rw [e1.1];omega⟩,R_eq ?_⟩
 rw [e1.1]
 simp [Yx,hne]
theorem QlD:Qg Tryz.prog Qf9:=Qk fun x _=>Q1T x.1 x.2.1
def Qpu (t:Bool):TRes:=zre (zcb t)
def Qhm:TRow:=Qh 129 [(.a Q0),(.c TI)] fun x=>(none,Qpu (Js x.1 x.2.1))
def QUz:List TRow:=[]
def QOw:TCode :=
 (zsq [(.reg [zop 2 (.box 30 0 6),zmv 4 (zkb false)]),(.reg [zmv 5 1,zbi 6 .geq 5 (zki 0),zmv 7 6,.grp 7 true [zmv 8 1,zfa 9 2 3,zld 10 9 1,zle 11 10,zbi 12 .lss 8 11] 13 12,zmv 14 13,.grp 14 true [zfa 15 2 3,zld 16 15 1,zmv 17 1,zia 18 16 17 [.bool],zld 19 18 1] 20 19,zmv 4 20]),.ret])
def QHI:List (ARv × Md):=[(.t 4,.one .d)]
theorem QPg (c:QC) (s:Int) (h :
 ((((decide (s≥(0:Int)))&&(decide (s<((c.2.2.2.1).length:Int))))=true→((0:Int)≤s∧Int.toNat s<(c.2.2.2.1).length))∧K (Qpu (((decide (s≥(0:Int)))&&(decide (s<((c.2.2.2.1).length:Int))))&&(gtd (false:Bool) c.2.2.2.1 (Int.toNat s)))))):Hold (tawp QUz (0+0) QOw (TQ 0 0 QHI K) (Qf [(.a (Tup.cells Q0 c)),(.c TI s)])) :=
 Hold.of (by kernel_rfl) h
theorem QVy (c:QC) (s:Int):TCon Tryz.prog 129 [(.a (Tup.cells Q0 c)),(.c TI s)] (Qpu (Js c s)):=by
 refine Qo rfl fun hb=>tcg (n:=21) (sg:=Qhm.sg) Qj TOk.nil (by kernel_rfl) (by kernel_rfl) (QPg _ c s ?_)
 have hl_c_0:(c.1).length≤9223372036854775807:=hb.1.1.1
 have hl_c_1:(c.2.1).length≤9223372036854775807:=hb.1.2.1.1
 have hl_c_3:(c.2.2.2.1).length≤9223372036854775807:=hb.1.2.2.2.1.1
 have hl_c_4:(c.2.2.2.2.1).length≤9223372036854775807:=hb.1.2.2.2.2.1.1
 have hl_c_5:(c.2.2.2.2.2).length≤9223372036854775807:=hb.1.2.2.2.2.2.1.1
 refine ⟨fun h=>by simp at h;omega,R_eq (by simp [Js])⟩
theorem QHd:Qg Tryz.prog Qhm:=Qk fun x _=>QVy x.1 x.2.1
def QdO (t:Int):TRes:=zre (zci t)
def Qi1:TRow:=Qh 156 [(.a Q0),(.c TI)] fun x=>(none,QdO (YH x.1 x.2.1))
def Qr4:List TRow:=[QeC]
def QtG:TCode :=
 (zsq [(zsq [(.reg [zmv 19 8,zmv 20 6,zbi 21 .lss 19 20]),(.cond 21 .skip (.exit 0))]),(.block 1 (.reg [zmv 24 7,zfa 25 2 0,zfa 26 25 0,zld 27 26 1,zmv 28 8,zia 29 27 28 ctOp,zfa 30 29 1,zld 31 30 1,zbi 32 .add 24 31,zmv 7 32])),(.reg [zmv 22 8,zbi 23 .add 22 (zki 1),zmv 8 23])])
def Qww:List (Nat × Md):=[(2,.b (zds 6)),(5,.one .d),(6,.one .d),(7,.one .d),(8,.one .d)]
def Quv:TCode :=
 (zsq [(zsq [(.reg [zmv 33 6,zmv 34 5,zbi 35 .gtr 33 34]),(.cond 35 (.reg [zmv 36 7,zfa 37 2 0,zfa 38 37 0,zld 39 38 1,zmv 40 6,zbi 41 .sub 40 (zki 1),zia 42 39 41 ctOp,zfa 43 42 2,zld 44 43 1,zbi 45 .add 36 44,zmv 7 45]) .skip)]),(.reg [zmv 46 7,zmv 4 46]),.ret])
def QJt:TCode :=
 (zsq [(.reg [zop 2 (.box 30 0 6),zmv 4 (zki 0)]),(.reg [zfa 10 2 0,zLd 11 10 1,zfa 12 2 1,zld 13 12 1,zmv 14 1,zca 15 93 [11,13,14],zmv 9 15,zex 16 9 0,zex 17 9 1,zmv 5 16,zmv 6 17]),(.reg [zmv 7 (zki 0)]),(zsq [(.reg [zmv 18 5,zmv 8 18]),(.block 0 (.loop Qww QtG))]),Quv])
def QEZ:List (ARv × Md):=[(.t 4,.one .d)]
def Qxh:Qb:=TQ 0 0 QEZ K
def QZc:Qb:=Qseq (tawp Qr4 0 Quv (Qxh K)) (Qxh K)
def QKg:Qb:=Qblk 0 (QZc K)
def Qly (c:QC) (s:Int) (n:Int) (i:Int):Prop:=Loop Qr4 0 Qww QtG (QKg K) ⟨[(2,(.p 0 0 0)),(5,(zci ((QK c.1 c.2.1 s).1))),(6,(zci ((QK c.1 c.2.1 s).2))),(7,(zci n)),(8,(zci i))],[(0,(.box (Tup.cells Q0 c)))],1⟩
theorem QFK (c:QC) (s:Int) (n:Int) (i:Int) (h :
 (zif (decide (i<((QK c.1 c.2.1 s).2))) (((0:Int)≤i∧Int.toNat i<(c.1).length)∧(Qly K c s (w64 (n+((gtd dOp c.1 (Int.toNat i)).2.1))) (w64 (i+(1:Int))))) (zif (decide (((QK c.1 c.2.1 s).2)>((QK c.1 c.2.1 s).1))) (((0:Int)≤w64 (((QK c.1 c.2.1 s).2)-(1:Int))∧Int.toNat (w64 (((QK c.1 c.2.1 s).2)-(1:Int)))<(c.1).length)∧K (QdO (w64 (n+((gtd dOp c.1 (Int.toNat (w64 (((QK c.1 c.2.1 s).2)-(1:Int))))).2.2.1))))) (K (QdO n))))):Qly K c s n i :=
 Loop.of (by kernel_rfl) h
theorem QTZ (c:QC) (s:Int) (h :
 (Qly K c s 0 ((QK c.1 c.2.1 s).1))):Hold (tawp Qr4 (0+0) QJt (TQ 0 0 QEZ K) (Qf [(.a (Tup.cells Q0 c)),(.c TI s)])) :=
 Hold.of (by kernel_rfl) h
theorem QKX (c:QC) (s:Int):TCon Tryz.prog 156 [(.a (Tup.cells Q0 c)),(.c TI s)] (QdO (YH c s)):=by
 refine Qo rfl fun hb=>tcg (n:=47) (sg:=Qi1.sg) Qj (TOk.cons Qke TOk.nil) (by kernel_rfl) (by kernel_rfl) (QTZ _ c s ?_)
 have hl_c_0:(c.1).length≤9223372036854775807:=hb.1.1.1
 have hl_c_1:(c.2.1).length≤9223372036854775807:=hb.1.2.1.1
 have hl_c_3:(c.2.2.2.1).length≤9223372036854775807:=hb.1.2.2.2.1.1
 have hl_c_4:(c.2.2.2.2.1).length≤9223372036854775807:=hb.1.2.2.2.2.1.1
 have hl_c_5:(c.2.2.2.2.2).length≤9223372036854775807:=hb.1.2.2.2.2.2.1.1
 have hr:=Qdv c.1 c.2.1 s
 generalize hz:(if (QK c.1 c.2.1 s).1<(QK c.1 c.2.1 s).2 then (gtd dOp c.1 ((QK c.1 c.2.1 s).2.toNat-1)).2.2.1 else 0)=z
 have:=Qrp c.1 _ _ hr.1 hr.2.1 hr.2.2.1 (fun r k=>∀ y:Int,w64 (y+(r.map fun o=>o.2.1).sum+z)=(YH c s)→Qly (fun r'=>r'=QdO (YH c s)) c s (w64 y) k) ?_ ?_ 0 (by simp [YH,hz])
 ·rw [show (((QK c.1 c.2.1 s).1.toNat:Nat):Int)=(QK c.1 c.2.1 s).1 by omega] at this
  exact this
 ·intro y he
  refine QFK (fun r'=>r'=QdO (YH c s)) c s _ _ ⟨fun h=>by simp at h;omega,fun _=>⟨fun h=>?_,fun h=>R_eq ?_⟩⟩
  ·have hlt:(QK c.1 c.2.1 s).1<(QK c.1 c.2.1 s).2:=by simpa using h
   have e1:Int.toNat (w64 ((QK c.1 c.2.1 s).2-1))=(QK c.1 c.2.1 s).2.toNat-1∧(0:Int)≤w64 ((QK c.1 c.2.1 s).2-1):=by
    rw [Qq (by omega) (by omega)];omega
   refine ⟨⟨e1.2,by rw [e1.1];omega⟩,R_eq ?_⟩
   rw [if_pos hlt] at hz
   rw [e1.1,QfC,← he,← hz]
   simp
  ·rw [if_neg (by simpa using h)] at hz
   rw [← he,← hz]
   simp
 ·intro k x r h1 h2 hlt hg ih y he
  refine QFK (fun r'=>r'=QdO (YH c s)) c s _ _ ⟨fun _=>?_,fun h=>by simp at h;omega⟩
  rw [Int.toNat_natCast,hg,Qq (x:=(k:Int)+1) (by omega) (by omega),QfC]
  refine ⟨⟨by omega,hlt⟩,ih _ ?_⟩
  rw [← he,List.map_cons,List.sum_cons]
  congr 1
  omega
theorem QG7:Qg Tryz.prog Qi1:=Qk fun x _=>QKX x.1 x.2.1
def QeS (t:Int):TRes:=zre (zci t)
def QjD:TRow:=Qh 130 [(.a Q0),(.c TI)] fun x=>(none,QeS (YH x.1 x.2.1))
def QrI:List TRow:=[Qfa,Qf9]
def Qyn:TCode :=
 (zsq [(zsq [(.reg [zmv 26 9,zmv 27 6,zbi 28 .lss 26 27]),(.cond 28 .skip (.exit 0))]),(.block 1 (.reg [zmv 31 8,zfa 32 2 0,zfa 33 32 0,zld 34 33 1,zmv 35 9,zia 36 34 35 ctOp,zfa 37 36 1,zld 38 37 1,zbi 39 .add 31 38,zmv 8 39])),(.reg [zmv 29 9,zbi 30 .add 29 (zki 1),zmv 9 30])])
def Qwz:List (Nat × Md):=[(2,.b (zds 6)),(6,.one .d),(8,.one .d),(9,.one .d)]
def Qzj:TCode :=
 (zsq [(.reg [zmv 40 8,zmv 4 40]),.ret])
def QQd:TCode :=
 (zsq [(.reg [zop 2 (.box 30 0 6),zmv 4 (zki 0)]),(.reg [zfa 11 2 0,zLd 12 11 1,zfa 13 2 1,zld 14 13 1,zmv 15 1,zca 16 71 [12,14,15],zmv 10 16,zex 17 10 0,zex 18 10 1,zmv 5 17,zmv 6 18]),(.reg [zLd 20 2 6,zmv 21 1,zca 22 127 [20,21],zmv 19 22,zex 23 19 0,zex 24 19 1,zmv 7 23,zmv 8 24]),(zsq [(.reg [zmv 25 5,zmv 9 25]),(.block 0 (.loop Qwz Qyn))]),Qzj])
def Qwi:List (ARv × Md):=[(.t 4,.one .d)]
def QHg:Qb:=TQ 0 0 Qwi K
def QIJ:Qb:=Qseq (tawp QrI 0 Qzj (QHg K)) (QHg K)
def QHu:Qb:=Qblk 0 (QIJ K)
def Qhg (c:QC) (s:Int) (n:Int) (i:Int):Prop:=Loop QrI 0 Qwz Qyn (QHu K) ⟨[(2,(.p 0 0 0)),(6,(zci ((QK c.1 c.2.1 s).2))),(8,(zci n)),(9,(zci i))],[(0,(.box (Tup.cells Q0 c)))],1⟩
theorem QtK (c:QC) (s:Int) (n:Int) (i:Int) (h :
 (zif (decide (i<((QK c.1 c.2.1 s).2))) (((0:Int)≤i∧Int.toNat i<(c.1).length)∧(Qhg K c s (w64 (n+((gtd dOp c.1 (Int.toNat i)).2.1))) (w64 (i+(1:Int))))) (K (QeS n)))):Qhg K c s n i :=
 Loop.of (by kernel_rfl) h
theorem QUX (c:QC) (s:Int) (h :
 (Qhg K c s ((Yx c s).2) ((QK c.1 c.2.1 s).1))):Hold (tawp QrI (0+0) QQd (TQ 0 0 Qwi K) (Qf [(.a (Tup.cells Q0 c)),(.c TI s)])) :=
 Hold.of (by kernel_rfl) h
theorem QNF (c:QC) (s:Int):TCon Tryz.prog 130 [(.a (Tup.cells Q0 c)),(.c TI s)] (QeS (YH c s)):=by
 refine Qo rfl fun hb=>tcg (n:=41) (sg:=QjD.sg) Qj (TOk.cons Qm9 (TOk.cons QlD TOk.nil)) (by kernel_rfl) (by kernel_rfl) (QUX _ c s ?_)
 have hl_c_0:(c.1).length≤9223372036854775807:=hb.1.1.1
 have hl_c_1:(c.2.1).length≤9223372036854775807:=hb.1.2.1.1
 have hl_c_3:(c.2.2.2.1).length≤9223372036854775807:=hb.1.2.2.2.1.1
 have hl_c_4:(c.2.2.2.2.1).length≤9223372036854775807:=hb.1.2.2.2.2.1.1
 have hl_c_5:(c.2.2.2.2.2).length≤9223372036854775807:=hb.1.2.2.2.2.2.1.1
 have hr:=Qdv c.1 c.2.1 s
 generalize hz:(if (QK c.1 c.2.1 s).1<(QK c.1 c.2.1 s).2 then (gtd dOp c.1 ((QK c.1 c.2.1 s).2.toNat-1)).2.2.1 else 0)=z
 have ez:(Yx c s).2=z:=by
  rw [← hz]
  unfold Yx
  by_cases h:(QK c.1 c.2.1 s).1=(QK c.1 c.2.1 s).2
  ·simp [h]
  ·simp only [if_neg h];rw [if_pos (by omega)]
 have hzm:0≤z∧z≤6:=by
  rw [← hz]
  split
  ·rename_i h
   have hc:=(hr.2.2.2.1 h).1
   simp only [Zj,QT,Bool.and_eq_true] at hc
   have:=QcC (QfN hc.1.2 _ _ (Y4 (i:=(QK c.1 c.2.1 s).2.toNat-1) (by omega) dOp)).1
   omega
  ·omega
 have:=Qrp c.1 _ _ hr.1 hr.2.1 hr.2.2.1 (fun r k=>∀ y:Int,w64 (y+(r.map fun o=>o.2.1).sum)=(YH c s)→Qhg (fun r'=>r'=QeS (YH c s)) c s (w64 y) k) ?_ ?_ z (by simp only [YH,hz];rw [Int.add_comm])
 ·rw [show (((QK c.1 c.2.1 s).1.toNat:Nat):Int)=(QK c.1 c.2.1 s).1 by omega,Qq (x:=z) (by omega) (by omega),← ez] at this
  exact this
 ·intro y he
  refine QtK (fun r'=>r'=QeS (YH c s)) c s _ _ ⟨fun h=>by simp at h;omega,fun _=>R_eq ?_⟩
  simpa using he
 ·intro k x r h1 h2 hlt hg ih y he
  refine QtK (fun r'=>r'=QeS (YH c s)) c s _ _ ⟨fun _=>?_,fun h=>by simp at h;omega⟩
  rw [Int.toNat_natCast,hg,Qq (x:=(k:Int)+1) (by omega) (by omega),QfC]
  refine ⟨⟨by omega,hlt⟩,ih _ ?_⟩
  rw [← he,List.map_cons,List.sum_cons,Int.add_assoc]
theorem QEn:Qg Tryz.prog QjD:=Qk fun x _=>QNF x.1 x.2.1
def QjQ (t:Int):TRes:=zre (zci t)
def Qqb:TRow:=Qh 128 [(.a Q0),(.c TI)] fun x=>(none,QjQ (JH x.1 x.2.1))
def QT0:List TRow:=[Qhm,Qf9,QjD]
def QMY:TCode :=
 (zsq [(.reg [zop 2 (.box 30 0 6),zmv 4 (zki 0)]),(zsq [(.reg [zLd 7 2 6,zmv 8 1,zca 9 129 [7,8]]),(.cond 9 (zsq [(.reg [zLd 11 2 6,zmv 12 1,zca 13 127 [11,12],zmv 10 13,zex 14 10 0,zex 15 10 1,zmv 5 14,zmv 6 15]),(.reg [zmv 16 5,zmv 4 16]),.ret]) .skip)]),(.reg [zLd 17 2 6,zmv 18 1,zca 19 130 [17,18],zmv 4 19]),.ret])
def Q15:List (ARv × Md):=[(.t 4,.one .d)]
theorem QJx (c:QC) (s:Int) (h :
 (zif (Js c s) (K (QjQ ((Yx c s).1))) (K (QjQ (YH c s))))):Hold (tawp QT0 (0+0) QMY (TQ 0 0 Q15 K) (Qf [(.a (Tup.cells Q0 c)),(.c TI s)])) :=
 Hold.of (by kernel_rfl) h
theorem QX1 (c:QC) (s:Int):TCon Tryz.prog 128 [(.a (Tup.cells Q0 c)),(.c TI s)] (QjQ (JH c s)):=by
 refine Qo rfl fun hb=>tcg (n:=20) (sg:=Qqb.sg) Qj (TOk.cons QHd (TOk.cons QlD (TOk.cons QEn TOk.nil))) (by kernel_rfl) (by kernel_rfl) (QJx _ c s ?_)
 have hl_c_0:(c.1).length≤9223372036854775807:=hb.1.1.1
 have hl_c_1:(c.2.1).length≤9223372036854775807:=hb.1.2.1.1
 have hl_c_3:(c.2.2.2.1).length≤9223372036854775807:=hb.1.2.2.2.1.1
 have hl_c_4:(c.2.2.2.2.1).length≤9223372036854775807:=hb.1.2.2.2.2.1.1
 have hl_c_5:(c.2.2.2.2.2).length≤9223372036854775807:=hb.1.2.2.2.2.2.1.1
 refine ⟨fun h=>R_eq (by simp [JH,h]),fun h=>R_eq (by simp [JH,h])⟩
theorem QPt:Qg Tryz.prog Qqb:=Qk fun x _=>QX1 x.1 x.2.1
def Qhj (t:Int):TRes:=zre (zci t)
def Qmn:TRow:=Qh 155 [(.a Q0),(.c TI)] fun x=>(none,Qhj (JH x.1 x.2.1))
def QO2:List TRow:=[QeC,Qi1]
def QR4:TCode :=
 (zsq [(.reg [zop 2 (.box 30 0 6),zmv 4 (zki 0)]),(.reg [zfa 8 2 0,zLd 9 8 1,zfa 10 2 1,zld 11 10 1,zmv 12 1,zca 13 93 [9,11,12],zmv 7 13,zex 14 7 0,zex 15 7 1,zmv 5 14,zmv 6 15]),(zsq [(.reg [zmv 16 6,zmv 17 5,zbi 18 .gtr 16 17,zmv 19 18,.grp 19 true [zmv 20 1,zfa 21 2 3,zld 22 21 1,zle 23 22,zbi 24 .lss 20 23] 25 24,zmv 26 25,.grp 26 true [zfa 27 2 3,zld 28 27 1,zmv 29 1,zia 30 28 29 [.bool],zld 31 30 1] 32 31]),(.cond 32 (zsq [(.reg [zfa 33 2 0,zfa 34 33 0,zld 35 34 1,zmv 36 5,zia 37 35 36 ctOp,zfa 38 37 1,zld 39 38 1,zmv 4 39]),.ret]) .skip)]),(.reg [zLd 40 2 6,zmv 41 1,zca 42 156 [40,41],zmv 4 42]),.ret])
def QIY:List (ARv × Md):=[(.t 4,.one .d)]
theorem QSS (c:QC) (s:Int) (h :
 ((((decide (((QK c.1 c.2.1 s).2)>((QK c.1 c.2.1 s).1)))&&(decide (s<((c.2.2.2.1).length:Int))))=true→((0:Int)≤s∧Int.toNat s<(c.2.2.2.1).length))∧(zif (((decide (((QK c.1 c.2.1 s).2)>((QK c.1 c.2.1 s).1)))&&(decide (s<((c.2.2.2.1).length:Int))))&&(gtd (false:Bool) c.2.2.2.1 (Int.toNat s))) (((0:Int)≤(QK c.1 c.2.1 s).1∧Int.toNat ((QK c.1 c.2.1 s).1)<(c.1).length)∧K (Qhj ((gtd dOp c.1 (Int.toNat ((QK c.1 c.2.1 s).1))).2.1))) (K (Qhj (YH c s)))))):Hold (tawp QO2 (0+0) QR4 (TQ 0 0 QIY K) (Qf [(.a (Tup.cells Q0 c)),(.c TI s)])) :=
 Hold.of (by kernel_rfl) h
theorem QVS (c:QC) (s:Int):TCon Tryz.prog 155 [(.a (Tup.cells Q0 c)),(.c TI s)] (Qhj (JH c s)):=by
 refine Qo rfl fun hb=>tcg (n:=43) (sg:=Qmn.sg) Qj (TOk.cons Qke (TOk.cons QG7 TOk.nil)) (by kernel_rfl) (by kernel_rfl) (QSS _ c s ?_)
 have hl_c_0:(c.1).length≤9223372036854775807:=hb.1.1.1
 have hl_c_1:(c.2.1).length≤9223372036854775807:=hb.1.2.1.1
 have hl_c_3:(c.2.2.2.1).length≤9223372036854775807:=hb.1.2.2.2.1.1
 have hl_c_4:(c.2.2.2.2.1).length≤9223372036854775807:=hb.1.2.2.2.2.1.1
 have hl_c_5:(c.2.2.2.2.2).length≤9223372036854775807:=hb.1.2.2.2.2.2.1.1
 have hr:=Qdv c.1 c.2.1 s
 refine ⟨fun h=>?_,fun h=>⟨⟨by omega,?_⟩,R_eq ?_⟩,fun h=>R_eq ?_⟩
 ·simp at h
  have:=hr.2.2.2.1 h.1
  omega
 ·simp at h;omega
 ·simp at h
  have h1:=hr.2.2.2.1 h.1.1
  have e1:Js c s=true:=by simp [Js,h];omega
  simp [JH,e1,Yx,Int.ne_of_lt h.1.1]
 ·by_cases e1:Js c s=true
  ·simp only [Js,Bool.and_eq_true,decide_eq_true_eq] at e1
   have hn:¬ (QK c.1 c.2.1 s).1<(QK c.1 c.2.1 s).2:=by
    intro hlt
    simp [hlt,e1] at h
   have e2:(QK c.1 c.2.1 s).1=(QK c.1 c.2.1 s).2:=by omega
   simp [JH,Js,e1,Yx,e2,YH,slice,QL2]
  ·simp [JH,e1]
theorem QML:Qg Tryz.prog Qmn:=Qk fun x _=>QVS x.1 x.2.1
def QcQ (t:Int):TRes:=zre (zci t)
def Qjb:TRow:=Qh 78 [(.a Q0),(.c TI),(.c TI)] fun x=>(none,QcQ (Y1 x.1 x.2.1 x.2.2.1))
def QCF:List TRow:=[QeC,YR,Qmn,Qi1]
def QAg:TCode :=
 (zsq [(.draw [zmv 48 9,zLd 49 3 6,zmv 50 1,zca 51 155 [49,50],zbi 52 .mul 48 51,zfa 53 3 0,zfa 54 53 0,zld 55 54 1,zmv 56 7,zia 57 55 56 ctOp,zfa 58 57 1,zld 59 58 1,zfa 60 3 0,zfa 61 60 0,zld 62 61 1,zmv 63 8,zbi 64 .sub 63 (zki 1),zia 65 62 64 ctOp,zfa 66 65 2,zld 67 66 1,zop 68 (.mm true 59 67),zbi 69 .add 52 68,zmv 10 69] [(3,5),(3,6),(3,7),(3,9),(3,10),(3,11),(3,12),(3,13),(3,14),(3,17),(3,18),(3,19)]),(zsq [(.reg [zmv 70 1,zfa 71 3 3,zld 72 71 1,zle 73 72,zbi 74 .lss 70 73,zmv 75 74,.grp 75 true [zfa 76 3 3,zld 77 76 1,zmv 78 1,zia 79 77 78 [.bool],zld 80 79 1] 81 80]),(.cond 81 (.reg [zmv 82 10,zLd 83 3 6,zmv 84 1,zca 85 156 [83,84],zbi 86 .add 82 85,zmv 10 86]) .skip)]),(.reg [zmv 87 10,zmv 6 87]),.ret])
def Q03:List (Nat × Md):=[(1,.one .d),(3,.b (zds 6)),(7,.one .d),(8,.one .d),(9,.one .d)]
def Q0m:TCode:=.wk Q03 QAg
def Q0J:TCode :=
 (zsq [(.reg [zop 3 (.box 30 0 6),zmv 6 (zki 0)]),(.reg [zfa 12 3 0,zLd 13 12 1,zfa 14 3 1,zld 15 14 1,zmv 16 1,zca 17 93 [13,15,16],zmv 11 17,zex 18 11 0,zex 19 11 1,zmv 7 18,zmv 8 19]),(zsq [(.reg [zmv 20 8,zmv 21 7,zbi 22 .leq 20 21,zmv 23 22,.grp 23 false [zmv 24 2,zca 25 77 [24,(zki 1),(zki 5)],zno 26 25] 27 26,zmv 28 27,.grp 28 false [zfa 29 3 1,zld 30 29 1,zle 31 30,zbi 32 .add 31 (zki 1),zca 33 77 [32,(zki 1),(zki 4)],zno 34 33] 35 34]),(.cond 35 (zsq [(.reg [zmv 6 (zki 0)]),.ret]) .skip)]),(.reg [zmv 36 2,zmv 9 36]),(zsq [(.reg [zfa 37 3 2,zld 38 37 1,zbi 39 .eql 38 (zki 2)]),(.cond 39 (.reg [zmv 40 2,zfa 41 3 1,zld 42 41 1,zle 43 42,zbi 44 .add 43 (zki 1),zmv 45 1,zbi 46 .sub 44 45,zop 47 (.mm false 40 46),zmv 9 47]) .skip)]),Q0m])
def Qwh:List (ARv × Md):=[(.t 6,.one .d)]
def QXX:Qb:=TQ 0 0 Qwh K
def QiD (c:QC) (s:Int) (k:Int):Prop:=tawp QCF 0 QAg (QXX K) ⟨[(1,(zci s)),(3,(.p 0 0 0)),(7,(zci ((QK c.1 c.2.1 s).1))),(8,(zci ((QK c.1 c.2.1 s).2))),(9,(zci k))],[(0,(.box (Tup.cells Q0 c)))],1⟩
theorem QUK (c:QC) (s:Int) (k:Int) (h :
 let z2:=QK c.1 c.2.1 s
 let z3:=gtd dOp c.1 (Int.toNat (w64 ((z2.2)-(1:Int))))
 let z1:=w64 ((w64 (k*(JH c s)))+(if ((gtd dOp c.1 (Int.toNat (z2.1))).2.1)<(z3.2.2.1) then (z3.2.2.1) else ((gtd dOp c.1 (Int.toNat (z2.1))).2.1)))
 ((((0:Int)≤z2.1∧Int.toNat (z2.1)<(c.1).length)∧((0:Int)≤w64 ((z2.2)-(1:Int))∧Int.toNat (w64 ((z2.2)-(1:Int)))<(c.1).length))∧(((decide (s<((c.2.2.2.1).length:Int)))=true→((0:Int)≤s∧Int.toNat s<(c.2.2.2.1).length))∧(zif ((decide (s<((c.2.2.2.1).length:Int)))&&(gtd (false:Bool) c.2.2.2.1 (Int.toNat s))) (K (QcQ (w64 (z1+(YH c s))))) (K (QcQ z1)))))):Hold (QiD K c s k) :=
 Hold.of (by kernel_rfl) h
theorem Q2C (c:QC) (s:Int) (micro:Int) (h :
 (zif (((decide (((QK c.1 c.2.1 s).2)≤((QK c.1 c.2.1 s).1)))||(!(m_in micro (1:Int) (5:Int))))||(!(m_in (w64 (((c.2.1).length:Int)+(1:Int))) (1:Int) (4:Int)))) (K (QcQ (0:Int))) (zif (c.2.2.1==(2:Int)) (QiD K c s (if (w64 ((w64 (((c.2.1).length:Int)+(1:Int)))-s))<micro then (w64 ((w64 (((c.2.1).length:Int)+(1:Int)))-s)) else micro)) (QiD K c s micro)))):Hold (tawp QCF (0+0) Q0J (TQ 0 0 Qwh K) (Qf [(.a (Tup.cells Q0 c)),(.c TI s),(.c TI micro)])) :=
 Hold.of (by kernel_rfl) h
theorem Q1w (c:QC) (s:Int) (micro:Int):TCon Tryz.prog 78 [(.a (Tup.cells Q0 c)),(.c TI s),(.c TI micro)] (QcQ (Y1 c s micro)):=by
 refine Qo rfl fun hb=>tcg (n:=88) (sg:=Qjb.sg) Qj (TOk.cons Qke (TOk.cons Y9 (TOk.cons QML (TOk.cons QG7 TOk.nil)))) (by kernel_rfl) (by kernel_rfl) (Q2C _ c s micro ?_)
 have hl_c_0:(c.1).length≤9223372036854775807:=hb.1.1.1
 have hl_c_1:(c.2.1).length≤9223372036854775807:=hb.1.2.1.1
 have hl_c_3:(c.2.2.2.1).length≤9223372036854775807:=hb.1.2.2.2.1.1
 have hl_c_4:(c.2.2.2.2.1).length≤9223372036854775807:=hb.1.2.2.2.2.1.1
 have hl_c_5:(c.2.2.2.2.2).length≤9223372036854775807:=hb.1.2.2.2.2.2.1.1
 have hr:=Qdv c.1 c.2.1 s
 have hs:=QcW (c:=c)
 refine ⟨fun h=>R_eq ?_,fun h=>?_⟩
 ·unfold Y1
  rw [if_neg]
  intro h2
  simp only [Bool.and_eq_true,QV,decide_eq_true_eq] at h2
  have hc:=hs.2.2.1.1 (by omega)
  have hst:=hs.2.2.2 hc
  have:=hr.2.2.2.2 ⟨hc,by omega,by omega⟩
  rw [← hst] at h
  have e:=Qq (x:=QR c) (by omega) (by omega)
  rw [e] at h
  grind [m_in]
 ·have hlt:(QK c.1 c.2.1 s).1<(QK c.1 c.2.1 s).2:=by grind
  have hc:=hr.2.2.2.1 hlt
  have hst:=hs.2.2.2 hc.1
  have hz:Yx c s=((gtd dOp c.1 (QK c.1 c.2.1 s).1.toNat).2.1,(gtd dOp c.1 ((QK c.1 c.2.1 s).2.toNat-1)).2.2.1):=by
   unfold Yx;simp only [if_neg (Int.ne_of_lt hlt)]
  have e1:Int.toNat (w64 ((QK c.1 c.2.1 s).2-1))=(QK c.1 c.2.1 s).2.toNat-1∧(0:Int)≤w64 ((QK c.1 c.2.1 s).2-1):=by
   rw [Qq (by omega) (by omega)];omega
  have e2:w64 ((c.2.1.length:Int)+1)=QR c:=by rw [hst];exact Qq (by omega) (by omega)
  have e3:w64 (QR c-s)=QR c-s:=Qq (by omega) (by omega)
  have hred:Js c s=(decide (s<(c.2.2.2.1.length:Int))&&gtd false c.2.2.2.1 s.toNat):=by
   unfold Js;rw [decide_eq_true hc.2.1,Bool.true_and]
  rw [e2] at h ⊢
  have hin:(m_in s 0 (QR c-1)&&m_in micro 1 5&&decide (QR c≤4))=true:=by grind [m_in]
  have key:∀ k:Int,Y1 c s micro=w64 (w64 (w64 (k*JH c s)+iMax (Yx c s).1 (Yx c s).2)+if Js c s then YH c s else 0)→QiD (fun r'=>r'=QcQ (Y1 c s micro)) c s k:=by
   intro k hk
   refine (QUK (fun r'=>r'=QcQ (Y1 c s micro)) c s _ ⟨⟨⟨by omega,by omega⟩,e1.2,by rw [e1.1];omega⟩,fun h=>⟨by omega,by simp at h;omega⟩,fun h=>R_eq ?_,fun h=>R_eq ?_⟩).h
   ·rw [hk,hred,h,e1.1,hz];rfl
   ·rw [hk,hred,h,e1.1,hz];simp [QsC];rfl
  rw [e3]
  refine ⟨fun h1=>key _ ?_,fun h1=>key _ ?_⟩
  ·simp only [Y1,hin,if_true]
   simp at h1
   rw [if_pos h1];rfl
  ·simp only [Y1,hin,if_true]
   simp at h1
   rw [if_neg h1]
theorem QwD:Qg Tryz.prog Qjb:=Qk fun x _=>Q1w x.1 x.2.1 x.2.2.1
def QdF (t:Int):TRes:=zre (zci t)
def QqG:TRow:=Qh 54 [(.a Q0),(.c TI),(.c TI)] fun x=>(none,QdF (Y1 x.1 x.2.1 x.2.2.1))
def QwU:List TRow:=[QeE,Qf9,Qqb,Qhm,QjD]
def Qvi:TCode :=
 (zsq [(.reg [zLd 43 3 6,zmv 44 1,zca 45 127 [43,44],zmv 42 45,zex 46 42 0,zex 47 42 1,zmv 9 46,zmv 10 47]),(.reg [zmv 48 8,zLd 49 3 6,zmv 50 1,zca 51 128 [49,50],zbi 52 .mul 48 51,zmv 53 9,zmv 54 10,zop 55 (.mm true 53 54),zbi 56 .add 52 55,zmv 11 56]),(zsq [(.reg [zLd 57 3 6,zmv 58 1,zca 59 129 [57,58]]),(.cond 59 (.reg [zmv 60 11,zLd 61 3 6,zmv 62 1,zca 63 130 [61,62],zbi 64 .add 60 63,zmv 11 64]) .skip)]),(.reg [zmv 65 11,zmv 6 65]),.ret])
def QH5:List (Nat × Md):=[(1,.one .d),(3,.b (zds 6)),(8,.one .d)]
def QUL:TCode:=.wk QH5 Qvi
def QR8:TCode :=
 (zsq [(.reg [zop 3 (.box 30 0 6),zmv 6 (zki 0)]),(.reg [zLd 12 3 6,zca 13 59 [12],zmv 7 13]),(zsq [(.reg [zmv 14 1,zbi 15 .lss 14 (zki 0),zmv 16 15,.grp 16 false [zmv 17 1,zmv 18 7,zbi 19 .geq 17 18] 20 19,zmv 21 20,.grp 21 false [zmv 22 2,zbi 23 .lss 22 (zki 1)] 24 23,zmv 25 24,.grp 25 false [zmv 26 2,zbi 27 .gtr 26 (zki 5)] 28 27,zmv 29 28,.grp 29 false [zmv 30 7,zbi 31 .gtr 30 (zki 4)] 32 31]),(.cond 32 (zsq [(.reg [zmv 6 (zki 0)]),.ret]) .skip)]),(.reg [zmv 33 2,zmv 8 33]),(zsq [(.reg [zfa 34 3 2,zld 35 34 1,zbi 36 .eql 35 (zki 2)]),(.cond 36 (.reg [zmv 37 2,zmv 38 7,zmv 39 1,zbi 40 .sub 38 39,zop 41 (.mm false 37 40),zmv 8 41]) .skip)]),QUL])
def QuO:List (ARv × Md):=[(.t 6,.one .d)]
def QMZ:Qb:=TQ 0 0 QuO K
def Qiy (c:QC) (s:Int) (count:Int):Prop:=tawp QwU 0 Qvi (QMZ K) ⟨[(1,(zci s)),(3,(.p 0 0 0)),(8,(zci count))],[(0,(.box (Tup.cells Q0 c)))],1⟩
theorem QX5 (c:QC) (s:Int) (count:Int) (h :
 (zif (Js c s) (K (QdF (w64 ((w64 ((w64 (count*(JH c s)))+(if ((Yx c s).1)<((Yx c s).2) then ((Yx c s).2) else ((Yx c s).1))))+(YH c s))))) (K (QdF (w64 ((w64 (count*(JH c s)))+(if ((Yx c s).1)<((Yx c s).2) then ((Yx c s).2) else ((Yx c s).1)))))))):Hold (Qiy K c s count) :=
 Hold.of (by kernel_rfl) h
theorem QZT (c:QC) (s:Int) (micro:Int) (h :
 (zif (((((decide (s<(0:Int)))||(decide (s≥(QR c))))||(decide (micro<(1:Int))))||(decide (micro>(5:Int))))||(decide ((QR c)>(4:Int)))) (K (QdF (0:Int))) (zif (c.2.2.1==(2:Int)) (Qiy K c s (if (w64 ((QR c)-s))<micro then (w64 ((QR c)-s)) else micro)) (Qiy K c s micro)))):Hold (tawp QwU (0+0) QR8 (TQ 0 0 QuO K) (Qf [(.a (Tup.cells Q0 c)),(.c TI s),(.c TI micro)])) :=
 Hold.of (by kernel_rfl) h
theorem QMT (c:QC) (s:Int) (micro:Int):TCon Tryz.prog 54 [(.a (Tup.cells Q0 c)),(.c TI s),(.c TI micro)] (QdF (Y1 c s micro)):=by
 refine Qo rfl fun hb=>tcg (n:=66) (sg:=QqG.sg) Qj (TOk.cons QjO (TOk.cons QlD (TOk.cons QPt (TOk.cons QHd (TOk.cons QEn TOk.nil))))) (by kernel_rfl) (by kernel_rfl) (QZT _ c s micro ?_)
 have hl_c_0:(c.1).length≤9223372036854775807:=hb.1.1.1
 have hl_c_1:(c.2.1).length≤9223372036854775807:=hb.1.2.1.1
 have hl_c_3:(c.2.2.2.1).length≤9223372036854775807:=hb.1.2.2.2.1.1
 have hl_c_4:(c.2.2.2.2.1).length≤9223372036854775807:=hb.1.2.2.2.2.1.1
 have hl_c_5:(c.2.2.2.2.2).length≤9223372036854775807:=hb.1.2.2.2.2.2.1.1
 have hs:=QcW (c:=c)
 refine ⟨fun h=>R_eq (by unfold Y1;rw [if_neg];grind [m_in]),fun h=>?_⟩
 have hin:(m_in s 0 (QR c-1)&&m_in micro 1 5&&decide (QR c≤4))=true:=by grind [m_in]
 have hin2:=hin
 simp only [Bool.and_eq_true,QV,decide_eq_true_eq] at hin2
 have e3:w64 (QR c-s)=QR c-s:=Qq (by omega) (by omega)
 have key:∀ k:Int,Y1 c s micro=w64 (w64 (w64 (k*JH c s)+iMax (Yx c s).1 (Yx c s).2)+if Js c s then YH c s else 0)→Qiy (fun r'=>r'=QdF (Y1 c s micro)) c s k:=by
  intro k hk
  refine (QX5 (fun r'=>r'=QdF (Y1 c s micro)) c s _ ⟨fun h=>R_eq ?_,fun h=>R_eq ?_⟩).h
  ·rw [hk,h];rfl
  ·rw [hk,h];simp [QsC];rfl
 rw [e3]
 refine ⟨fun h1=>key _ ?_,fun h1=>key _ ?_⟩
 ·simp only [Y1,hin,if_true]
  simp at h1
  rw [if_pos h1];rfl
 ·simp only [Y1,hin,if_true]
  simp at h1
  rw [if_neg h1]
theorem QI5:Qg Tryz.prog QqG:=Qk fun x _=>QMT x.1 x.2.1 x.2.2.1
end
end Go.Proofs.YtjbdljkhbglnhaaGreat.Am

