/- -/
import Derived.Test.YtjbdljkhbglnhaaGreatZAP5
import Derived.Test.YtjbdljkhbglnhaaGreatZAP1
namespace Go.Proofs.YtjbdljkhbglnhaaGreat.Am
open Go Go.RowKit Go.Proofs.YtjbdljkhbglnhaaGreat
set_option linter.all false
set_option maxHeartbeats 2000000
noncomputable section
variable (K:TRes→Prop)
def Qiw (t:Int × Int):TRes:=zre (.tp [(zci t.1),(zci t.2)])
def Qfk:TRow:=Qj 127 [(.a QU),(.c TI)] fun x=>(none,Qiw (Z1 x.1 x.2.1))
def QHu:List TRow:=[QeZ]
def QOV:TCode :=
 (zsq [(.reg [zop 2 (.box 30 0 6),zmv 4 (zki 0),zmv 5 (zki 0)]),(.reg [zfa 9 2 0,zLd 10 9 1,zfa 11 2 1,zld 12 11 1,zmv 13 1,zca 14 71 [10,12,13],zmv 8 14,zex 15 8 0,zex 16 8 1,zmv 6 15,zmv 7 16]),(zsq [(.reg [zmv 17 6,zmv 18 7,zbi 19 .eql 17 18]),(.cond 19 (zsq [(.reg [zmv 4 (zki 0),zmv 5 (zki 0)]),.ret]) .skip)]),(.draw [zfa 20 2 0,zfa 21 20 0,zld 22 21 1,zmv 23 6,zia 24 22 23 ctOp,zfa 25 24 1,zld 26 25 1,zfa 27 2 0,zfa 28 27 0,zld 29 28 1,zmv 30 7,zbi 31 .sub 30 (zki 1),zia 32 29 31 ctOp,zfa 33 32 2,zld 34 33 1,zmv 4 26,zmv 5 34] []),.ret])
def QL3:List (ARv × Md):=[(.t 4,.one .d),(.t 5,.one .d)]
theorem QPS (c:Qo) (s:Int) (h :
 (zif (((Qr c.1 c.2.1 s).1)==((Qr c.1 c.2.1 s).2)) (K (Qiw ((0:Int),(0:Int)))) ((((0:Int)≤(Qr c.1 c.2.1 s).1∧Int.toNat ((Qr c.1 c.2.1 s).1)<(c.1).length)∧((0:Int)≤w64 (((Qr c.1 c.2.1 s).2)-(1:Int))∧Int.toNat (w64 (((Qr c.1 c.2.1 s).2)-(1:Int)))<(c.1).length))∧K (Qiw ((gtd dOp c.1 (Int.toNat ((Qr c.1 c.2.1 s).1))).2.1,(gtd dOp c.1 (Int.toNat (w64 (((Qr c.1 c.2.1 s).2)-(1:Int))))).2.2.1))))):Hold (tawp QHu (0+0) QOV (TQ 0 0 QL3 K) (Qf [(.a (Tup.cells QU c)),(.c TI s)])) :=
 Hold.of (by kernel_rfl) h
theorem QFs (c:Qo) (s:Int):TCon Tryz.prog 127 [(.a (Tup.cells QU c)),(.c TI s)] (Qiw (Z1 c s)):=by
 refine Qq rfl fun hb=>tcg (n:=35) (sg:=Qfk.sg) Ql (TOk.cons Qn5 TOk.nil) (by kernel_rfl) (by kernel_rfl) (QPS _ c s ?_)
 have hl_c_0:(c.1).length≤9223372036854775807:=hb.1.1.1
 have hl_c_1:(c.2.1).length≤9223372036854775807:=hb.1.2.1.1
 have hl_c_3:(c.2.2.2.1).length≤9223372036854775807:=hb.1.2.2.2.1.1
 have hl_c_4:(c.2.2.2.2.1).length≤9223372036854775807:=hb.1.2.2.2.2.1.1
 have hl_c_5:(c.2.2.2.2.2).length≤9223372036854775807:=hb.1.2.2.2.2.2.1.1
 have hr:=QdD c.1 c.2.1 s
 refine ⟨fun h=>R_eq (by simp at h;simp [Z1,h]),fun h=>?_⟩
 have hne:¬ (Qr c.1 c.2.1 s).1=(Qr c.1 c.2.1 s).2:=by simpa using h
 have e1:Int.toNat (w64 ((Qr c.1 c.2.1 s).2-1))=(Qr c.1 c.2.1 s).2.toNat-1∧(0:Int)≤w64 ((Qr c.1 c.2.1 s).2-1):=by
  rw [Qp (by omega) (by omega)];omega
 refine ⟨⟨⟨by omega,by omega⟩,e1.2,by rw [e1.1];omega⟩,R_eq ?_⟩
 rw [e1.1]
 simp [Z1,hne]
theorem Qkf:Qi Tryz.prog Qfk:=Qm fun x _=>QFs x.1 x.2.1
def Qkw (t:Bool):TRes:=zre (zcb t)
def Qgp:TRow:=Qj 129 [(.a QU),(.c TI)] fun x=>(none,Qkw (Jd x.1 x.2.1))
def QNs:List TRow:=[]
def QLr:TCode :=
 (zsq [(.reg [zop 2 (.box 30 0 6),zmv 4 (zkb false)]),(.reg [zmv 5 1,zbi 6 .geq 5 (zki 0),zmv 7 6,.grp 7 true [zmv 8 1,zfa 9 2 3,zld 10 9 1,zle 11 10,zbi 12 .lss 8 11] 13 12,zmv 14 13,.grp 14 true [zfa 15 2 3,zld 16 15 1,zmv 17 1,zia 18 16 17 [.bool],zld 19 18 1] 20 19,zmv 4 20]),.ret])
def QJe:List (ARv × Md):=[(.t 4,.one .d)]
theorem QOB (c:Qo) (s:Int) (h :
 ((((decide (s≥(0:Int)))&&(decide (s<((c.2.2.2.1).length:Int))))=true→((0:Int)≤s∧Int.toNat s<(c.2.2.2.1).length))∧K (Qkw (((decide (s≥(0:Int)))&&(decide (s<((c.2.2.2.1).length:Int))))&&(gtd (false:Bool) c.2.2.2.1 (Int.toNat s)))))):Hold (tawp QNs (0+0) QLr (TQ 0 0 QJe K) (Qf [(.a (Tup.cells QU c)),(.c TI s)])) :=
 Hold.of (by kernel_rfl) h
theorem QGq (c:Qo) (s:Int):TCon Tryz.prog 129 [(.a (Tup.cells QU c)),(.c TI s)] (Qkw (Jd c s)):=by
 refine Qq rfl fun hb=>tcg (n:=21) (sg:=Qgp.sg) Ql TOk.nil (by kernel_rfl) (by kernel_rfl) (QOB _ c s ?_)
 have hl_c_0:(c.1).length≤9223372036854775807:=hb.1.1.1
 have hl_c_1:(c.2.1).length≤9223372036854775807:=hb.1.2.1.1
 have hl_c_3:(c.2.2.2.1).length≤9223372036854775807:=hb.1.2.2.2.1.1
 have hl_c_4:(c.2.2.2.2.1).length≤9223372036854775807:=hb.1.2.2.2.2.1.1
 have hl_c_5:(c.2.2.2.2.2).length≤9223372036854775807:=hb.1.2.2.2.2.2.1.1
 refine ⟨fun h=>by simp at h;omega,R_eq (by simp [Jd])⟩
theorem Qsr:Qi Tryz.prog Qgp:=Qm fun x _=>QGq x.1 x.2.1
def Qck (t:Int):TRes:=zre (zci t)
def QhL:TRow:=Qj 156 [(.a QU),(.c TI)] fun x=>(none,Qck (Yj x.1 x.2.1))
def QlK:List TRow:=[Qff]
def QAc:TCode :=
 (zsq [(zsq [(.reg [zmv 19 8,zmv 20 6,zbi 21 .lss 19 20]),(.cond 21 .skip (.exit 0))]),(.block 1 (.reg [zmv 24 7,zfa 25 2 0,zfa 26 25 0,zld 27 26 1,zmv 28 8,zia 29 27 28 ctOp,zfa 30 29 1,zld 31 30 1,zbi 32 .add 24 31,zmv 7 32])),(.reg [zmv 22 8,zbi 23 .add 22 (zki 1),zmv 8 23])])
def QzY:List (Nat × Md):=[(2,.b (zds 6)),(5,.one .d),(6,.one .d),(7,.one .d),(8,.one .d)]
def Qtf:TCode :=
 (zsq [(zsq [(.reg [zmv 33 6,zmv 34 5,zbi 35 .gtr 33 34]),(.cond 35 (.reg [zmv 36 7,zfa 37 2 0,zfa 38 37 0,zld 39 38 1,zmv 40 6,zbi 41 .sub 40 (zki 1),zia 42 39 41 ctOp,zfa 43 42 2,zld 44 43 1,zbi 45 .add 36 44,zmv 7 45]) .skip)]),(.reg [zmv 46 7,zmv 4 46]),.ret])
def QOq:TCode :=
 (zsq [(.reg [zop 2 (.box 30 0 6),zmv 4 (zki 0)]),(.reg [zfa 10 2 0,zLd 11 10 1,zfa 12 2 1,zld 13 12 1,zmv 14 1,zca 15 93 [11,13,14],zmv 9 15,zex 16 9 0,zex 17 9 1,zmv 5 16,zmv 6 17]),(.reg [zmv 7 (zki 0)]),(zsq [(.reg [zmv 18 5,zmv 8 18]),(.block 0 (.loop QzY QAc))]),Qtf])
def QpO:List (ARv × Md):=[(.t 4,.one .d)]
def QoU:Qb:=TQ 0 0 QpO K
def QBU:Qb:=Qseq (tawp QlK 0 Qtf (QoU K)) (QoU K)
def QQO:Qb:=Qblk 0 (QBU K)
def QhZ (c:Qo) (s:Int) (n:Int) (i:Int):Prop:=Loop QlK 0 QzY QAc (QQO K) ⟨[(2,(.p 0 0 0)),(5,(zci ((Qr c.1 c.2.1 s).1))),(6,(zci ((Qr c.1 c.2.1 s).2))),(7,(zci n)),(8,(zci i))],[(0,(.box (Tup.cells QU c)))],1⟩
theorem Qw5 (c:Qo) (s:Int) (n:Int) (i:Int) (h :
 (zif (decide (i<((Qr c.1 c.2.1 s).2))) (((0:Int)≤i∧Int.toNat i<(c.1).length)∧(QhZ K c s (w64 (n+((gtd dOp c.1 (Int.toNat i)).2.1))) (w64 (i+(1:Int))))) (zif (decide (((Qr c.1 c.2.1 s).2)>((Qr c.1 c.2.1 s).1))) (((0:Int)≤w64 (((Qr c.1 c.2.1 s).2)-(1:Int))∧Int.toNat (w64 (((Qr c.1 c.2.1 s).2)-(1:Int)))<(c.1).length)∧K (Qck (w64 (n+((gtd dOp c.1 (Int.toNat (w64 (((Qr c.1 c.2.1 s).2)-(1:Int))))).2.2.1))))) (K (Qck n))))):QhZ K c s n i :=
 Loop.of (by kernel_rfl) h
theorem QJM (c:Qo) (s:Int) (h :
 (QhZ K c s 0 ((Qr c.1 c.2.1 s).1))):Hold (tawp QlK (0+0) QOq (TQ 0 0 QpO K) (Qf [(.a (Tup.cells QU c)),(.c TI s)])) :=
 Hold.of (by kernel_rfl) h
theorem QG0 (c:Qo) (s:Int):TCon Tryz.prog 156 [(.a (Tup.cells QU c)),(.c TI s)] (Qck (Yj c s)):=by
 refine Qq rfl fun hb=>tcg (n:=47) (sg:=QhL.sg) Ql (TOk.cons Qka TOk.nil) (by kernel_rfl) (by kernel_rfl) (QJM _ c s ?_)
 have hl_c_0:(c.1).length≤9223372036854775807:=hb.1.1.1
 have hl_c_1:(c.2.1).length≤9223372036854775807:=hb.1.2.1.1
 have hl_c_3:(c.2.2.2.1).length≤9223372036854775807:=hb.1.2.2.2.1.1
 have hl_c_4:(c.2.2.2.2.1).length≤9223372036854775807:=hb.1.2.2.2.2.1.1
 have hl_c_5:(c.2.2.2.2.2).length≤9223372036854775807:=hb.1.2.2.2.2.2.1.1
 have hr:=QdD c.1 c.2.1 s
 generalize hz:(if (Qr c.1 c.2.1 s).1<(Qr c.1 c.2.1 s).2 then (gtd dOp c.1 ((Qr c.1 c.2.1 s).2.toNat-1)).2.2.1 else 0)=z
 have:=Qm7 c.1 _ _ hr.1 hr.2.1 hr.2.2.1 (fun r k=>∀ y:Int,w64 (y+(r.map fun o=>o.2.1).sum+z)=(Yj c s)→QhZ (fun r'=>r'=Qck (Yj c s)) c s (w64 y) k) ?_ ?_ 0 (by simp [Yj,hz])
 ·rw [show (((Qr c.1 c.2.1 s).1.toNat:Nat):Int)=(Qr c.1 c.2.1 s).1 by omega] at this
  exact this
 ·intro y he
  refine Qw5 (fun r'=>r'=Qck (Yj c s)) c s _ _ ⟨fun h=>by simp at h;omega,fun _=>⟨fun h=>?_,fun h=>R_eq ?_⟩⟩
  ·have hlt:(Qr c.1 c.2.1 s).1<(Qr c.1 c.2.1 s).2:=by simpa using h
   have e1:Int.toNat (w64 ((Qr c.1 c.2.1 s).2-1))=(Qr c.1 c.2.1 s).2.toNat-1∧(0:Int)≤w64 ((Qr c.1 c.2.1 s).2-1):=by
    rw [Qp (by omega) (by omega)];omega
   refine ⟨⟨e1.2,by rw [e1.1];omega⟩,R_eq ?_⟩
   rw [if_pos hlt] at hz
   rw [e1.1,Yy,← he,← hz]
   simp
  ·rw [if_neg (by simpa using h)] at hz
   rw [← he,← hz]
   simp
 ·intro k x r h1 h2 hlt hg ih y he
  refine Qw5 (fun r'=>r'=Qck (Yj c s)) c s _ _ ⟨fun _=>?_,fun h=>by simp at h;omega⟩
  rw [Int.toNat_natCast,hg,Qp (x:=(k:Int)+1) (by omega) (by omega),Yy]
  refine ⟨⟨by omega,hlt⟩,ih _ ?_⟩
  rw [← he,List.map_cons,List.sum_cons]
  congr 1
  omega
theorem Qwm:Qi Tryz.prog QhL:=Qm fun x _=>QG0 x.1 x.2.1
def Qd6 (t:Int):TRes:=zre (zci t)
def QgT:TRow:=Qj 130 [(.a QU),(.c TI)] fun x=>(none,Qd6 (Yj x.1 x.2.1))
def Qkh:List TRow:=[QeZ,Qfk]
def QwL:TCode :=
 (zsq [(zsq [(.reg [zmv 26 9,zmv 27 6,zbi 28 .lss 26 27]),(.cond 28 .skip (.exit 0))]),(.block 1 (.reg [zmv 31 8,zfa 32 2 0,zfa 33 32 0,zld 34 33 1,zmv 35 9,zia 36 34 35 ctOp,zfa 37 36 1,zld 38 37 1,zbi 39 .add 31 38,zmv 8 39])),(.reg [zmv 29 9,zbi 30 .add 29 (zki 1),zmv 9 30])])
def Qtq:List (Nat × Md):=[(2,.b (zds 6)),(6,.one .d),(8,.one .d),(9,.one .d)]
def Qv5:TCode :=
 (zsq [(.reg [zmv 40 8,zmv 4 40]),.ret])
def QOH:TCode :=
 (zsq [(.reg [zop 2 (.box 30 0 6),zmv 4 (zki 0)]),(.reg [zfa 11 2 0,zLd 12 11 1,zfa 13 2 1,zld 14 13 1,zmv 15 1,zca 16 71 [12,14,15],zmv 10 16,zex 17 10 0,zex 18 10 1,zmv 5 17,zmv 6 18]),(.reg [zLd 20 2 6,zmv 21 1,zca 22 127 [20,21],zmv 19 22,zex 23 19 0,zex 24 19 1,zmv 7 23,zmv 8 24]),(zsq [(.reg [zmv 25 5,zmv 9 25]),(.block 0 (.loop Qtq QwL))]),Qv5])
def Qwz:List (ARv × Md):=[(.t 4,.one .d)]
def Qxx:Qb:=TQ 0 0 Qwz K
def QOj:Qb:=Qseq (tawp Qkh 0 Qv5 (Qxx K)) (Qxx K)
def QMx:Qb:=Qblk 0 (QOj K)
def QhS (c:Qo) (s:Int) (n:Int) (i:Int):Prop:=Loop Qkh 0 Qtq QwL (QMx K) ⟨[(2,(.p 0 0 0)),(6,(zci ((Qr c.1 c.2.1 s).2))),(8,(zci n)),(9,(zci i))],[(0,(.box (Tup.cells QU c)))],1⟩
theorem Qy6 (c:Qo) (s:Int) (n:Int) (i:Int) (h :
 (zif (decide (i<((Qr c.1 c.2.1 s).2))) (((0:Int)≤i∧Int.toNat i<(c.1).length)∧(QhS K c s (w64 (n+((gtd dOp c.1 (Int.toNat i)).2.1))) (w64 (i+(1:Int))))) (K (Qd6 n)))):QhS K c s n i :=
 Loop.of (by kernel_rfl) h
theorem QBX (c:Qo) (s:Int) (h :
 (QhS K c s ((Z1 c s).2) ((Qr c.1 c.2.1 s).1))):Hold (tawp Qkh (0+0) QOH (TQ 0 0 Qwz K) (Qf [(.a (Tup.cells QU c)),(.c TI s)])) :=
 Hold.of (by kernel_rfl) h
theorem QMe (c:Qo) (s:Int):TCon Tryz.prog 130 [(.a (Tup.cells QU c)),(.c TI s)] (Qd6 (Yj c s)):=by
 refine Qq rfl fun hb=>tcg (n:=41) (sg:=QgT.sg) Ql (TOk.cons Qn5 (TOk.cons Qkf TOk.nil)) (by kernel_rfl) (by kernel_rfl) (QBX _ c s ?_)
 have hl_c_0:(c.1).length≤9223372036854775807:=hb.1.1.1
 have hl_c_1:(c.2.1).length≤9223372036854775807:=hb.1.2.1.1
 have hl_c_3:(c.2.2.2.1).length≤9223372036854775807:=hb.1.2.2.2.1.1
 have hl_c_4:(c.2.2.2.2.1).length≤9223372036854775807:=hb.1.2.2.2.2.1.1
 have hl_c_5:(c.2.2.2.2.2).length≤9223372036854775807:=hb.1.2.2.2.2.2.1.1
 have hr:=QdD c.1 c.2.1 s
 generalize hz:(if (Qr c.1 c.2.1 s).1<(Qr c.1 c.2.1 s).2 then (gtd dOp c.1 ((Qr c.1 c.2.1 s).2.toNat-1)).2.2.1 else 0)=z
 have ez:(Z1 c s).2=z:=by
  rw [← hz]
  unfold Z1
  by_cases h:(Qr c.1 c.2.1 s).1=(Qr c.1 c.2.1 s).2
  ·simp [h]
  ·simp only [if_neg h];rw [if_pos (by omega)]
 have hzm:0≤z∧z≤6:=by
  rw [← hz]
  split
  ·rename_i h
   have hc:=(hr.2.2.2.1 h).1
   simp only [Q7,QM,Bool.and_eq_true] at hc
   have:=QcB (QgG hc.1.2 _ _ (Jq (i:=(Qr c.1 c.2.1 s).2.toNat-1) (by omega) dOp)).1
   omega
  ·omega
 have:=Qm7 c.1 _ _ hr.1 hr.2.1 hr.2.2.1 (fun r k=>∀ y:Int,w64 (y+(r.map fun o=>o.2.1).sum)=(Yj c s)→QhS (fun r'=>r'=Qd6 (Yj c s)) c s (w64 y) k) ?_ ?_ z (by simp only [Yj,hz];rw [Int.add_comm])
 ·rw [show (((Qr c.1 c.2.1 s).1.toNat:Nat):Int)=(Qr c.1 c.2.1 s).1 by omega,Qp (x:=z) (by omega) (by omega),← ez] at this
  exact this
 ·intro y he
  refine Qy6 (fun r'=>r'=Qd6 (Yj c s)) c s _ _ ⟨fun h=>by simp at h;omega,fun _=>R_eq ?_⟩
  simpa using he
 ·intro k x r h1 h2 hlt hg ih y he
  refine Qy6 (fun r'=>r'=Qd6 (Yj c s)) c s _ _ ⟨fun _=>?_,fun h=>by simp at h;omega⟩
  rw [Int.toNat_natCast,hg,Qp (x:=(k:Int)+1) (by omega) (by omega),Yy]
  refine ⟨⟨by omega,hlt⟩,ih _ ?_⟩
  rw [← he,List.map_cons,List.sum_cons,Int.add_assoc]
theorem Quo:Qi Tryz.prog QgT:=Qm fun x _=>QMe x.1 x.2.1
def QgL (t:Int):TRes:=zre (zci t)
def Qnj:TRow:=Qj 128 [(.a QU),(.c TI)] fun x=>(none,QgL (Jo x.1 x.2.1))
def QEi:List TRow:=[Qgp,Qfk,QgT]
def QHQ:TCode :=
 (zsq [(.reg [zop 2 (.box 30 0 6),zmv 4 (zki 0)]),(zsq [(.reg [zLd 7 2 6,zmv 8 1,zca 9 129 [7,8]]),(.cond 9 (zsq [(.reg [zLd 11 2 6,zmv 12 1,zca 13 127 [11,12],zmv 10 13,zex 14 10 0,zex 15 10 1,zmv 5 14,zmv 6 15]),(.reg [zmv 16 5,zmv 4 16]),.ret]) .skip)]),(.reg [zLd 17 2 6,zmv 18 1,zca 19 130 [17,18],zmv 4 19]),.ret])
def QIG:List (ARv × Md):=[(.t 4,.one .d)]
theorem QCd (c:Qo) (s:Int) (h :
 (zif (Jd c s) (K (QgL ((Z1 c s).1))) (K (QgL (Yj c s))))):Hold (tawp QEi (0+0) QHQ (TQ 0 0 QIG K) (Qf [(.a (Tup.cells QU c)),(.c TI s)])) :=
 Hold.of (by kernel_rfl) h
theorem QKQ (c:Qo) (s:Int):TCon Tryz.prog 128 [(.a (Tup.cells QU c)),(.c TI s)] (QgL (Jo c s)):=by
 refine Qq rfl fun hb=>tcg (n:=20) (sg:=Qnj.sg) Ql (TOk.cons Qsr (TOk.cons Qkf (TOk.cons Quo TOk.nil))) (by kernel_rfl) (by kernel_rfl) (QCd _ c s ?_)
 have hl_c_0:(c.1).length≤9223372036854775807:=hb.1.1.1
 have hl_c_1:(c.2.1).length≤9223372036854775807:=hb.1.2.1.1
 have hl_c_3:(c.2.2.2.1).length≤9223372036854775807:=hb.1.2.2.2.1.1
 have hl_c_4:(c.2.2.2.2.1).length≤9223372036854775807:=hb.1.2.2.2.2.1.1
 have hl_c_5:(c.2.2.2.2.2).length≤9223372036854775807:=hb.1.2.2.2.2.2.1.1
 refine ⟨fun h=>R_eq (by simp [Jo,h]),fun h=>R_eq (by simp [Jo,h])⟩
theorem QPO:Qi Tryz.prog Qnj:=Qm fun x _=>QKQ x.1 x.2.1
def QhC (t:Int):TRes:=zre (zci t)
def QjQ:TRow:=Qj 155 [(.a QU),(.c TI)] fun x=>(none,QhC (Jo x.1 x.2.1))
def QOW:List TRow:=[Qff,QhL]
def QDw:TCode :=
 (zsq [(.reg [zop 2 (.box 30 0 6),zmv 4 (zki 0)]),(.reg [zfa 8 2 0,zLd 9 8 1,zfa 10 2 1,zld 11 10 1,zmv 12 1,zca 13 93 [9,11,12],zmv 7 13,zex 14 7 0,zex 15 7 1,zmv 5 14,zmv 6 15]),(zsq [(.reg [zmv 16 6,zmv 17 5,zbi 18 .gtr 16 17,zmv 19 18,.grp 19 true [zmv 20 1,zfa 21 2 3,zld 22 21 1,zle 23 22,zbi 24 .lss 20 23] 25 24,zmv 26 25,.grp 26 true [zfa 27 2 3,zld 28 27 1,zmv 29 1,zia 30 28 29 [.bool],zld 31 30 1] 32 31]),(.cond 32 (zsq [(.reg [zfa 33 2 0,zfa 34 33 0,zld 35 34 1,zmv 36 5,zia 37 35 36 ctOp,zfa 38 37 1,zld 39 38 1,zmv 4 39]),.ret]) .skip)]),(.reg [zLd 40 2 6,zmv 41 1,zca 42 156 [40,41],zmv 4 42]),.ret])
def QD8:List (ARv × Md):=[(.t 4,.one .d)]
theorem QQC (c:Qo) (s:Int) (h :
 ((((decide (((Qr c.1 c.2.1 s).2)>((Qr c.1 c.2.1 s).1)))&&(decide (s<((c.2.2.2.1).length:Int))))=true→((0:Int)≤s∧Int.toNat s<(c.2.2.2.1).length))∧(zif (((decide (((Qr c.1 c.2.1 s).2)>((Qr c.1 c.2.1 s).1)))&&(decide (s<((c.2.2.2.1).length:Int))))&&(gtd (false:Bool) c.2.2.2.1 (Int.toNat s))) (((0:Int)≤(Qr c.1 c.2.1 s).1∧Int.toNat ((Qr c.1 c.2.1 s).1)<(c.1).length)∧K (QhC ((gtd dOp c.1 (Int.toNat ((Qr c.1 c.2.1 s).1))).2.1))) (K (QhC (Yj c s)))))):Hold (tawp QOW (0+0) QDw (TQ 0 0 QD8 K) (Qf [(.a (Tup.cells QU c)),(.c TI s)])) :=
 Hold.of (by kernel_rfl) h
theorem QJB (c:Qo) (s:Int):TCon Tryz.prog 155 [(.a (Tup.cells QU c)),(.c TI s)] (QhC (Jo c s)):=by
 refine Qq rfl fun hb=>tcg (n:=43) (sg:=QjQ.sg) Ql (TOk.cons Qka (TOk.cons Qwm TOk.nil)) (by kernel_rfl) (by kernel_rfl) (QQC _ c s ?_)
 have hl_c_0:(c.1).length≤9223372036854775807:=hb.1.1.1
 have hl_c_1:(c.2.1).length≤9223372036854775807:=hb.1.2.1.1
 have hl_c_3:(c.2.2.2.1).length≤9223372036854775807:=hb.1.2.2.2.1.1
 have hl_c_4:(c.2.2.2.2.1).length≤9223372036854775807:=hb.1.2.2.2.2.1.1
 have hl_c_5:(c.2.2.2.2.2).length≤9223372036854775807:=hb.1.2.2.2.2.2.1.1
 have hr:=QdD c.1 c.2.1 s
 refine ⟨fun h=>?_,fun h=>⟨⟨by omega,?_⟩,R_eq ?_⟩,fun h=>R_eq ?_⟩
 ·simp at h
  have:=hr.2.2.2.1 h.1
  omega
 ·simp at h;omega
 ·simp at h
  have h1:=hr.2.2.2.1 h.1.1
  have e1:Jd c s=true:=by simp [Jd,h];omega
  simp [Jo,e1,Z1,Int.ne_of_lt h.1.1]
 ·by_cases e1:Jd c s=true
  ·simp only [Jd,Bool.and_eq_true,decide_eq_true_eq] at e1
   have hn:¬ (Qr c.1 c.2.1 s).1<(Qr c.1 c.2.1 s).2:=by
    intro hlt
    simp [hlt,e1] at h
   have e2:(Qr c.1 c.2.1 s).1=(Qr c.1 c.2.1 s).2:=by omega
   simp [Jo,Jd,e1,Z1,e2,Yj,slice,Qhq]
  ·simp [Jo,e1]
theorem QGU:Qi Tryz.prog QjQ:=Qm fun x _=>QJB x.1 x.2.1
def QcK (t:Int):TRes:=zre (zci t)
def Qiv:TRow:=Qj 78 [(.a QU),(.c TI),(.c TI)] fun x=>(none,QcK (YI x.1 x.2.1 x.2.2.1))
def QsX:List TRow:=[Qff,JH,QjQ,QhL]
def Qut:TCode :=
 (zsq [(.draw [zmv 48 9,zLd 49 3 6,zmv 50 1,zca 51 155 [49,50],zbi 52 .mul 48 51,zfa 53 3 0,zfa 54 53 0,zld 55 54 1,zmv 56 7,zia 57 55 56 ctOp,zfa 58 57 1,zld 59 58 1,zfa 60 3 0,zfa 61 60 0,zld 62 61 1,zmv 63 8,zbi 64 .sub 63 (zki 1),zia 65 62 64 ctOp,zfa 66 65 2,zld 67 66 1,zop 68 (.mm true 59 67),zbi 69 .add 52 68,zmv 10 69] [(3,5),(3,6),(3,7),(3,9),(3,10),(3,11),(3,12),(3,13),(3,14),(3,17),(3,18),(3,19)]),(zsq [(.reg [zmv 70 1,zfa 71 3 3,zld 72 71 1,zle 73 72,zbi 74 .lss 70 73,zmv 75 74,.grp 75 true [zfa 76 3 3,zld 77 76 1,zmv 78 1,zia 79 77 78 [.bool],zld 80 79 1] 81 80]),(.cond 81 (.reg [zmv 82 10,zLd 83 3 6,zmv 84 1,zca 85 156 [83,84],zbi 86 .add 82 85,zmv 10 86]) .skip)]),(.reg [zmv 87 10,zmv 6 87]),.ret])
def QRB:List (Nat × Md):=[(1,.one .d),(3,.b (zds 6)),(7,.one .d),(8,.one .d),(9,.one .d)]
def QG1:TCode:=.wk QRB Qut
def QMv:TCode :=
 (zsq [(.reg [zop 3 (.box 30 0 6),zmv 6 (zki 0)]),(.reg [zfa 12 3 0,zLd 13 12 1,zfa 14 3 1,zld 15 14 1,zmv 16 1,zca 17 93 [13,15,16],zmv 11 17,zex 18 11 0,zex 19 11 1,zmv 7 18,zmv 8 19]),(zsq [(.reg [zmv 20 8,zmv 21 7,zbi 22 .leq 20 21,zmv 23 22,.grp 23 false [zmv 24 2,zca 25 77 [24,(zki 1),(zki 5)],zno 26 25] 27 26,zmv 28 27,.grp 28 false [zfa 29 3 1,zld 30 29 1,zle 31 30,zbi 32 .add 31 (zki 1),zca 33 77 [32,(zki 1),(zki 4)],zno 34 33] 35 34]),(.cond 35 (zsq [(.reg [zmv 6 (zki 0)]),.ret]) .skip)]),(.reg [zmv 36 2,zmv 9 36]),(zsq [(.reg [zfa 37 3 2,zld 38 37 1,zbi 39 .eql 38 (zki 2)]),(.cond 39 (.reg [zmv 40 2,zfa 41 3 1,zld 42 41 1,zle 43 42,zbi 44 .add 43 (zki 1),zmv 45 1,zbi 46 .sub 44 45,zop 47 (.mm false 40 46),zmv 9 47]) .skip)]),QG1])
def Qzz:List (ARv × Md):=[(.t 6,.one .d)]
def QKm:Qb:=TQ 0 0 Qzz K
def Qh1 (c:Qo) (s:Int) (k:Int):Prop:=tawp QsX 0 Qut (QKm K) ⟨[(1,(zci s)),(3,(.p 0 0 0)),(7,(zci ((Qr c.1 c.2.1 s).1))),(8,(zci ((Qr c.1 c.2.1 s).2))),(9,(zci k))],[(0,(.box (Tup.cells QU c)))],1⟩
theorem QJp (c:Qo) (s:Int) (k:Int) (h :
 let z2:=Qr c.1 c.2.1 s
 let z3:=gtd dOp c.1 (Int.toNat (w64 ((z2.2)-(1:Int))))
 let z1:=w64 ((w64 (k*(Jo c s)))+(if ((gtd dOp c.1 (Int.toNat (z2.1))).2.1)<(z3.2.2.1) then (z3.2.2.1) else ((gtd dOp c.1 (Int.toNat (z2.1))).2.1)))
 ((((0:Int)≤z2.1∧Int.toNat (z2.1)<(c.1).length)∧((0:Int)≤w64 ((z2.2)-(1:Int))∧Int.toNat (w64 ((z2.2)-(1:Int)))<(c.1).length))∧(((decide (s<((c.2.2.2.1).length:Int)))=true→((0:Int)≤s∧Int.toNat s<(c.2.2.2.1).length))∧(zif ((decide (s<((c.2.2.2.1).length:Int)))&&(gtd (false:Bool) c.2.2.2.1 (Int.toNat s))) (K (QcK (w64 (z1+(Yj c s))))) (K (QcK z1)))))):Hold (Qh1 K c s k) :=
 Hold.of (by kernel_rfl) h
theorem QHx (c:Qo) (s:Int) (micro:Int) (h :
 (zif (((decide (((Qr c.1 c.2.1 s).2)≤((Qr c.1 c.2.1 s).1)))||(!(m_in micro (1:Int) (5:Int))))||(!(m_in (w64 (((c.2.1).length:Int)+(1:Int))) (1:Int) (4:Int)))) (K (QcK (0:Int))) (zif (c.2.2.1==(2:Int)) (Qh1 K c s (if (w64 ((w64 (((c.2.1).length:Int)+(1:Int)))-s))<micro then (w64 ((w64 (((c.2.1).length:Int)+(1:Int)))-s)) else micro)) (Qh1 K c s micro)))):Hold (tawp QsX (0+0) QMv (TQ 0 0 Qzz K) (Qf [(.a (Tup.cells QU c)),(.c TI s),(.c TI micro)])) :=
 Hold.of (by kernel_rfl) h
theorem QH7 (c:Qo) (s:Int) (micro:Int):TCon Tryz.prog 78 [(.a (Tup.cells QU c)),(.c TI s),(.c TI micro)] (QcK (YI c s micro)):=by
 refine Qq rfl fun hb=>tcg (n:=88) (sg:=Qiv.sg) Ql (TOk.cons Qka (TOk.cons Qac (TOk.cons QGU (TOk.cons Qwm TOk.nil)))) (by kernel_rfl) (by kernel_rfl) (QHx _ c s micro ?_)
 have hl_c_0:(c.1).length≤9223372036854775807:=hb.1.1.1
 have hl_c_1:(c.2.1).length≤9223372036854775807:=hb.1.2.1.1
 have hl_c_3:(c.2.2.2.1).length≤9223372036854775807:=hb.1.2.2.2.1.1
 have hl_c_4:(c.2.2.2.2.1).length≤9223372036854775807:=hb.1.2.2.2.2.1.1
 have hl_c_5:(c.2.2.2.2.2).length≤9223372036854775807:=hb.1.2.2.2.2.2.1.1
 have hr:=QdD c.1 c.2.1 s
 have hs:=QbK (c:=c)
 refine ⟨fun h=>R_eq ?_,fun h=>?_⟩
 ·unfold YI
  rw [if_neg]
  intro h2
  simp only [Bool.and_eq_true,QR,decide_eq_true_eq] at h2
  have hc:=hs.2.2.1.1 (by omega)
  have hst:=hs.2.2.2 hc
  have:=hr.2.2.2.2 ⟨hc,by omega,by omega⟩
  rw [← hst] at h
  have e:=Qp (x:=QK c) (by omega) (by omega)
  rw [e] at h
  grind [m_in]
 ·have hlt:(Qr c.1 c.2.1 s).1<(Qr c.1 c.2.1 s).2:=by grind
  have hc:=hr.2.2.2.1 hlt
  have hst:=hs.2.2.2 hc.1
  have hz:Z1 c s=((gtd dOp c.1 (Qr c.1 c.2.1 s).1.toNat).2.1,(gtd dOp c.1 ((Qr c.1 c.2.1 s).2.toNat-1)).2.2.1):=by
   unfold Z1;simp only [if_neg (Int.ne_of_lt hlt)]
  have e1:Int.toNat (w64 ((Qr c.1 c.2.1 s).2-1))=(Qr c.1 c.2.1 s).2.toNat-1∧(0:Int)≤w64 ((Qr c.1 c.2.1 s).2-1):=by
   rw [Qp (by omega) (by omega)];omega
  have e2:w64 ((c.2.1.length:Int)+1)=QK c:=by rw [hst];exact Qp (by omega) (by omega)
  have e3:w64 (QK c-s)=QK c-s:=Qp (by omega) (by omega)
  have hred:Jd c s=(decide (s<(c.2.2.2.1.length:Int))&&gtd false c.2.2.2.1 s.toNat):=by
   unfold Jd;rw [decide_eq_true hc.2.1,Bool.true_and]
  rw [e2] at h ⊢
  have hin:(m_in s 0 (QK c-1)&&m_in micro 1 5&&decide (QK c≤4))=true:=by grind [m_in]
  have key:∀ k:Int,YI c s micro=w64 (w64 (w64 (k*Jo c s)+iMax (Z1 c s).1 (Z1 c s).2)+if Jd c s then Yj c s else 0)→Qh1 (fun r'=>r'=QcK (YI c s micro)) c s k:=by
   intro k hk
   refine (QJp (fun r'=>r'=QcK (YI c s micro)) c s _ ⟨⟨⟨by omega,by omega⟩,e1.2,by rw [e1.1];omega⟩,fun h=>⟨by omega,by simp at h;omega⟩,fun h=>R_eq ?_,fun h=>R_eq ?_⟩).h
   ·rw [hk,hred,h,e1.1,hz];rfl
   ·rw [hk,hred,h,e1.1,hz];simp [Qse];rfl
  rw [e3]
  refine ⟨fun h1=>key _ ?_,fun h1=>key _ ?_⟩
  ·simp only [YI,hin,if_true]
   simp at h1
   rw [if_pos h1];rfl
  ·simp only [YI,hin,if_true]
   simp at h1
   rw [if_neg h1]
theorem QwK:Qi Tryz.prog Qiv:=Qm fun x _=>QH7 x.1 x.2.1 x.2.2.1
def QcJ (t:Int):TRes:=zre (zci t)
def Qm5:TRow:=Qj 54 [(.a QU),(.c TI),(.c TI)] fun x=>(none,QcJ (YI x.1 x.2.1 x.2.2.1))
def Qx6:List TRow:=[Qcj,Qfk,Qnj,Qgp,QgT]
def QuM:TCode :=
 (zsq [(.reg [zLd 43 3 6,zmv 44 1,zca 45 127 [43,44],zmv 42 45,zex 46 42 0,zex 47 42 1,zmv 9 46,zmv 10 47]),(.reg [zmv 48 8,zLd 49 3 6,zmv 50 1,zca 51 128 [49,50],zbi 52 .mul 48 51,zmv 53 9,zmv 54 10,zop 55 (.mm true 53 54),zbi 56 .add 52 55,zmv 11 56]),(zsq [(.reg [zLd 57 3 6,zmv 58 1,zca 59 129 [57,58]]),(.cond 59 (.reg [zmv 60 11,zLd 61 3 6,zmv 62 1,zca 63 130 [61,62],zbi 64 .add 60 63,zmv 11 64]) .skip)]),(.reg [zmv 65 11,zmv 6 65]),.ret])
def QHo:List (Nat × Md):=[(1,.one .d),(3,.b (zds 6)),(8,.one .d)]
def QEq:TCode:=.wk QHo QuM
def QGN:TCode :=
 (zsq [(.reg [zop 3 (.box 30 0 6),zmv 6 (zki 0)]),(.reg [zLd 12 3 6,zca 13 59 [12],zmv 7 13]),(zsq [(.reg [zmv 14 1,zbi 15 .lss 14 (zki 0),zmv 16 15,.grp 16 false [zmv 17 1,zmv 18 7,zbi 19 .geq 17 18] 20 19,zmv 21 20,.grp 21 false [zmv 22 2,zbi 23 .lss 22 (zki 1)] 24 23,zmv 25 24,.grp 25 false [zmv 26 2,zbi 27 .gtr 26 (zki 5)] 28 27,zmv 29 28,.grp 29 false [zmv 30 7,zbi 31 .gtr 30 (zki 4)] 32 31]),(.cond 32 (zsq [(.reg [zmv 6 (zki 0)]),.ret]) .skip)]),(.reg [zmv 33 2,zmv 8 33]),(zsq [(.reg [zfa 34 3 2,zld 35 34 1,zbi 36 .eql 35 (zki 2)]),(.cond 36 (.reg [zmv 37 2,zmv 38 7,zmv 39 1,zbi 40 .sub 38 39,zop 41 (.mm false 37 40),zmv 8 41]) .skip)]),QEq])
def QuO:List (ARv × Md):=[(.t 6,.one .d)]
def QGk:Qb:=TQ 0 0 QuO K
def Qhy (c:Qo) (s:Int) (count:Int):Prop:=tawp Qx6 0 QuM (QGk K) ⟨[(1,(zci s)),(3,(.p 0 0 0)),(8,(zci count))],[(0,(.box (Tup.cells QU c)))],1⟩
theorem QEb (c:Qo) (s:Int) (count:Int) (h :
 (zif (Jd c s) (K (QcJ (w64 ((w64 ((w64 (count*(Jo c s)))+(if ((Z1 c s).1)<((Z1 c s).2) then ((Z1 c s).2) else ((Z1 c s).1))))+(Yj c s))))) (K (QcJ (w64 ((w64 (count*(Jo c s)))+(if ((Z1 c s).1)<((Z1 c s).2) then ((Z1 c s).2) else ((Z1 c s).1)))))))):Hold (Qhy K c s count) :=
 Hold.of (by kernel_rfl) h
theorem QFT (c:Qo) (s:Int) (micro:Int) (h :
 (zif (((((decide (s<(0:Int)))||(decide (s≥(QK c))))||(decide (micro<(1:Int))))||(decide (micro>(5:Int))))||(decide ((QK c)>(4:Int)))) (K (QcJ (0:Int))) (zif (c.2.2.1==(2:Int)) (Qhy K c s (if (w64 ((QK c)-s))<micro then (w64 ((QK c)-s)) else micro)) (Qhy K c s micro)))):Hold (tawp Qx6 (0+0) QGN (TQ 0 0 QuO K) (Qf [(.a (Tup.cells QU c)),(.c TI s),(.c TI micro)])) :=
 Hold.of (by kernel_rfl) h
theorem QQS (c:Qo) (s:Int) (micro:Int):TCon Tryz.prog 54 [(.a (Tup.cells QU c)),(.c TI s),(.c TI micro)] (QcJ (YI c s micro)):=by
 refine Qq rfl fun hb=>tcg (n:=66) (sg:=Qm5.sg) Ql (TOk.cons Qed (TOk.cons Qkf (TOk.cons QPO (TOk.cons Qsr (TOk.cons Quo TOk.nil))))) (by kernel_rfl) (by kernel_rfl) (QFT _ c s micro ?_)
 have hl_c_0:(c.1).length≤9223372036854775807:=hb.1.1.1
 have hl_c_1:(c.2.1).length≤9223372036854775807:=hb.1.2.1.1
 have hl_c_3:(c.2.2.2.1).length≤9223372036854775807:=hb.1.2.2.2.1.1
 have hl_c_4:(c.2.2.2.2.1).length≤9223372036854775807:=hb.1.2.2.2.2.1.1
 have hl_c_5:(c.2.2.2.2.2).length≤9223372036854775807:=hb.1.2.2.2.2.2.1.1
 have hs:=QbK (c:=c)
 refine ⟨fun h=>R_eq (by unfold YI;rw [if_neg];grind [m_in]),fun h=>?_⟩
 have hin:(m_in s 0 (QK c-1)&&m_in micro 1 5&&decide (QK c≤4))=true:=by grind [m_in]
 have hin2:=hin
 simp only [Bool.and_eq_true,QR,decide_eq_true_eq] at hin2
 have e3:w64 (QK c-s)=QK c-s:=Qp (by omega) (by omega)
 have key:∀ k:Int,YI c s micro=w64 (w64 (w64 (k*Jo c s)+iMax (Z1 c s).1 (Z1 c s).2)+if Jd c s then Yj c s else 0)→Qhy (fun r'=>r'=QcJ (YI c s micro)) c s k:=by
  intro k hk
  refine (QEb (fun r'=>r'=QcJ (YI c s micro)) c s _ ⟨fun h=>R_eq ?_,fun h=>R_eq ?_⟩).h
  ·rw [hk,h];rfl
  ·rw [hk,h];simp [Qse];rfl
 rw [e3]
 refine ⟨fun h1=>key _ ?_,fun h1=>key _ ?_⟩
 ·simp only [YI,hin,if_true]
  simp at h1
  rw [if_pos h1];rfl
 ·simp only [YI,hin,if_true]
  simp at h1
  rw [if_neg h1]
theorem QBb:Qi Tryz.prog Qm5:=Qm fun x _=>QQS x.1 x.2.1 x.2.2.1
end
end Go.Proofs.YtjbdljkhbglnhaaGreat.Am

