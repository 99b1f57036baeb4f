/- -/
import Derived.Test.YtjbdljkhbglnhaaGreatZHP1
namespace Go.Proofs.YtjbdljkhbglnhaaGreat.Am
open Go Go.RowKit Go.Proofs.YtjbdljkhbglnhaaGreat
set_option linter.all false
noncomputable section
variable (K:TRes→Prop)
def Qlq (t:Bool):TRes:=zre (zcb t)
def Qiw:TRow:=Qg 178 [(.a Zp)] fun x=>(none,Qlq (YY x.1))
def QFS:List TRow:=[Qa0]
def QHH:TCode :=
 (zsq [(.reg [zop 1 (.box 114 0 2),zmv 2 (zkb false)]),(.reg [zfa 3 1 1,zld 4 3 1,zca 5 134 [4],zmv 6 5,.grp 6 true [zfa 7 1 0,zld 8 7 1,zbi 9 .geq 8 (zki 0)] 10 9,zmv 11 10,.grp 11 true [zfa 12 1 0,zld 13 12 1,zbi 14 .lss 13 (zki 5)] 15 14,zmv 2 15]),.ret])
def QMb:List (ARv × Md):=[(.t 2,.one .d)]
theorem QEC (x:Z8) (h :
 K (Qlq (((Q8 x.2)&&(decide (x.1≥(0:Int))))&&(decide (x.1<(5:Int)))))):Hold (tawp QFS (0+0) QHH (TQ 0 0 QMb K) (Qf [(.a [(.c TI x.1),(.c (.sl [TI]) x.2)])])) :=
 Hold.of (by kernel_rfl) h
theorem QPU (x:Z8):TCon Tryz.prog 178 [(.a [(.c TI x.1),(.c (.sl [TI]) x.2)])] (Qlq (YY x)):=by
 refine Qq rfl fun hb=>tcg (n:=16) (sg:=Qiw.sg) Qj (TOk.cons QcT TOk.nil) (by kernel_rfl) (by kernel_rfl) (QEC _ x ?_)
 have hl_x_1:(x.2).length≤9223372036854775807:=hb.1.2.1.1
 exact R_eq (by grind [YY])
theorem QwT:Qh Tryz.prog Qiw:=Qk fun x _=>QPU x.1
def Qcf (t:Bool):TRes:=zre (zcb t)
def Qer:TRow:=Qg 135 [(.a QL)] fun x=>(none,Qcf (Zx x.1))
def Qk5:List TRow:=[Qiw]
def QoU:TCode :=
 (zsq [(.reg [zbi 25 .lss 24 23]),(.cond 25 .skip (.exit 0)),(.block 1 (zsq [(.reg [zia 26 22 24 Zp,zLd 27 26 2,zop 4 (.new 114 (z0s Zp)),zst 4 27 2]),(.reg [zLd 28 4 2,zca 29 178 [28],zno 30 29]),(.cond 30 (zsq [(.reg [zmv 2 (zkb false)]),.ret]) .skip)])),(.reg [zbi 31 .add 24 (zki 1),zmv 24 31])])
def Qux:List (Nat × Md):=zdl [22,23,24]
def QoQ:TCode :=
 (zsq [(.reg [zmv 2 (zkb true)]),.ret])
def QH4:TCode :=
 (zsq [(.reg [zop 1 (.box 97 0 2),zmv 2 (zkb false)]),(zsq [(.reg [zfa 5 1 0,zld 6 5 1,zbi 7 .lss 6 (zki 1),zmv 8 7,.grp 8 false [zfa 9 1 0,zld 10 9 1,zbi 11 .gtr 10 (zki 5)] 12 11,zmv 13 12,.grp 13 false [zfa 14 1 1,zld 15 14 1,zle 16 15,zfa 17 1 0,zld 18 17 1,zbi 19 .gtr 16 18] 20 19]),(.cond 20 (zsq [(.reg [zmv 2 (zkb false)]),.ret]) .skip)]),(zsq [(.reg [zfa 21 1 1,zld 22 21 1,zle 23 22,zmv 24 (zki 0)]),(.block 0 (.loop Qux QoU))]),QoQ])
def Qw7:List (ARv × Md):=[(.t 2,.one .d)]
def QoY:Qb:=TQ 0 0 Qw7 K
def QIY:Qb:=Qseq (tawp Qk5 0 QoQ (QoY K)) (QoY K)
def QLr:Qb:=Qblk 0 (QIY K)
def QkL (q:Qm) (x:Int):Prop:=Loop Qk5 0 Qux QoU (QLr K) ⟨[(22,(zcs Zp q.2)),(23,(zci ((q.2).length:Int))),(24,(zci x))],[],0⟩
theorem QLk (q:Qm) (x:Int) (h :
 (zif (decide (x<((q.2).length:Int))) (((0:Int)≤x∧Int.toNat x<(q.2).length)∧(zif (!(YY (gtd ((0,[]):Z8) q.2 (Int.toNat x)))) (K (Qcf false)) (QkL K q (w64 (x+(1:Int)))))) (K (Qcf true)))):QkL K q x :=
 Loop.of (by kernel_rfl) h
theorem QE1 (q:Qm) (h :
 (zif (((decide (q.1<(1:Int)))||(decide (q.1>(5:Int))))||(decide (((q.2).length:Int)>q.1))) (K (Qcf false)) (QkL K q 0))):Hold (tawp Qk5 (0+0) QH4 (TQ 0 0 Qw7 K) (Qf [(.a [(.c TI q.1),(.c (.sl Zp) q.2)])])) :=
 Hold.of (by kernel_rfl) h
theorem QEy (q:Qm):TCon Tryz.prog 135 [(.a [(.c TI q.1),(.c (.sl Zp) q.2)])] (Qcf (Zx q)):=by
 refine Qq rfl fun hb=>tcg (n:=32) (sg:=Qer.sg) Qj (TOk.cons QwT TOk.nil) (by kernel_rfl) (by kernel_rfl) (QE1 _ q ?_)
 have hl_q_1:(q.2).length≤9223372036854775807:=hb.1.2.1.1
 refine ⟨fun h=>R_eq ?_,fun h=>Qb3 (Q:=fun x=>Qcf x=Qcf (Zx q)) (p:=YY) (c:=fun x=>!(YY x)) (0,[]) hl_q_1 (fun _=>rfl) (fun i h=>QLk _ q i h) (R_eq ?_)⟩
 ·grind [Zx]
 ·grind [Zx]
theorem Qn2:Qh Tryz.prog Qer:=Qk fun x _=>QEy x.1
def QlO (t:Bool):TRes:=zre (zcb t)
def Qj8:TRow:=Qg 99 [(.a QL)] fun x=>(none,QlO (Qbo x.1))
def QLK:List TRow:=[]
def QEx:TCode :=
 (zsq [(.reg [zop 1 (.box 97 0 2),zmv 2 (zkb false)]),(.reg [zfa 3 1 1,zld 4 3 1,zle 5 4,zfa 6 1 0,zld 7 6 1,zbi 8 .lss 5 7,zmv 2 8]),.ret])
def QOH:List (ARv × Md):=[(.t 2,.one .d)]
theorem QMo (q:Qm) (h :
 K (QlO (decide (((q.2).length:Int)<q.1)))):Hold (tawp QLK (0+0) QEx (TQ 0 0 QOH K) (Qf [(.a [(.c TI q.1),(.c (.sl Zp) q.2)])])) :=
 Hold.of (by kernel_rfl) h
theorem QKh (q:Qm):TCon Tryz.prog 99 [(.a [(.c TI q.1),(.c (.sl Zp) q.2)])] (QlO (Qbo q)):=by
 refine Qq rfl fun hb=>tcg (n:=9) (sg:=Qj8.sg) Qj TOk.nil (by kernel_rfl) (by kernel_rfl) (QMo _ q ?_)
 have hl_q_1:(q.2).length≤9223372036854775807:=hb.1.2.1.1
 exact R_eq rfl
theorem QGD:Qh Tryz.prog Qj8:=Qk fun x _=>QKh x.1
end
end Go.Proofs.YtjbdljkhbglnhaaGreat.Am

