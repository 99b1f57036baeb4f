/- -/
import Derived.Test.YtjbdljkhbglnhaaGreatZBP1
namespace Go.Proofs.YtjbdljkhbglnhaaGreat.Am
open Go Go.RowKit Go.Proofs.YtjbdljkhbglnhaaGreat
set_option linter.all false
noncomputable section
variable (K:TRes→Prop)
def Qkb (t:Bool):TRes:=zre (zcb t)
def QfZ:TRow:=Qi 178 [(.a Zf)] fun x=>(none,Qkb (YX x.1))
def QEK:List TRow:=[Qa0]
def QHI:TCode :=
 (zsq [(.reg [zop 1 (.box 114 0 2),zmv 2 (zkb false)]),(.reg [zfa 3 1 1,zld 4 3 1,zca 5 134 [4],zmv 6 5,.grp 6 true [zfa 7 1 0,zld 8 7 1,zbi 9 .geq 8 (zki 0)] 10 9,zmv 11 10,.grp 11 true [zfa 12 1 0,zld 13 12 1,zbi 14 .lss 13 (zki 5)] 15 14,zmv 2 15]),.ret])
def QMp:List (ARv × Md):=[(.t 2,.one .d)]
theorem QDe (x:Ya) (h :
 K (Qkb (((Q3 x.2)&&(decide (x.1≥(0:Int))))&&(decide (x.1<(5:Int)))))):Hold (tawp QEK (0+0) QHI (TQ 0 0 QMp K) (Qf [(.a [(.c TI x.1),(.c (.sl [TI]) x.2)])])) :=
 Hold.of (by kernel_rfl) h
theorem QzH (x:Ya):TCon Tryz.prog 178 [(.a [(.c TI x.1),(.c (.sl [TI]) x.2)])] (Qkb (YX x)):=by
 refine Qr rfl fun hb=>tcg (n:=16) (sg:=QfZ.sg) Qk (TOk.cons Qca TOk.nil) (by kernel_rfl) (by kernel_rfl) (QDe _ x ?_)
 have hl_x_1:(x.2).length≤9223372036854775807:=hb.1.2.1.1
 exact R_eq (by grind [YX])
theorem QqD:Qj Tryz.prog QfZ:=Qm fun x _=>QzH x.1
def Qcf (t:Bool):TRes:=zre (zcb t)
def Qe8:TRow:=Qi 135 [(.a Qx)] fun x=>(none,Qcf (Zr x.1))
def QmA:List TRow:=[QfZ]
def Qut:TCode :=
 (zsq [(.reg [zbi 25 .lss 24 23]),(.cond 25 .skip (.exit 0)),(.block 1 (zsq [(.reg [zia 26 22 24 Zf,zLd 27 26 2,zop 4 (.new 114 (z0s Zf)),zst 4 27 2]),(.reg [zLd 28 4 2,zca 29 178 [28],zno 30 29]),(.cond 30 (zsq [(.reg [zmv 2 (zkb false)]),.ret]) .skip)])),(.reg [zbi 31 .add 24 (zki 1),zmv 24 31])])
def QqW:List (Nat × Md):=zdl [22,23,24]
def QwU:TCode :=
 (zsq [(.reg [zmv 2 (zkb true)]),.ret])
def QDV:TCode :=
 (zsq [(.reg [zop 1 (.box 97 0 2),zmv 2 (zkb false)]),(zsq [(.reg [zfa 5 1 0,zld 6 5 1,zbi 7 .lss 6 (zki 1),zmv 8 7,.grp 8 false [zfa 9 1 0,zld 10 9 1,zbi 11 .gtr 10 (zki 5)] 12 11,zmv 13 12,.grp 13 false [zfa 14 1 1,zld 15 14 1,zle 16 15,zfa 17 1 0,zld 18 17 1,zbi 19 .gtr 16 18] 20 19]),(.cond 20 (zsq [(.reg [zmv 2 (zkb false)]),.ret]) .skip)]),(zsq [(.reg [zfa 21 1 1,zld 22 21 1,zle 23 22,zmv 24 (zki 0)]),(.block 0 (.loop QqW Qut))]),QwU])
def Qrf:List (ARv × Md):=[(.t 2,.one .d)]
def QuY:Qb:=TQ 0 0 Qrf K
def QMt:Qb:=Qseq (tawp QmA 0 QwU (QuY K)) (QuY K)
def QQl:Qb:=Qblk 0 (QMt K)
def Qjl (q:Qd) (x:Int):Prop:=Loop QmA 0 QqW Qut (QQl K) ⟨[(22,(zcs Zf q.2)),(23,(zci ((q.2).length:Int))),(24,(zci x))],[],0⟩
theorem QCC (q:Qd) (x:Int) (h :
 (zif (decide (x<((q.2).length:Int))) (((0:Int)≤x∧Int.toNat x<(q.2).length)∧(zif (!(YX (gtd ((0,[]):Ya) q.2 (Int.toNat x)))) (K (Qcf false)) (Qjl K q (w64 (x+(1:Int)))))) (K (Qcf true)))):Qjl K q x :=
 Loop.of (by kernel_rfl) h
theorem QAy (q:Qd) (h :
 (zif (((decide (q.1<(1:Int)))||(decide (q.1>(5:Int))))||(decide (((q.2).length:Int)>q.1))) (K (Qcf false)) (Qjl K q 0))):Hold (tawp QmA (0+0) QDV (TQ 0 0 Qrf K) (Qf [(.a [(.c TI q.1),(.c (.sl Zf) q.2)])])) :=
 Hold.of (by kernel_rfl) h
theorem QJa (q:Qd):TCon Tryz.prog 135 [(.a [(.c TI q.1),(.c (.sl Zf) q.2)])] (Qcf (Zr q)):=by
 refine Qr rfl fun hb=>tcg (n:=32) (sg:=Qe8.sg) Qk (TOk.cons QqD TOk.nil) (by kernel_rfl) (by kernel_rfl) (QAy _ q ?_)
 have hl_q_1:(q.2).length≤9223372036854775807:=hb.1.2.1.1
 refine ⟨fun h=>R_eq ?_,fun h=>Qae (Q:=fun x=>Qcf x=Qcf (Zr q)) (p:=YX) (c:=fun x=>!(YX x)) (0,[]) hl_q_1 (fun _=>rfl) (fun i h=>QCC _ q i h) (R_eq ?_)⟩
 ·grind [Zr]
 ·grind [Zr]
theorem Qjn:Qj Tryz.prog Qe8:=Qm fun x _=>QJa x.1
def QnT (t:Bool):TRes:=zre (zcb t)
def QnM:TRow:=Qi 99 [(.a Qx)] fun x=>(none,QnT (Qa3 x.1))
def QGg:List TRow:=[]
def QPM:TCode :=
 (zsq [(.reg [zop 1 (.box 97 0 2),zmv 2 (zkb false)]),(.reg [zfa 3 1 1,zld 4 3 1,zle 5 4,zfa 6 1 0,zld 7 6 1,zbi 8 .lss 5 7,zmv 2 8]),.ret])
def QNo:List (ARv × Md):=[(.t 2,.one .d)]
theorem QHM (q:Qd) (h :
 K (QnT (decide (((q.2).length:Int)<q.1)))):Hold (tawp QGg (0+0) QPM (TQ 0 0 QNo K) (Qf [(.a [(.c TI q.1),(.c (.sl Zf) q.2)])])) :=
 Hold.of (by kernel_rfl) h
theorem QPF (q:Qd):TCon Tryz.prog 99 [(.a [(.c TI q.1),(.c (.sl Zf) q.2)])] (QnT (Qa3 q)):=by
 refine Qr rfl fun hb=>tcg (n:=9) (sg:=QnM.sg) Qk TOk.nil (by kernel_rfl) (by kernel_rfl) (QHM _ q ?_)
 have hl_q_1:(q.2).length≤9223372036854775807:=hb.1.2.1.1
 exact R_eq rfl
theorem QF0:Qj Tryz.prog QnM:=Qm fun x _=>QPF x.1
end
end Go.Proofs.YtjbdljkhbglnhaaGreat.Am

