/- -/
import Derived.Test.YtjbdljkhbglnhaaGreatZCP1
namespace Go.Proofs.YtjbdljkhbglnhaaGreat.Am
open Go Go.RowKit Go.Proofs.YtjbdljkhbglnhaaGreat
set_option linter.all false
noncomputable section
variable (K:TRes→Prop)
def Qni (t:Bool):TRes:=zre (zcb t)
def Qio:TRow:=Qf 178 [(.a Zx)] fun x=>(none,Qni (Y4 x.1))
def QKN:List TRow:=[Qbs]
def QUy:TCode :=
 (zsq [(.reg [zop 1 (.box 114 0 2),zmv 2 (zkb false)]),(.reg [zfa 3 1 1,zld 4 3 1,zca 5 134 [4],zmv 6 5,.grp 6 true [zfa 7 1 0,zld 8 7 1,zbi 9 .geq 8 (zki 0)] 10 9,zmv 11 10,.grp 11 true [zfa 12 1 0,zld 13 12 1,zbi 14 .lss 13 (zki 5)] 15 14,zmv 2 15]),.ret])
def QIK:List (ARv × Md):=[(.t 2,.one .d)]
theorem QOw (x:Yo) (h :
 K (Qni (((QU x.2)&&(decide (x.1≥(0:Int))))&&(decide (x.1<(5:Int)))))):Hold (tawp QKN (0+0) QUy (TQ 0 0 QIK K) (Qd [(.a [(.c TI x.1),(.c (.sl [TI]) x.2)])])) :=
 Hold.of (by kernel_rfl) h
theorem QWM (x:Yo):TCon Tryz.prog 178 [(.a [(.c TI x.1),(.c (.sl [TI]) x.2)])] (Qni (Y4 x)):=by
 refine Qj rfl fun hb=>tcg (n:=16) (sg:=Qio.sg) Qg (TOk.cons QcE TOk.nil) (by kernel_rfl) (by kernel_rfl) (QOw _ x ?_)
 have hl_x_1:(x.2).length≤9223372036854775807:=hb.1.2.1.1
 exact R_eq (by grind [Y4])
theorem QtR:Qe Tryz.prog Qio:=Qh fun x _=>QWM x.1
def Qc3 (t:Bool):TRes:=zre (zcb t)
def QeQ:TRow:=Qf 135 [(.a QP)] fun x=>(none,Qc3 (ZK x.1))
def QnW:List TRow:=[Qio]
def Qtn:TCode :=
 (zsq [(.reg [zbi 25 .lss 24 23]),(.cond 25 .skip (.exit 0)),(.block 1 (zsq [(.reg [zia 26 22 24 Zx,zLd 27 26 2,zop 4 (.new 114 (z0s Zx)),zst 4 27 2]),(.reg [zLd 28 4 2,zca 29 178 [28],zno 30 29]),(.cond 30 (zsq [(.reg [zmv 2 (zkb false)]),.ret]) .skip)])),(.reg [zbi 31 .add 24 (zki 1),zmv 24 31])])
def Qyr:List (Nat × Md):=zdl [22,23,24]
def QzJ:TCode :=
 (zsq [(.reg [zmv 2 (zkb true)]),.ret])
def QTT:TCode :=
 (zsq [(.reg [zop 1 (.box 97 0 2),zmv 2 (zkb false)]),(zsq [(.reg [zfa 5 1 0,zld 6 5 1,zbi 7 .lss 6 (zki 1),zmv 8 7,.grp 8 false [zfa 9 1 0,zld 10 9 1,zbi 11 .gtr 10 (zki 5)] 12 11,zmv 13 12,.grp 13 false [zfa 14 1 1,zld 15 14 1,zle 16 15,zfa 17 1 0,zld 18 17 1,zbi 19 .gtr 16 18] 20 19]),(.cond 20 (zsq [(.reg [zmv 2 (zkb false)]),.ret]) .skip)]),(zsq [(.reg [zfa 21 1 1,zld 22 21 1,zle 23 22,zmv 24 (zki 0)]),(.block 0 (.loop Qyr Qtn))]),QzJ])
def Quu:List (ARv × Md):=[(.t 2,.one .d)]
def QDI:Qb:=TQ 0 0 Quu K
def QKl:Qb:=Qseq (tawp QnW 0 QzJ (QDI K)) (QDI K)
def QRa:Qb:=Qblk 0 (QKl K)
def Qk6 (q:Qn) (x:Int):Prop:=Loop QnW 0 Qyr Qtn (QRa K) ⟨[(22,(zcs Zx q.2)),(23,(zci ((q.2).length:Int))),(24,(zci x))],[],0⟩
theorem QGW (q:Qn) (x:Int) (h :
 (zif (decide (x<((q.2).length:Int))) (((0:Int)≤x∧Int.toNat x<(q.2).length)∧(zif (!(Y4 (gtd ((0,[]):Yo) q.2 (Int.toNat x)))) (K (Qc3 false)) (Qk6 K q (w64 (x+(1:Int)))))) (K (Qc3 true)))):Qk6 K q x :=
 Loop.of (by kernel_rfl) h
theorem QSf (q:Qn) (h :
 (zif (((decide (q.1<(1:Int)))||(decide (q.1>(5:Int))))||(decide (((q.2).length:Int)>q.1))) (K (Qc3 false)) (Qk6 K q 0))):Hold (tawp QnW (0+0) QTT (TQ 0 0 Quu K) (Qd [(.a [(.c TI q.1),(.c (.sl Zx) q.2)])])) :=
 Hold.of (by kernel_rfl) h
theorem QRM (q:Qn):TCon Tryz.prog 135 [(.a [(.c TI q.1),(.c (.sl Zx) q.2)])] (Qc3 (ZK q)):=by
 refine Qj rfl fun hb=>tcg (n:=32) (sg:=QeQ.sg) Qg (TOk.cons QtR TOk.nil) (by kernel_rfl) (by kernel_rfl) (QSf _ q ?_)
 have hl_q_1:(q.2).length≤9223372036854775807:=hb.1.2.1.1
 refine ⟨fun h=>R_eq ?_,fun h=>Qbu (Q:=fun x=>Qc3 x=Qc3 (ZK q)) (p:=Y4) (c:=fun x=>!(Y4 x)) (0,[]) hl_q_1 (fun _=>rfl) (fun i h=>QGW _ q i h) (R_eq ?_)⟩
 ·grind [ZK]
 ·grind [ZK]
theorem Qqo:Qe Tryz.prog QeQ:=Qh fun x _=>QRM x.1
def Ql4 (t:Bool):TRes:=zre (zcb t)
def Qqh:TRow:=Qf 99 [(.a QP)] fun x=>(none,Ql4 (QbB x.1))
def QJf:List TRow:=[]
def QKE:TCode :=
 (zsq [(.reg [zop 1 (.box 97 0 2),zmv 2 (zkb false)]),(.reg [zfa 3 1 1,zld 4 3 1,zle 5 4,zfa 6 1 0,zld 7 6 1,zbi 8 .lss 5 7,zmv 2 8]),.ret])
def QPA:List (ARv × Md):=[(.t 2,.one .d)]
theorem QL5 (q:Qn) (h :
 K (Ql4 (decide (((q.2).length:Int)<q.1)))):Hold (tawp QJf (0+0) QKE (TQ 0 0 QPA K) (Qd [(.a [(.c TI q.1),(.c (.sl Zx) q.2)])])) :=
 Hold.of (by kernel_rfl) h
theorem QO0 (q:Qn):TCon Tryz.prog 99 [(.a [(.c TI q.1),(.c (.sl Zx) q.2)])] (Ql4 (QbB q)):=by
 refine Qj rfl fun hb=>tcg (n:=9) (sg:=Qqh.sg) Qg TOk.nil (by kernel_rfl) (by kernel_rfl) (QL5 _ q ?_)
 have hl_q_1:(q.2).length≤9223372036854775807:=hb.1.2.1.1
 exact R_eq rfl
theorem QUE:Qe Tryz.prog Qqh:=Qh fun x _=>QO0 x.1
end
end Go.Proofs.YtjbdljkhbglnhaaGreat.Am

