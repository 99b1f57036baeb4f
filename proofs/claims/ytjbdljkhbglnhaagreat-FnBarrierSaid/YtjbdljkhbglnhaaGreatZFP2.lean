/- -/
import Derived.Test.YtjbdljkhbglnhaaGreatZFP1
namespace Go.Proofs.YtjbdljkhbglnhaaGreat.Am
open Go Go.RowKit Go.Proofs.YtjbdljkhbglnhaaGreat
set_option linter.all false
noncomputable section
variable (K:TRes→Prop)
def Qp9 (t:Bool):TRes:=zre (zcb t)
def Qkb:TRow:=Qh 178 [(.a QQ)] fun x=>(none,Qp9 (YE x.1))
def Q2K:List TRow:=[Qbi]
def QUO:TCode :=
 (zsq [(.reg [zop 1 (.box 114 0 2),zmv 2 (zkb false)]),(.reg [zfa 3 1 1,zld 4 3 1,zca 5 134 [4],zmv 6 5,.grp 6 true [zfa 7 1 0,zld 8 7 1,zbi 9 .geq 8 (zki 0)] 10 9,zmv 11 10,.grp 11 true [zfa 12 1 0,zld 13 12 1,zbi 14 .lss 13 (zki 5)] 15 14,zmv 2 15]),.ret])
def QQ8:List (ARv × Md):=[(.t 2,.one .d)]
theorem QY6 (x:Zd) (h :
 K (Qp9 (((QN x.2)&&(decide (x.1≥(0:Int))))&&(decide (x.1<(5:Int)))))):Hold (tawp Q2K (0+0) QUO (TQ 0 0 QQ8 K) (Qf [(.a [(.c TI x.1),(.c (.sl [TI]) x.2)])])) :=
 Hold.of (by kernel_rfl) h
theorem QXe (x:Zd):TCon Tryz.prog 178 [(.a [(.c TI x.1),(.c (.sl [TI]) x.2)])] (Qp9 (YE x)):=by
 refine Qo rfl fun hb=>tcg (n:=16) (sg:=Qkb.sg) Qj (TOk.cons QdL TOk.nil) (by kernel_rfl) (by kernel_rfl) (QY6 _ x ?_)
 have hl_x_1:(x.2).length≤9223372036854775807:=hb.1.2.1.1
 exact R_eq (by grind [YE])
theorem QCz:Qg Tryz.prog Qkb:=Qk fun x _=>QXe x.1
def QkZ (t:Bool):TRes:=zre (zcb t)
def Qfy:TRow:=Qh 103 [(.a Qm)] fun x=>(none,QkZ (Q4 x.1))
def QmG:List TRow:=[Jd,YR]
def QDM:TCode :=
 (zsq [(zsq [(.reg [zmv 4 3,zfa 5 1 1,zld 6 5 1,zle 7 6,zbi 8 .lss 4 7]),(.cond 8 .skip (.exit 0))]),(.block 1 (zsq [(.reg [zfa 11 1 1,zld 12 11 1,zmv 13 3,zia 14 12 13 QQ,zfa 15 14 1,zld 16 15 1,zca 17 42 [16],zno 18 17,zmv 19 18,.grp 19 false [zfa 20 1 1,zld 21 20 1,zmv 22 3,zia 23 21 22 QQ,zfa 24 23 0,zld 25 24 1,zca 26 77 [25,(zki 0),(zki 4)],zno 27 26] 28 27]),(.cond 28 (zsq [(.reg [zmv 2 (zkb false)]),.ret]) .skip)])),(.reg [zmv 9 3,zbi 10 .add 9 (zki 1),zmv 3 10])])
def QEa:List (Nat × Md):=[(1,.b [.d,.d]),(3,.one .d)]
def QG8:TCode :=
 (zsq [(.reg [zfa 29 1 0,zld 30 29 1,zca 31 77 [30,(zki 1),(zki 5)],zmv 32 31,.grp 32 true [zfa 33 1 1,zld 34 33 1,zle 35 34,zfa 36 1 0,zld 37 36 1,zbi 38 .leq 35 37] 39 38,zmv 2 39]),.ret])
def QSF:TCode :=
 (zsq [(.reg [zop 1 (.box 97 0 2),zmv 2 (zkb false)]),(zsq [(.reg [zmv 3 (zki 0)]),(.block 0 (.loop QEa QDM))]),QG8])
def QvP:List (ARv × Md):=[(.t 2,.one .d)]
def QCa:Qb:=TQ 0 0 QvP K
def QK3:Qb:=Qseq (tawp QmG 0 QG8 (QCa K)) (QCa K)
def QYA:Qb:=Qblk 0 (QK3 K)
def Qh9 (q:Qd) (i:Int):Prop:=Loop QmG 0 QEa QDM (QYA K) ⟨[(1,(.p 0 0 0)),(3,(zci i))],[(0,(.box [(zci q.1),(zcs QQ q.2)]))],1⟩
theorem QAy (q:Qd) (i:Int) (h :
 (zif (decide (i<((q.2).length:Int))) ((((0:Int)≤i∧Int.toNat i<(q.2).length)∧((!(!(QN ((gtd ((0,[]):Zd) q.2 (Int.toNat i)).2))))=true→((0:Int)≤i∧Int.toNat i<(q.2).length)))∧(zif ((!(QN ((gtd ((0,[]):Zd) q.2 (Int.toNat i)).2)))||(!(m_in ((gtd ((0,[]):Zd) q.2 (Int.toNat i)).1) (0:Int) (4:Int)))) (K (QkZ false)) (Qh9 K q (w64 (i+(1:Int)))))) (K (QkZ ((m_in q.1 (1:Int) (5:Int))&&(decide (((q.2).length:Int)≤q.1))))))):Qh9 K q i :=
 Loop.of (by kernel_rfl) h
theorem QTU (q:Qd) (h :
 (Qh9 K q 0)):Hold (tawp QmG (0+0) QSF (TQ 0 0 QvP K) (Qf [(.a [(.c TI q.1),(.c (.sl QQ) q.2)])])) :=
 Hold.of (by kernel_rfl) h
theorem Q0Y (q:Qd):TCon Tryz.prog 103 [(.a [(.c TI q.1),(.c (.sl QQ) q.2)])] (QkZ (Q4 q)):=by
 refine Qo rfl fun hb=>tcg (n:=40) (sg:=Qfy.sg) Qj (TOk.cons Jw (TOk.cons Y9 TOk.nil)) (by kernel_rfl) (by kernel_rfl) (QTU _ q ?_)
 have hl_q_1:(q.2).length≤9223372036854775807:=hb.1.2.1.1
 refine Zk q.2 (fun r k=>r.all YE=q.2.all YE→Qh9 _ q k) ?_ ?_ rfl
 ·intro he
  refine QAy _ q _ ⟨fun h=>by simp at h,fun _=>?_⟩
  grind [Q4,m_in]
 ·intro k x r hk hlt hg ih he
  refine QAy _ q _ ⟨fun _=>?_,fun h=>by simp at h;omega⟩
  rw [Int.toNat_natCast,hg,Qq (by omega) (by omega)]
  grind [Q4,YE,m_in]
theorem QoF:Qg Tryz.prog Qfy:=Qk fun x _=>Q0Y x.1
def Qdk (t:Bool):TRes:=zre (zcb t)
def Qgd:TRow:=Qh 135 [(.a Qm)] fun x=>(none,Qdk (Q4 x.1))
def QqF:List TRow:=[Qkb]
def QG4:TCode :=
 (zsq [(.reg [zbi 25 .lss 24 23]),(.cond 25 .skip (.exit 0)),(.block 1 (zsq [(.reg [zia 26 22 24 QQ,zLd 27 26 2,zop 4 (.new 114 (z0s QQ)),zst 4 27 2]),(.reg [zLd 28 4 2,zca 29 178 [28],zno 30 29]),(.cond 30 (zsq [(.reg [zmv 2 (zkb false)]),.ret]) .skip)])),(.reg [zbi 31 .add 24 (zki 1),zmv 24 31])])
def QuL:List (Nat × Md):=zdl [22,23,24]
def QBm:TCode :=
 (zsq [(.reg [zmv 2 (zkb true)]),.ret])
def QHB:TCode :=
 (zsq [(.reg [zop 1 (.box 97 0 2),zmv 2 (zkb false)]),(zsq [(.reg [zfa 5 1 0,zld 6 5 1,zbi 7 .lss 6 (zki 1),zmv 8 7,.grp 8 false [zfa 9 1 0,zld 10 9 1,zbi 11 .gtr 10 (zki 5)] 12 11,zmv 13 12,.grp 13 false [zfa 14 1 1,zld 15 14 1,zle 16 15,zfa 17 1 0,zld 18 17 1,zbi 19 .gtr 16 18] 20 19]),(.cond 20 (zsq [(.reg [zmv 2 (zkb false)]),.ret]) .skip)]),(zsq [(.reg [zfa 21 1 1,zld 22 21 1,zle 23 22,zmv 24 (zki 0)]),(.block 0 (.loop QuL QG4))]),QBm])
def QxE:List (ARv × Md):=[(.t 2,.one .d)]
def Qya:Qb:=TQ 0 0 QxE K
def QZR:Qb:=Qseq (tawp QqF 0 QBm (Qya K)) (Qya K)
def QQK:Qb:=Qblk 0 (QZR K)
def QlU (q:Qd) (x:Int):Prop:=Loop QqF 0 QuL QG4 (QQK K) ⟨[(22,(zcs QQ q.2)),(23,(zci ((q.2).length:Int))),(24,(zci x))],[],0⟩
theorem QYq (q:Qd) (x:Int) (h :
 (zif (decide (x<((q.2).length:Int))) (((0:Int)≤x∧Int.toNat x<(q.2).length)∧(zif (!(YE (gtd ((0,[]):Zd) q.2 (Int.toNat x)))) (K (Qdk false)) (QlU K q (w64 (x+(1:Int)))))) (K (Qdk true)))):QlU K q x :=
 Loop.of (by kernel_rfl) h
theorem QMW (q:Qd) (h :
 (zif (((decide (q.1<(1:Int)))||(decide (q.1>(5:Int))))||(decide (((q.2).length:Int)>q.1))) (K (Qdk false)) (QlU K q 0))):Hold (tawp QqF (0+0) QHB (TQ 0 0 QxE K) (Qf [(.a [(.c TI q.1),(.c (.sl QQ) q.2)])])) :=
 Hold.of (by kernel_rfl) h
theorem QNm (q:Qd):TCon Tryz.prog 135 [(.a [(.c TI q.1),(.c (.sl QQ) q.2)])] (Qdk (Q4 q)):=by
 refine Qo rfl fun hb=>tcg (n:=32) (sg:=Qgd.sg) Qj (TOk.cons QCz TOk.nil) (by kernel_rfl) (by kernel_rfl) (QMW _ q ?_)
 have hl_q_1:(q.2).length≤9223372036854775807:=hb.1.2.1.1
 refine ⟨fun h=>R_eq ?_,fun h=>Qba (Q:=fun x=>Qdk x=Qdk (Q4 q)) (p:=YE) (c:=fun x=>!(YE x)) (0,[]) hl_q_1 (fun _=>rfl) (fun i h=>QYq _ q i h) (R_eq ?_)⟩
 ·grind [Q4]
 ·grind [Q4]
theorem Ql4:Qg Tryz.prog Qgd:=Qk fun x _=>QNm x.1
def Qmk (t:Bool):TRes:=zre (zcb t)
def Qnf:TRow:=Qh 99 [(.a Qm)] fun x=>(none,Qmk (Qa8 x.1))
def QUs:List TRow:=[]
def QOX:TCode :=
 (zsq [(.reg [zop 1 (.box 97 0 2),zmv 2 (zkb false)]),(.reg [zfa 3 1 1,zld 4 3 1,zle 5 4,zfa 6 1 0,zld 7 6 1,zbi 8 .lss 5 7,zmv 2 8]),.ret])
def QJQ:List (ARv × Md):=[(.t 2,.one .d)]
theorem QYo (q:Qd) (h :
 K (Qmk (decide (((q.2).length:Int)<q.1)))):Hold (tawp QUs (0+0) QOX (TQ 0 0 QJQ K) (Qf [(.a [(.c TI q.1),(.c (.sl QQ) q.2)])])) :=
 Hold.of (by kernel_rfl) h
theorem QL1 (q:Qd):TCon Tryz.prog 99 [(.a [(.c TI q.1),(.c (.sl QQ) q.2)])] (Qmk (Qa8 q)):=by
 refine Qo rfl fun hb=>tcg (n:=9) (sg:=Qnf.sg) Qj TOk.nil (by kernel_rfl) (by kernel_rfl) (QYo _ q ?_)
 have hl_q_1:(q.2).length≤9223372036854775807:=hb.1.2.1.1
 exact R_eq rfl
theorem Q2f:Qg Tryz.prog Qnf:=Qk fun x _=>QL1 x.1
end
end Go.Proofs.YtjbdljkhbglnhaaGreat.Am

