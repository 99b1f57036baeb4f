/- -/
import Derived.Test.YtjbdljkhbglnhaaGreatZIP1
namespace Go.Proofs.YtjbdljkhbglnhaaGreat.Am
open Go Go.RowKit Go.Proofs.YtjbdljkhbglnhaaGreat
set_option linter.all false
noncomputable section
variable (K:TRes→Prop)
def Qoc (t:Bool):TRes:=zre (zcb t)
def QjC:TRow:=Qk 178 [(.a QN)] fun x=>(none,Qoc (Yy x.1))
def QGk:List TRow:=[Qbh]
def QNE:TCode :=
 (zsq [(.reg [zop 1 (.box 114 0 2),zmv 2 (zkb false)]),(.reg [zfa 3 1 1,zld 4 3 1,zca 5 134 [4],zmv 6 5,.grp 6 true [zfa 7 1 0,zld 8 7 1,zbi 9 .geq 8 (zki 0)] 10 9,zmv 11 10,.grp 11 true [zfa 12 1 0,zld 13 12 1,zbi 14 .lss 13 (zki 5)] 15 14,zmv 2 15]),.ret])
def QEX:List (ARv × Md):=[(.t 2,.one .d)]
theorem QKd (x:Za) (h :
 K (Qoc (((QJ x.2)&&(decide (x.1≥(0:Int))))&&(decide (x.1<(5:Int)))))):Hold (tawp QGk (0+0) QNE (TQ 0 0 QEX K) (Qi [(.a [(.c TI x.1),(.c (.sl [TI]) x.2)])])) :=
 Hold.of (by kernel_rfl) h
theorem QIy (x:Za):TCon Tryz.prog 178 [(.a [(.c TI x.1),(.c (.sl [TI]) x.2)])] (Qoc (Yy x)):=by
 refine Qo rfl fun hb=>tcg (n:=16) (sg:=QjC.sg) Qm (TOk.cons Qds TOk.nil) (by kernel_rfl) (by kernel_rfl) (QKd _ x ?_)
 have hl_x_1:(x.2).length≤9223372036854775807:=hb.1.2.1.1
 exact R_eq (by grind [Yy])
theorem QB1:Ql Tryz.prog QjC:=Qn fun x _=>QIy x.1
def Qi4 (t:Bool):TRes:=zre (zcb t)
def Qf1:TRow:=Qk 103 [(.a Qh)] fun x=>(none,Qi4 (Q3 x.1))
def QnJ:List TRow:=[Jc,YN]
def Qsf:TCode :=
 (zsq [(zsq [(.reg [zmv 4 3,zfa 5 1 1,zld 6 5 1,zle 7 6,zbi 8 .lss 4 7]),(.cond 8 .skip (.exit 0))]),(.block 1 (zsq [(.reg [zfa 11 1 1,zld 12 11 1,zmv 13 3,zia 14 12 13 QN,zfa 15 14 1,zld 16 15 1,zca 17 42 [16],zno 18 17,zmv 19 18,.grp 19 false [zfa 20 1 1,zld 21 20 1,zmv 22 3,zia 23 21 22 QN,zfa 24 23 0,zld 25 24 1,zca 26 77 [25,(zki 0),(zki 4)],zno 27 26] 28 27]),(.cond 28 (zsq [(.reg [zmv 2 (zkb false)]),.ret]) .skip)])),(.reg [zmv 9 3,zbi 10 .add 9 (zki 1),zmv 3 10])])
def QuR:List (Nat × Md):=[(1,.b [.d,.d]),(3,.one .d)]
def QtD:TCode :=
 (zsq [(.reg [zfa 29 1 0,zld 30 29 1,zca 31 77 [30,(zki 1),(zki 5)],zmv 32 31,.grp 32 true [zfa 33 1 1,zld 34 33 1,zle 35 34,zfa 36 1 0,zld 37 36 1,zbi 38 .leq 35 37] 39 38,zmv 2 39]),.ret])
def QSk:TCode :=
 (zsq [(.reg [zop 1 (.box 97 0 2),zmv 2 (zkb false)]),(zsq [(.reg [zmv 3 (zki 0)]),(.block 0 (.loop QuR Qsf))]),QtD])
def QxL:List (ARv × Md):=[(.t 2,.one .d)]
def QAk:Qb:=TQ 0 0 QxL K
def QUg:Qb:=Qseq (tawp QnJ 0 QtD (QAk K)) (QAk K)
def QE6:Qb:=Qblk 0 (QUg K)
def Qhe (q:Qd) (i:Int):Prop:=Loop QnJ 0 QuR Qsf (QE6 K) ⟨[(1,(.p 0 0 0)),(3,(zci i))],[(0,(.box [(zci q.1),(zcs QN q.2)]))],1⟩
theorem QCK (q:Qd) (i:Int) (h :
 (zif (decide (i<((q.2).length:Int))) ((((0:Int)≤i∧Int.toNat i<(q.2).length)∧((!(!(QJ ((gtd ((0,[]):Za) q.2 (Int.toNat i)).2))))=true→((0:Int)≤i∧Int.toNat i<(q.2).length)))∧(zif ((!(QJ ((gtd ((0,[]):Za) q.2 (Int.toNat i)).2)))||(!(m_in ((gtd ((0,[]):Za) q.2 (Int.toNat i)).1) (0:Int) (4:Int)))) (K (Qi4 false)) (Qhe K q (w64 (i+(1:Int)))))) (K (Qi4 ((m_in q.1 (1:Int) (5:Int))&&(decide (((q.2).length:Int)≤q.1))))))):Qhe K q i :=
 Loop.of (by kernel_rfl) h
theorem QVq (q:Qd) (h :
 (Qhe K q 0)):Hold (tawp QnJ (0+0) QSk (TQ 0 0 QxL K) (Qi [(.a [(.c TI q.1),(.c (.sl QN) q.2)])])) :=
 Hold.of (by kernel_rfl) h
theorem QGe (q:Qd):TCon Tryz.prog 103 [(.a [(.c TI q.1),(.c (.sl QN) q.2)])] (Qi4 (Q3 q)):=by
 refine Qo rfl fun hb=>tcg (n:=40) (sg:=Qf1.sg) Qm (TOk.cons Jr (TOk.cons Y5 TOk.nil)) (by kernel_rfl) (by kernel_rfl) (QVq _ q ?_)
 have hl_q_1:(q.2).length≤9223372036854775807:=hb.1.2.1.1
 refine Zj q.2 (fun r k=>r.all Yy=q.2.all Yy→Qhe _ q k) ?_ ?_ rfl
 ·intro he
  refine QCK _ q _ ⟨fun h=>by simp at h,fun _=>?_⟩
  grind [Q3,m_in]
 ·intro k x r hk hlt hg ih he
  refine QCK _ q _ ⟨fun _=>?_,fun h=>by simp at h;omega⟩
  rw [Int.toNat_natCast,hg,Qp (by omega) (by omega)]
  grind [Q3,Yy,m_in]
theorem Qna:Ql Tryz.prog Qf1:=Qn fun x _=>QGe x.1
def QcJ (t:Bool):TRes:=zre (zcb t)
def QeU:TRow:=Qk 135 [(.a Qh)] fun x=>(none,QcJ (Q3 x.1))
def Qnv:List TRow:=[QjC]
def QyT:TCode :=
 (zsq [(.reg [zbi 25 .lss 24 23]),(.cond 25 .skip (.exit 0)),(.block 1 (zsq [(.reg [zia 26 22 24 QN,zLd 27 26 2,zop 4 (.new 114 (z0s QN)),zst 4 27 2]),(.reg [zLd 28 4 2,zca 29 178 [28],zno 30 29]),(.cond 30 (zsq [(.reg [zmv 2 (zkb false)]),.ret]) .skip)])),(.reg [zbi 31 .add 24 (zki 1),zmv 24 31])])
def Qrj:List (Nat × Md):=zdl [22,23,24]
def Qxf:TCode :=
 (zsq [(.reg [zmv 2 (zkb true)]),.ret])
def QTD:TCode :=
 (zsq [(.reg [zop 1 (.box 97 0 2),zmv 2 (zkb false)]),(zsq [(.reg [zfa 5 1 0,zld 6 5 1,zbi 7 .lss 6 (zki 1),zmv 8 7,.grp 8 false [zfa 9 1 0,zld 10 9 1,zbi 11 .gtr 10 (zki 5)] 12 11,zmv 13 12,.grp 13 false [zfa 14 1 1,zld 15 14 1,zle 16 15,zfa 17 1 0,zld 18 17 1,zbi 19 .gtr 16 18] 20 19]),(.cond 20 (zsq [(.reg [zmv 2 (zkb false)]),.ret]) .skip)]),(zsq [(.reg [zfa 21 1 1,zld 22 21 1,zle 23 22,zmv 24 (zki 0)]),(.block 0 (.loop Qrj QyT))]),Qxf])
def QBo:List (ARv × Md):=[(.t 2,.one .d)]
def QDY:Qb:=TQ 0 0 QBo K
def QMj:Qb:=Qseq (tawp Qnv 0 Qxf (QDY K)) (QDY K)
def QSx:Qb:=Qblk 0 (QMj K)
def Qmq (q:Qd) (x:Int):Prop:=Loop Qnv 0 Qrj QyT (QSx K) ⟨[(22,(zcs QN q.2)),(23,(zci ((q.2).length:Int))),(24,(zci x))],[],0⟩
theorem QFk (q:Qd) (x:Int) (h :
 (zif (decide (x<((q.2).length:Int))) (((0:Int)≤x∧Int.toNat x<(q.2).length)∧(zif (!(Yy (gtd ((0,[]):Za) q.2 (Int.toNat x)))) (K (QcJ false)) (Qmq K q (w64 (x+(1:Int)))))) (K (QcJ true)))):Qmq K q x :=
 Loop.of (by kernel_rfl) h
theorem QGM (q:Qd) (h :
 (zif (((decide (q.1<(1:Int)))||(decide (q.1>(5:Int))))||(decide (((q.2).length:Int)>q.1))) (K (QcJ false)) (Qmq K q 0))):Hold (tawp Qnv (0+0) QTD (TQ 0 0 QBo K) (Qi [(.a [(.c TI q.1),(.c (.sl QN) q.2)])])) :=
 Hold.of (by kernel_rfl) h
theorem QHT (q:Qd):TCon Tryz.prog 135 [(.a [(.c TI q.1),(.c (.sl QN) q.2)])] (QcJ (Q3 q)):=by
 refine Qo rfl fun hb=>tcg (n:=32) (sg:=QeU.sg) Qm (TOk.cons QB1 TOk.nil) (by kernel_rfl) (by kernel_rfl) (QGM _ q ?_)
 have hl_q_1:(q.2).length≤9223372036854775807:=hb.1.2.1.1
 refine ⟨fun h=>R_eq ?_,fun h=>QbR (Q:=fun x=>QcJ x=QcJ (Q3 q)) (p:=Yy) (c:=fun x=>!(Yy x)) (0,[]) hl_q_1 (fun _=>rfl) (fun i h=>QFk _ q i h) (R_eq ?_)⟩
 ·grind [Q3]
 ·grind [Q3]
theorem Qml:Ql Tryz.prog QeU:=Qn fun x _=>QHT x.1
def Qn0 (t:Bool):TRes:=zre (zcb t)
def Qo7:TRow:=Qk 99 [(.a Qh)] fun x=>(none,Qn0 (QaR x.1))
def QTW:List TRow:=[]
def QX3:TCode :=
 (zsq [(.reg [zop 1 (.box 97 0 2),zmv 2 (zkb false)]),(.reg [zfa 3 1 1,zld 4 3 1,zle 5 4,zfa 6 1 0,zld 7 6 1,zbi 8 .lss 5 7,zmv 2 8]),.ret])
def QHp:List (ARv × Md):=[(.t 2,.one .d)]
theorem QVm (q:Qd) (h :
 K (Qn0 (decide (((q.2).length:Int)<q.1)))):Hold (tawp QTW (0+0) QX3 (TQ 0 0 QHp K) (Qi [(.a [(.c TI q.1),(.c (.sl QN) q.2)])])) :=
 Hold.of (by kernel_rfl) h
theorem QEh (q:Qd):TCon Tryz.prog 99 [(.a [(.c TI q.1),(.c (.sl QN) q.2)])] (Qn0 (QaR q)):=by
 refine Qo rfl fun hb=>tcg (n:=9) (sg:=Qo7.sg) Qm TOk.nil (by kernel_rfl) (by kernel_rfl) (QVm _ q ?_)
 have hl_q_1:(q.2).length≤9223372036854775807:=hb.1.2.1.1
 exact R_eq rfl
theorem QN9:Ql Tryz.prog Qo7:=Qn fun x _=>QEh x.1
end
end Go.Proofs.YtjbdljkhbglnhaaGreat.Am

