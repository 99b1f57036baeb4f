/- -/
import Derived.Test.YtjbdljkhbglnhaaGreatZEP1
namespace Go.Proofs.YtjbdljkhbglnhaaGreat.Am
open Go Go.RowKit Go.Proofs.YtjbdljkhbglnhaaGreat
set_option linter.all false
noncomputable section
variable (K:TRes→Prop)
def Qlj (t:Bool):TRes:=zre (zcb t)
def QhT:TRow:=Qk 178 [(.a QO)] fun x=>(none,Qlj (Yv x.1))
def QHn:List TRow:=[Qa6]
def QQe:TCode :=
 (zsq [(.reg [zop 1 (.box 114 0 2),zmv 2 (zkb false)]),(.reg [zfa 3 1 1,zld 4 3 1,zca 5 134 [4],zmv 6 5,.grp 6 true [zfa 7 1 0,zld 8 7 1,zbi 9 .geq 8 (zki 0)] 10 9,zmv 11 10,.grp 11 true [zfa 12 1 0,zld 13 12 1,zbi 14 .lss 13 (zki 5)] 15 14,zmv 2 15]),.ret])
def QGu:List (ARv × Md):=[(.t 2,.one .d)]
theorem QQY (x:Zb) (h :
 K (Qlj (((QJ x.2)&&(decide (x.1≥(0:Int))))&&(decide (x.1<(5:Int)))))):Hold (tawp QHn (0+0) QQe (TQ 0 0 QGu K) (Qg [(.a [(.c TI x.1),(.c (.sl [TI]) x.2)])])) :=
 Hold.of (by kernel_rfl) h
theorem QUZ (x:Zb):TCon Tryz.prog 178 [(.a [(.c TI x.1),(.c (.sl [TI]) x.2)])] (Qlj (Yv x)):=by
 refine Qo rfl fun hb=>tcg (n:=16) (sg:=QhT.sg) Qm (TOk.cons Qdc TOk.nil) (by kernel_rfl) (by kernel_rfl) (QQY _ x ?_)
 have hl_x_1:(x.2).length≤9223372036854775807:=hb.1.2.1.1
 exact R_eq (by grind [Yv])
theorem Qyh:Qj Tryz.prog QhT:=Qn fun x _=>QUZ x.1
def Qkz (t:Bool):TRes:=zre (zcb t)
def QfS:TRow:=Qk 103 [(.a Qi)] fun x=>(none,Qkz (Q1 x.1))
def Qpk:List TRow:=[Y7,YO]
def Qx3:TCode :=
 (zsq [(zsq [(.reg [zmv 4 3,zfa 5 1 1,zld 6 5 1,zle 7 6,zbi 8 .lss 4 7]),(.cond 8 .skip (.exit 0))]),(.block 1 (zsq [(.reg [zfa 11 1 1,zld 12 11 1,zmv 13 3,zia 14 12 13 QO,zfa 15 14 1,zld 16 15 1,zca 17 42 [16],zno 18 17,zmv 19 18,.grp 19 false [zfa 20 1 1,zld 21 20 1,zmv 22 3,zia 23 21 22 QO,zfa 24 23 0,zld 25 24 1,zca 26 77 [25,(zki 0),(zki 4)],zno 27 26] 28 27]),(.cond 28 (zsq [(.reg [zmv 2 (zkb false)]),.ret]) .skip)])),(.reg [zmv 9 3,zbi 10 .add 9 (zki 1),zmv 3 10])])
def QuM:List (Nat × Md):=[(1,.b [.d,.d]),(3,.one .d)]
def Qti:TCode :=
 (zsq [(.reg [zfa 29 1 0,zld 30 29 1,zca 31 77 [30,(zki 1),(zki 5)],zmv 32 31,.grp 32 true [zfa 33 1 1,zld 34 33 1,zle 35 34,zfa 36 1 0,zld 37 36 1,zbi 38 .leq 35 37] 39 38,zmv 2 39]),.ret])
def QFo:TCode :=
 (zsq [(.reg [zop 1 (.box 97 0 2),zmv 2 (zkb false)]),(zsq [(.reg [zmv 3 (zki 0)]),(.block 0 (.loop QuM Qx3))]),Qti])
def QDO:List (ARv × Md):=[(.t 2,.one .d)]
def Qzu:Qb:=TQ 0 0 QDO K
def QJg:Qb:=Qseq (tawp Qpk 0 Qti (Qzu K)) (Qzu K)
def QYZ:Qb:=Qblk 0 (QJg K)
def QhS (q:Qd) (i:Int):Prop:=Loop Qpk 0 QuM Qx3 (QYZ K) ⟨[(1,(.p 0 0 0)),(3,(zci i))],[(0,(.box [(zci q.1),(zcs QO q.2)]))],1⟩
theorem Qr2 (q:Qd) (i:Int) (h :
 (zif (decide (i<((q.2).length:Int))) ((((0:Int)≤i∧Int.toNat i<(q.2).length)∧((!(!(QJ ((gtd ((0,[]):Zb) q.2 (Int.toNat i)).2))))=true→((0:Int)≤i∧Int.toNat i<(q.2).length)))∧(zif ((!(QJ ((gtd ((0,[]):Zb) q.2 (Int.toNat i)).2)))||(!(m_in ((gtd ((0,[]):Zb) q.2 (Int.toNat i)).1) (0:Int) (4:Int)))) (K (Qkz false)) (QhS K q (w64 (i+(1:Int)))))) (K (Qkz ((m_in q.1 (1:Int) (5:Int))&&(decide (((q.2).length:Int)≤q.1))))))):QhS K q i :=
 Loop.of (by kernel_rfl) h
theorem QTR (q:Qd) (h :
 (QhS K q 0)):Hold (tawp Qpk (0+0) QFo (TQ 0 0 QDO K) (Qg [(.a [(.c TI q.1),(.c (.sl QO) q.2)])])) :=
 Hold.of (by kernel_rfl) h
theorem QTO (q:Qd):TCon Tryz.prog 103 [(.a [(.c TI q.1),(.c (.sl QO) q.2)])] (Qkz (Q1 q)):=by
 refine Qo rfl fun hb=>tcg (n:=40) (sg:=QfS.sg) Qm (TOk.cons Jp (TOk.cons YX TOk.nil)) (by kernel_rfl) (by kernel_rfl) (QTR _ q ?_)
 have hl_q_1:(q.2).length≤9223372036854775807:=hb.1.2.1.1
 refine Zp q.2 (fun r k=>r.all Yv=q.2.all Yv→QhS _ q k) ?_ ?_ rfl
 ·intro he
  refine Qr2 _ q _ ⟨fun h=>by simp at h,fun _=>?_⟩
  grind [Q1,m_in]
 ·intro k x r hk hlt hg ih he
  refine Qr2 _ q _ ⟨fun _=>?_,fun h=>by simp at h;omega⟩
  rw [Int.toNat_natCast,hg,Qr (by omega) (by omega)]
  grind [Q1,Yv,m_in]
theorem Qmn:Qj Tryz.prog QfS:=Qn fun x _=>QTO x.1
def Qdm (t:Bool):TRes:=zre (zcb t)
def Qf5:TRow:=Qk 135 [(.a Qi)] fun x=>(none,Qdm (Q1 x.1))
def Qqb:List TRow:=[QhT]
def QAW:TCode :=
 (zsq [(.reg [zbi 25 .lss 24 23]),(.cond 25 .skip (.exit 0)),(.block 1 (zsq [(.reg [zia 26 22 24 QO,zLd 27 26 2,zop 4 (.new 114 (z0s QO)),zst 4 27 2]),(.reg [zLd 28 4 2,zca 29 178 [28],zno 30 29]),(.cond 30 (zsq [(.reg [zmv 2 (zkb false)]),.ret]) .skip)])),(.reg [zbi 31 .add 24 (zki 1),zmv 24 31])])
def Qyu:List (Nat × Md):=zdl [22,23,24]
def QCO:TCode :=
 (zsq [(.reg [zmv 2 (zkb true)]),.ret])
def QKl:TCode :=
 (zsq [(.reg [zop 1 (.box 97 0 2),zmv 2 (zkb false)]),(zsq [(.reg [zfa 5 1 0,zld 6 5 1,zbi 7 .lss 6 (zki 1),zmv 8 7,.grp 8 false [zfa 9 1 0,zld 10 9 1,zbi 11 .gtr 10 (zki 5)] 12 11,zmv 13 12,.grp 13 false [zfa 14 1 1,zld 15 14 1,zle 16 15,zfa 17 1 0,zld 18 17 1,zbi 19 .gtr 16 18] 20 19]),(.cond 20 (zsq [(.reg [zmv 2 (zkb false)]),.ret]) .skip)]),(zsq [(.reg [zfa 21 1 1,zld 22 21 1,zle 23 22,zmv 24 (zki 0)]),(.block 0 (.loop Qyu QAW))]),QCO])
def Qyn:List (ARv × Md):=[(.t 2,.one .d)]
def Qyw:Qb:=TQ 0 0 Qyn K
def QPT:Qb:=Qseq (tawp Qqb 0 QCO (Qyw K)) (Qyw K)
def QY1:Qb:=Qblk 0 (QPT K)
def QnZ (q:Qd) (x:Int):Prop:=Loop Qqb 0 Qyu QAW (QY1 K) ⟨[(22,(zcs QO q.2)),(23,(zci ((q.2).length:Int))),(24,(zci x))],[],0⟩
theorem QHL (q:Qd) (x:Int) (h :
 (zif (decide (x<((q.2).length:Int))) (((0:Int)≤x∧Int.toNat x<(q.2).length)∧(zif (!(Yv (gtd ((0,[]):Zb) q.2 (Int.toNat x)))) (K (Qdm false)) (QnZ K q (w64 (x+(1:Int)))))) (K (Qdm true)))):QnZ K q x :=
 Loop.of (by kernel_rfl) h
theorem QIh (q:Qd) (h :
 (zif (((decide (q.1<(1:Int)))||(decide (q.1>(5:Int))))||(decide (((q.2).length:Int)>q.1))) (K (Qdm false)) (QnZ K q 0))):Hold (tawp Qqb (0+0) QKl (TQ 0 0 Qyn K) (Qg [(.a [(.c TI q.1),(.c (.sl QO) q.2)])])) :=
 Hold.of (by kernel_rfl) h
theorem QS5 (q:Qd):TCon Tryz.prog 135 [(.a [(.c TI q.1),(.c (.sl QO) q.2)])] (Qdm (Q1 q)):=by
 refine Qo rfl fun hb=>tcg (n:=32) (sg:=Qf5.sg) Qm (TOk.cons Qyh TOk.nil) (by kernel_rfl) (by kernel_rfl) (QIh _ q ?_)
 have hl_q_1:(q.2).length≤9223372036854775807:=hb.1.2.1.1
 refine ⟨fun h=>R_eq ?_,fun h=>QbA (Q:=fun x=>Qdm x=Qdm (Q1 q)) (p:=Yv) (c:=fun x=>!(Yv x)) (0,[]) hl_q_1 (fun _=>rfl) (fun i h=>QHL _ q i h) (R_eq ?_)⟩
 ·grind [Q1]
 ·grind [Q1]
theorem QnG:Qj Tryz.prog Qf5:=Qn fun x _=>QS5 x.1
def QlO (t:Bool):TRes:=zre (zcb t)
def Qme:TRow:=Qk 99 [(.a Qi)] fun x=>(none,QlO (QaO x.1))
def QHe:List TRow:=[]
def QOB:TCode :=
 (zsq [(.reg [zop 1 (.box 97 0 2),zmv 2 (zkb false)]),(.reg [zfa 3 1 1,zld 4 3 1,zle 5 4,zfa 6 1 0,zld 7 6 1,zbi 8 .lss 5 7,zmv 2 8]),.ret])
def QTD:List (ARv × Md):=[(.t 2,.one .d)]
theorem QWQ (q:Qd) (h :
 K (QlO (decide (((q.2).length:Int)<q.1)))):Hold (tawp QHe (0+0) QOB (TQ 0 0 QTD K) (Qg [(.a [(.c TI q.1),(.c (.sl QO) q.2)])])) :=
 Hold.of (by kernel_rfl) h
theorem QF8 (q:Qd):TCon Tryz.prog 99 [(.a [(.c TI q.1),(.c (.sl QO) q.2)])] (QlO (QaO q)):=by
 refine Qo rfl fun hb=>tcg (n:=9) (sg:=Qme.sg) Qm TOk.nil (by kernel_rfl) (by kernel_rfl) (QWQ _ q ?_)
 have hl_q_1:(q.2).length≤9223372036854775807:=hb.1.2.1.1
 exact R_eq rfl
theorem QTg:Qj Tryz.prog Qme:=Qn fun x _=>QF8 x.1
end
end Go.Proofs.YtjbdljkhbglnhaaGreat.Am

