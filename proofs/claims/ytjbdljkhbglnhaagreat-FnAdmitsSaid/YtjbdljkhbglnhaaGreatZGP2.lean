/- -/
import Derived.Test.YtjbdljkhbglnhaaGreatZGP1
namespace Go.Proofs.YtjbdljkhbglnhaaGreat.Am
open Go Go.RowKit Go.Proofs.YtjbdljkhbglnhaaGreat
set_option linter.all false
noncomputable section
variable (K:TRes→Prop)
def QkC (t:Bool):TRes:=zre (zcb t)
def Qhw:TRow:=Qi 178 [(.a Zf)] fun x=>(none,QkC (YD x.1))
def QLY:List TRow:=[Qba]
def QNI:TCode :=
 (zsq [(.reg [zop 1 (.box 114 0 2),zmv 2 (zkb false)]),(.reg [zfa 3 1 1,zld 4 3 1,zca 5 134 [4],zmv 6 5,.grp 6 true [zfa 7 1 0,zld 8 7 1,zbi 9 .geq 8 (zki 0)] 10 9,zmv 11 10,.grp 11 true [zfa 12 1 0,zld 13 12 1,zbi 14 .lss 13 (zki 5)] 15 14,zmv 2 15]),.ret])
def QHw:List (ARv × Md):=[(.t 2,.one .d)]
theorem QNF (x:Z1) (h :
 K (QkC (((QW x.2)&&(decide (x.1≥(0:Int))))&&(decide (x.1<(5:Int)))))):Hold (tawp QLY (0+0) QNI (TQ 0 0 QHw K) (Qf [(.a [(.c TI x.1),(.c (.sl [TI]) x.2)])])) :=
 Hold.of (by kernel_rfl) h
theorem QOQ (x:Z1):TCon Tryz.prog 178 [(.a [(.c TI x.1),(.c (.sl [TI]) x.2)])] (QkC (YD x)):=by
 refine Qr rfl fun hb=>tcg (n:=16) (sg:=Qhw.sg) Qk (TOk.cons Qce TOk.nil) (by kernel_rfl) (by kernel_rfl) (QNF _ x ?_)
 have hl_x_1:(x.2).length≤9223372036854775807:=hb.1.2.1.1
 exact R_eq (by grind [YD])
theorem Qxb:Qj Tryz.prog Qhw:=Ql fun x _=>QOQ x.1
def Qin (t:Bool):TRes:=zre (zcb t)
def Qkz:TRow:=Qi 103 [(.a QI)] fun x=>(none,Qin (Q2 x.1))
def Qi0:List TRow:=[Qb7,Jj]
def Qsv:TCode :=
 (zsq [(zsq [(.reg [zmv 4 3,zfa 5 1 1,zld 6 5 1,zle 7 6,zbi 8 .lss 4 7]),(.cond 8 .skip (.exit 0))]),(.block 1 (zsq [(.reg [zfa 11 1 1,zld 12 11 1,zmv 13 3,zia 14 12 13 Zf,zfa 15 14 1,zld 16 15 1,zca 17 42 [16],zno 18 17,zmv 19 18,.grp 19 false [zfa 20 1 1,zld 21 20 1,zmv 22 3,zia 23 21 22 Zf,zfa 24 23 0,zld 25 24 1,zca 26 77 [25,(zki 0),(zki 4)],zno 27 26] 28 27]),(.cond 28 (zsq [(.reg [zmv 2 (zkb false)]),.ret]) .skip)])),(.reg [zmv 9 3,zbi 10 .add 9 (zki 1),zmv 3 10])])
def Qwi:List (Nat × Md):=[(1,.b [.d,.d]),(3,.one .d)]
def Qyu:TCode :=
 (zsq [(.reg [zfa 29 1 0,zld 30 29 1,zca 31 77 [30,(zki 1),(zki 5)],zmv 32 31,.grp 32 true [zfa 33 1 1,zld 34 33 1,zle 35 34,zfa 36 1 0,zld 37 36 1,zbi 38 .leq 35 37] 39 38,zmv 2 39]),.ret])
def QIE:TCode :=
 (zsq [(.reg [zop 1 (.box 97 0 2),zmv 2 (zkb false)]),(zsq [(.reg [zmv 3 (zki 0)]),(.block 0 (.loop Qwi Qsv))]),Qyu])
def QqX:List (ARv × Md):=[(.t 2,.one .d)]
def Qr4:Qb:=TQ 0 0 QqX K
def QJM:Qb:=Qseq (tawp Qi0 0 Qyu (Qr4 K)) (Qr4 K)
def QHv:Qb:=Qblk 0 (QJM K)
def Qgp (q:Qm) (i:Int):Prop:=Loop Qi0 0 Qwi Qsv (QHv K) ⟨[(1,(.p 0 0 0)),(3,(zci i))],[(0,(.box [(zci q.1),(zcs Zf q.2)]))],1⟩
theorem Qt2 (q:Qm) (i:Int) (h :
 (zif (decide (i<((q.2).length:Int))) ((((0:Int)≤i∧Int.toNat i<(q.2).length)∧((!(!(QW ((gtd ((0,[]):Z1) q.2 (Int.toNat i)).2))))=true→((0:Int)≤i∧Int.toNat i<(q.2).length)))∧(zif ((!(QW ((gtd ((0,[]):Z1) q.2 (Int.toNat i)).2)))||(!(m_in ((gtd ((0,[]):Z1) q.2 (Int.toNat i)).1) (0:Int) (4:Int)))) (K (Qin false)) (Qgp K q (w64 (i+(1:Int)))))) (K (Qin ((m_in q.1 (1:Int) (5:Int))&&(decide (((q.2).length:Int)≤q.1))))))):Qgp K q i :=
 Loop.of (by kernel_rfl) h
theorem Qzz (q:Qm) (h :
 (Qgp K q 0)):Hold (tawp Qi0 (0+0) QIE (TQ 0 0 QqX K) (Qf [(.a [(.c TI q.1),(.c (.sl Zf) q.2)])])) :=
 Hold.of (by kernel_rfl) h
theorem QL0 (q:Qm):TCon Tryz.prog 103 [(.a [(.c TI q.1),(.c (.sl Zf) q.2)])] (Qin (Q2 q)):=by
 refine Qr rfl fun hb=>tcg (n:=40) (sg:=Qkz.sg) Qk (TOk.cons Qea (TOk.cons JM TOk.nil)) (by kernel_rfl) (by kernel_rfl) (Qzz _ q ?_)
 have hl_q_1:(q.2).length≤9223372036854775807:=hb.1.2.1.1
 refine Zz q.2 (fun r k=>r.all YD=q.2.all YD→Qgp _ q k) ?_ ?_ rfl
 ·intro he
  refine Qt2 _ q _ ⟨fun h=>by simp at h,fun _=>?_⟩
  grind [Q2,m_in]
 ·intro k x r hk hlt hg ih he
  refine Qt2 _ q _ ⟨fun _=>?_,fun h=>by simp at h;omega⟩
  rw [Int.toNat_natCast,hg,Qp (by omega) (by omega)]
  grind [Q2,YD,m_in]
theorem QKU:Qj Tryz.prog Qkz:=Ql fun x _=>QL0 x.1
def Qb5 (t:Bool):TRes:=zre (zcb t)
def QeD:TRow:=Qi 135 [(.a QI)] fun x=>(none,Qb5 (Q2 x.1))
def QnM:List TRow:=[Qhw]
def QpR:TCode :=
 (zsq [(.reg [zbi 25 .lss 24 23]),(.cond 25 .skip (.exit 0)),(.block 1 (zsq [(.reg [zia 26 22 24 Zf,zLd 27 26 2,zop 4 (.new 114 (z0s Zf)),zst 4 27 2]),(.reg [zLd 28 4 2,zca 29 178 [28],zno 30 29]),(.cond 30 (zsq [(.reg [zmv 2 (zkb false)]),.ret]) .skip)])),(.reg [zbi 31 .add 24 (zki 1),zmv 24 31])])
def Qr7:List (Nat × Md):=zdl [22,23,24]
def Qx3:TCode :=
 (zsq [(.reg [zmv 2 (zkb true)]),.ret])
def QDF:TCode :=
 (zsq [(.reg [zop 1 (.box 97 0 2),zmv 2 (zkb false)]),(zsq [(.reg [zfa 5 1 0,zld 6 5 1,zbi 7 .lss 6 (zki 1),zmv 8 7,.grp 8 false [zfa 9 1 0,zld 10 9 1,zbi 11 .gtr 10 (zki 5)] 12 11,zmv 13 12,.grp 13 false [zfa 14 1 1,zld 15 14 1,zle 16 15,zfa 17 1 0,zld 18 17 1,zbi 19 .gtr 16 18] 20 19]),(.cond 20 (zsq [(.reg [zmv 2 (zkb false)]),.ret]) .skip)]),(zsq [(.reg [zfa 21 1 1,zld 22 21 1,zle 23 22,zmv 24 (zki 0)]),(.block 0 (.loop Qr7 QpR))]),Qx3])
def Qtq:List (ARv × Md):=[(.t 2,.one .d)]
def Qpw:Qb:=TQ 0 0 Qtq K
def QAo:Qb:=Qseq (tawp QnM 0 Qx3 (Qpw K)) (Qpw K)
def QzO:Qb:=Qblk 0 (QAo K)
def QmO (q:Qm) (x:Int):Prop:=Loop QnM 0 Qr7 QpR (QzO K) ⟨[(22,(zcs Zf q.2)),(23,(zci ((q.2).length:Int))),(24,(zci x))],[],0⟩
theorem QAY (q:Qm) (x:Int) (h :
 (zif (decide (x<((q.2).length:Int))) (((0:Int)≤x∧Int.toNat x<(q.2).length)∧(zif (!(YD (gtd ((0,[]):Z1) q.2 (Int.toNat x)))) (K (Qb5 false)) (QmO K q (w64 (x+(1:Int)))))) (K (Qb5 true)))):QmO K q x :=
 Loop.of (by kernel_rfl) h
theorem QPH (q:Qm) (h :
 (zif (((decide (q.1<(1:Int)))||(decide (q.1>(5:Int))))||(decide (((q.2).length:Int)>q.1))) (K (Qb5 false)) (QmO K q 0))):Hold (tawp QnM (0+0) QDF (TQ 0 0 Qtq K) (Qf [(.a [(.c TI q.1),(.c (.sl Zf) q.2)])])) :=
 Hold.of (by kernel_rfl) h
theorem QGQ (q:Qm):TCon Tryz.prog 135 [(.a [(.c TI q.1),(.c (.sl Zf) q.2)])] (Qb5 (Q2 q)):=by
 refine Qr rfl fun hb=>tcg (n:=32) (sg:=QeD.sg) Qk (TOk.cons Qxb TOk.nil) (by kernel_rfl) (by kernel_rfl) (QPH _ q ?_)
 have hl_q_1:(q.2).length≤9223372036854775807:=hb.1.2.1.1
 refine ⟨fun h=>R_eq ?_,fun h=>Qa1 (Q:=fun x=>Qb5 x=Qb5 (Q2 q)) (p:=YD) (c:=fun x=>!(YD x)) (0,[]) hl_q_1 (fun _=>rfl) (fun i h=>QAY _ q i h) (R_eq ?_)⟩
 ·grind [Q2]
 ·grind [Q2]
theorem QmY:Qj Tryz.prog QeD:=Ql fun x _=>QGQ x.1
def Qnv (t:Bool):TRes:=zre (zcb t)
def QnI:TRow:=Qi 99 [(.a QI)] fun x=>(none,Qnv (Qa8 x.1))
def QF0:List TRow:=[]
def QOJ:TCode :=
 (zsq [(.reg [zop 1 (.box 97 0 2),zmv 2 (zkb false)]),(.reg [zfa 3 1 1,zld 4 3 1,zle 5 4,zfa 6 1 0,zld 7 6 1,zbi 8 .lss 5 7,zmv 2 8]),.ret])
def QLf:List (ARv × Md):=[(.t 2,.one .d)]
theorem QCs (q:Qm) (h :
 K (Qnv (decide (((q.2).length:Int)<q.1)))):Hold (tawp QF0 (0+0) QOJ (TQ 0 0 QLf K) (Qf [(.a [(.c TI q.1),(.c (.sl Zf) q.2)])])) :=
 Hold.of (by kernel_rfl) h
theorem QMy (q:Qm):TCon Tryz.prog 99 [(.a [(.c TI q.1),(.c (.sl Zf) q.2)])] (Qnv (Qa8 q)):=by
 refine Qr rfl fun hb=>tcg (n:=9) (sg:=QnI.sg) Qk TOk.nil (by kernel_rfl) (by kernel_rfl) (QCs _ q ?_)
 have hl_q_1:(q.2).length≤9223372036854775807:=hb.1.2.1.1
 exact R_eq rfl
theorem QKD:Qj Tryz.prog QnI:=Ql fun x _=>QMy x.1
end
end Go.Proofs.YtjbdljkhbglnhaaGreat.Am

