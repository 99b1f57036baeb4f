/- -/
import Derived.Test.YtjbdljkhbglnhaaGreatZDP1
namespace Go.Proofs.YtjbdljkhbglnhaaGreat.Am
open Go Go.RowKit Go.Proofs.YtjbdljkhbglnhaaGreat
set_option linter.all false
noncomputable section
variable (K:TRes→Prop)
def Qp5 (t:Bool):TRes:=zre (zcb t)
def Qi4:TRow:=Qj 178 [(.a QO)] fun x=>(none,Qp5 (Yv x.1))
def QOm:List TRow:=[Qbg]
def QU7:TCode :=
 (zsq [(.reg [zop 1 (.box 114 0 2),zmv 2 (zkb false)]),(.reg [zfa 3 1 1,zld 4 3 1,zca 5 134 [4],zmv 6 5,.grp 6 true [zfa 7 1 0,zld 8 7 1,zbi 9 .geq 8 (zki 0)] 10 9,zmv 11 10,.grp 11 true [zfa 12 1 0,zld 13 12 1,zbi 14 .lss 13 (zki 5)] 15 14,zmv 2 15]),.ret])
def QX0:List (ARv × Md):=[(.t 2,.one .d)]
theorem QMI (x:Zc) (h :
 K (Qp5 (((QK x.2)&&(decide (x.1≥(0:Int))))&&(decide (x.1<(5:Int)))))):Hold (tawp QOm (0+0) QU7 (TQ 0 0 QX0 K) (Qh [(.a [(.c TI x.1),(.c (.sl [TI]) x.2)])])) :=
 Hold.of (by kernel_rfl) h
theorem QUm (x:Zc):TCon Tryz.prog 178 [(.a [(.c TI x.1),(.c (.sl [TI]) x.2)])] (Qp5 (Yv x)):=by
 refine Qo rfl fun hb=>tcg (n:=16) (sg:=Qi4.sg) Ql (TOk.cons QcB TOk.nil) (by kernel_rfl) (by kernel_rfl) (QMI _ x ?_)
 have hl_x_1:(x.2).length≤9223372036854775807:=hb.1.2.1.1
 exact R_eq (by grind [Yv])
theorem Qq2:Qi Tryz.prog Qi4:=Qm fun x _=>QUm x.1
def QhK (t:Bool):TRes:=zre (zcb t)
def Qfk:TRow:=Qj 103 [(.a Qk)] fun x=>(none,QhK (Q0 x.1))
def QpT:List TRow:=[Y6,YL]
def QE7:TCode :=
 (zsq [(zsq [(.reg [zmv 4 3,zfa 5 1 1,zld 6 5 1,zle 7 6,zbi 8 .lss 4 7]),(.cond 8 .skip (.exit 0))]),(.block 1 (zsq [(.reg [zfa 11 1 1,zld 12 11 1,zmv 13 3,zia 14 12 13 QO,zfa 15 14 1,zld 16 15 1,zca 17 42 [16],zno 18 17,zmv 19 18,.grp 19 false [zfa 20 1 1,zld 21 20 1,zmv 22 3,zia 23 21 22 QO,zfa 24 23 0,zld 25 24 1,zca 26 77 [25,(zki 0),(zki 4)],zno 27 26] 28 27]),(.cond 28 (zsq [(.reg [zmv 2 (zkb false)]),.ret]) .skip)])),(.reg [zmv 9 3,zbi 10 .add 9 (zki 1),zmv 3 10])])
def QxD:List (Nat × Md):=[(1,.b [.d,.d]),(3,.one .d)]
def QER:TCode :=
 (zsq [(.reg [zfa 29 1 0,zld 30 29 1,zca 31 77 [30,(zki 1),(zki 5)],zmv 32 31,.grp 32 true [zfa 33 1 1,zld 34 33 1,zle 35 34,zfa 36 1 0,zld 37 36 1,zbi 38 .leq 35 37] 39 38,zmv 2 39]),.ret])
def QTl:TCode :=
 (zsq [(.reg [zop 1 (.box 97 0 2),zmv 2 (zkb false)]),(zsq [(.reg [zmv 3 (zki 0)]),(.block 0 (.loop QxD QE7))]),QER])
def Qzv:List (ARv × Md):=[(.t 2,.one .d)]
def Qvd:Qb:=TQ 0 0 Qzv K
def QPg:Qb:=Qseq (tawp QpT 0 QER (Qvd K)) (Qvd K)
def QL0:Qb:=Qblk 0 (QPg K)
def Qis (q:Qd) (i:Int):Prop:=Loop QpT 0 QxD QE7 (QL0 K) ⟨[(1,(.p 0 0 0)),(3,(zci i))],[(0,(.box [(zci q.1),(zcs QO q.2)]))],1⟩
theorem QwW (q:Qd) (i:Int) (h :
 (zif (decide (i<((q.2).length:Int))) ((((0:Int)≤i∧Int.toNat i<(q.2).length)∧((!(!(QK ((gtd ((0,[]):Zc) q.2 (Int.toNat i)).2))))=true→((0:Int)≤i∧Int.toNat i<(q.2).length)))∧(zif ((!(QK ((gtd ((0,[]):Zc) q.2 (Int.toNat i)).2)))||(!(m_in ((gtd ((0,[]):Zc) q.2 (Int.toNat i)).1) (0:Int) (4:Int)))) (K (QhK false)) (Qis K q (w64 (i+(1:Int)))))) (K (QhK ((m_in q.1 (1:Int) (5:Int))&&(decide (((q.2).length:Int)≤q.1))))))):Qis K q i :=
 Loop.of (by kernel_rfl) h
theorem QKT (q:Qd) (h :
 (Qis K q 0)):Hold (tawp QpT (0+0) QTl (TQ 0 0 Qzv K) (Qh [(.a [(.c TI q.1),(.c (.sl QO) q.2)])])) :=
 Hold.of (by kernel_rfl) h
theorem QLe (q:Qd):TCon Tryz.prog 103 [(.a [(.c TI q.1),(.c (.sl QO) q.2)])] (QhK (Q0 q)):=by
 refine Qo rfl fun hb=>tcg (n:=40) (sg:=Qfk.sg) Ql (TOk.cons Jp (TOk.cons Y2 TOk.nil)) (by kernel_rfl) (by kernel_rfl) (QKT _ q ?_)
 have hl_q_1:(q.2).length≤9223372036854775807:=hb.1.2.1.1
 refine Zj q.2 (fun r k=>r.all Yv=q.2.all Yv→Qis _ q k) ?_ ?_ rfl
 ·intro he
  refine QwW _ q _ ⟨fun h=>by simp at h,fun _=>?_⟩
  grind [Q0,m_in]
 ·intro k x r hk hlt hg ih he
  refine QwW _ q _ ⟨fun _=>?_,fun h=>by simp at h;omega⟩
  rw [Int.toNat_natCast,hg,Qt (by omega) (by omega)]
  grind [Q0,Yv,m_in]
theorem QpP:Qi Tryz.prog Qfk:=Qm fun x _=>QLe x.1
def Qc3 (t:Bool):TRes:=zre (zcb t)
def Qgs:TRow:=Qj 135 [(.a Qk)] fun x=>(none,Qc3 (Q0 x.1))
def QpB:List TRow:=[Qi4]
def Qsw:TCode :=
 (zsq [(.reg [zbi 25 .lss 24 23]),(.cond 25 .skip (.exit 0)),(.block 1 (zsq [(.reg [zia 26 22 24 QO,zLd 27 26 2,zop 4 (.new 114 (z0s QO)),zst 4 27 2]),(.reg [zLd 28 4 2,zca 29 178 [28],zno 30 29]),(.cond 30 (zsq [(.reg [zmv 2 (zkb false)]),.ret]) .skip)])),(.reg [zbi 31 .add 24 (zki 1),zmv 24 31])])
def QCR:List (Nat × Md):=zdl [22,23,24]
def QzD:TCode :=
 (zsq [(.reg [zmv 2 (zkb true)]),.ret])
def QVm:TCode :=
 (zsq [(.reg [zop 1 (.box 97 0 2),zmv 2 (zkb false)]),(zsq [(.reg [zfa 5 1 0,zld 6 5 1,zbi 7 .lss 6 (zki 1),zmv 8 7,.grp 8 false [zfa 9 1 0,zld 10 9 1,zbi 11 .gtr 10 (zki 5)] 12 11,zmv 13 12,.grp 13 false [zfa 14 1 1,zld 15 14 1,zle 16 15,zfa 17 1 0,zld 18 17 1,zbi 19 .gtr 16 18] 20 19]),(.cond 20 (zsq [(.reg [zmv 2 (zkb false)]),.ret]) .skip)]),(zsq [(.reg [zfa 21 1 1,zld 22 21 1,zle 23 22,zmv 24 (zki 0)]),(.block 0 (.loop QCR Qsw))]),QzD])
def QDV:List (ARv × Md):=[(.t 2,.one .d)]
def QCz:Qb:=TQ 0 0 QDV K
def QLB:Qb:=Qseq (tawp QpB 0 QzD (QCz K)) (QCz K)
def QTM:Qb:=Qblk 0 (QLB K)
def QnE (q:Qd) (x:Int):Prop:=Loop QpB 0 QCR Qsw (QTM K) ⟨[(22,(zcs QO q.2)),(23,(zci ((q.2).length:Int))),(24,(zci x))],[],0⟩
theorem QYL (q:Qd) (x:Int) (h :
 (zif (decide (x<((q.2).length:Int))) (((0:Int)≤x∧Int.toNat x<(q.2).length)∧(zif (!(Yv (gtd ((0,[]):Zc) q.2 (Int.toNat x)))) (K (Qc3 false)) (QnE K q (w64 (x+(1:Int)))))) (K (Qc3 true)))):QnE K q x :=
 Loop.of (by kernel_rfl) h
theorem QJa (q:Qd) (h :
 (zif (((decide (q.1<(1:Int)))||(decide (q.1>(5:Int))))||(decide (((q.2).length:Int)>q.1))) (K (Qc3 false)) (QnE K q 0))):Hold (tawp QpB (0+0) QVm (TQ 0 0 QDV K) (Qh [(.a [(.c TI q.1),(.c (.sl QO) q.2)])])) :=
 Hold.of (by kernel_rfl) h
theorem QWa (q:Qd):TCon Tryz.prog 135 [(.a [(.c TI q.1),(.c (.sl QO) q.2)])] (Qc3 (Q0 q)):=by
 refine Qo rfl fun hb=>tcg (n:=32) (sg:=Qgs.sg) Ql (TOk.cons Qq2 TOk.nil) (by kernel_rfl) (by kernel_rfl) (QJa _ q ?_)
 have hl_q_1:(q.2).length≤9223372036854775807:=hb.1.2.1.1
 refine ⟨fun h=>R_eq ?_,fun h=>Qb4 (Q:=fun x=>Qc3 x=Qc3 (Q0 q)) (p:=Yv) (c:=fun x=>!(Yv x)) (0,[]) hl_q_1 (fun _=>rfl) (fun i h=>QYL _ q i h) (R_eq ?_)⟩
 ·grind [Q0]
 ·grind [Q0]
theorem Qqm:Qi Tryz.prog Qgs:=Qm fun x _=>QWa x.1
def Ql8 (t:Bool):TRes:=zre (zcb t)
def Qlp:TRow:=Qj 99 [(.a Qk)] fun x=>(none,Ql8 (Qaz x.1))
def QXe:List TRow:=[]
def QVD:TCode :=
 (zsq [(.reg [zop 1 (.box 97 0 2),zmv 2 (zkb false)]),(.reg [zfa 3 1 1,zld 4 3 1,zle 5 4,zfa 6 1 0,zld 7 6 1,zbi 8 .lss 5 7,zmv 2 8]),.ret])
def QKX:List (ARv × Md):=[(.t 2,.one .d)]
theorem QV2 (q:Qd) (h :
 K (Ql8 (decide (((q.2).length:Int)<q.1)))):Hold (tawp QXe (0+0) QVD (TQ 0 0 QKX K) (Qh [(.a [(.c TI q.1),(.c (.sl QO) q.2)])])) :=
 Hold.of (by kernel_rfl) h
theorem QFe (q:Qd):TCon Tryz.prog 99 [(.a [(.c TI q.1),(.c (.sl QO) q.2)])] (Ql8 (Qaz q)):=by
 refine Qo rfl fun hb=>tcg (n:=9) (sg:=Qlp.sg) Ql TOk.nil (by kernel_rfl) (by kernel_rfl) (QV2 _ q ?_)
 have hl_q_1:(q.2).length≤9223372036854775807:=hb.1.2.1.1
 exact R_eq rfl
theorem QF4:Qi Tryz.prog Qlp:=Qm fun x _=>QFe x.1
end
end Go.Proofs.YtjbdljkhbglnhaaGreat.Am

