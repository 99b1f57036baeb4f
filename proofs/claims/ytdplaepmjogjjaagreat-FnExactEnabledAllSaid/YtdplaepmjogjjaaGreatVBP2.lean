/- -/
import Derived.Test.YtdplaepmjogjjaaGreatVBP1
namespace Go.Proofs.YtdplaepmjogjjaaGreat.Am
open Go Go.RowKit Go.Proofs.YtdplaepmjogjjaaGreat
set_option linter.all false
noncomputable section
variable (K:TRes→Prop)
def QfB (t:Bool):TRes:=zre (zcb t)
def Qf3:TRow:=Qi 221 [(.a Qu)] fun x=>(none,QfB (Ym x.1))
def Qlp:TTab:=⟨[Qco],false⟩
def QFs:TCode :=
 (zsq [(.reg [zop 1 (.box 178 0 2),zmv 2 (zkb false)]),(.reg [zfa 3 1 1,zld 4 3 1,zca 5 187 [4],zmv 6 5,.grp 6 true [zfa 7 1 0,zld 8 7 1,zbi 9 .geq 8 (zki 0)] 10 9,zmv 11 10,.grp 11 true [zfa 12 1 0,zld 13 12 1,zbi 14 .lss 13 (zki 5)] 15 14,zmv 2 15]),.ret])
def QE5:List (ARv × Md):=[(.t 2,.one .d)]
theorem QFC (x:Qe) (h :
 K (QfB (((QS x.2)&&(decide (x.1≥(0:Int))))&&(decide (x.1<(5:Int)))))):Hold (tawp Qlp (0+0) QFs (TQ 0 0 QE5 K) (Qg [(.a [(.c TI x.1),(.c (.sl [TI]) x.2)])])) :=
 Hold.of (by kernel_rfl) h
theorem QwZ (x:Qe):TCon Tryz.prog 221 [(.a [(.c TI x.1),(.c (.sl [TI]) x.2)])] (QfB (Ym x)):=by
 refine Qk rfl fun hb=>tcg (Γ:=Qlp) (n:=16) (sg:=Qf3.sg) Ql (TOkL.cons Qhz TOkL.nil) (by kernel_rfl) (by kernel_rfl) (QFC _ x ?_)
 have hl_x_1:(x.2).length≤9223372036854775807:=hb.1.2.1.1
 exact R_eq (by grind [Ym])
theorem Qx6:Qj Tryz.prog Qf3:=Qn fun x _=>QwZ x.1
def QcT (t:Bool):TRes:=zre (zcb t)
def QiJ:TRow:=Qi 218 [(.a Qt)] fun x=>(none,QcT (QJ x.1))
def Qda:TTab:=⟨[Qbd,ZP],false⟩
def Ql9:TCode :=
 (zsq [(zsq [(.reg [zmv 4 3,zfa 5 1 1,zld 6 5 1,zle 7 6,zbi 8 .lss 4 7]),(.cond 8 .skip (.exit 0))]),(.block 1 (zsq [(.reg [zfa 11 1 1,zld 12 11 1,zmv 13 3,zia 14 12 13 Qu,zfa 15 14 1,zld 16 15 1,zca 17 97 [16],zno 18 17,zmv 19 18,.grp 19 false [zfa 20 1 1,zld 21 20 1,zmv 22 3,zia 23 21 22 Qu,zfa 24 23 0,zld 25 24 1,zca 26 158 [25,(zki 0),(zki 4)],zno 27 26] 28 27]),(.cond 28 (zsq [(.reg [zmv 2 (zkb false)]),.ret]) .skip)])),(.reg [zmv 9 3,zbi 10 .add 9 (zki 1),zmv 3 10])])
def QoY:List (Nat × Md):=[(1,.b [.d,.d]),(3,.one .d)]
def Qoh:TCode :=
 (zsq [(.reg [zfa 29 1 0,zld 30 29 1,zca 31 158 [30,(zki 1),(zki 5)],zmv 32 31,.grp 32 true [zfa 33 1 1,zld 34 33 1,zle 35 34,zfa 36 1 0,zld 37 36 1,zbi 38 .leq 35 37] 39 38,zmv 2 39]),.ret])
def QCS:TCode :=
 (zsq [(.reg [zop 1 (.box 161 0 2),zmv 2 (zkb false)]),(zsq [(.reg [zmv 3 (zki 0)]),(.block 0 (.loop QoY Ql9))]),Qoh])
def Qpz:List (ARv × Md):=[(.t 2,.one .d)]
def QmA:Qb:=TQ 0 0 Qpz K
def Qv9:Qb:=Qseq (tawp Qda 0 Qoh (QmA K)) (QmA K)
def Qvm:Qb:=Qblk 0 (Qv9 K)
def QcD (q:Qf) (i:Int):Prop:=Loop Qda 0 QoY Ql9 (Qvm K) ⟨[(1,(.p 0 0 0)),(3,(zci i))],[(0,(.box [(zci q.1),(zcs Qu q.2)]))],1⟩
theorem QnO (q:Qf) (i:Int) (h :
 (zif (decide (i<((q.2).length:Int))) ((((0:Int)≤i∧Int.toNat i<(q.2).length)∧((!(!(QS ((gtd ((0,[]):Qe) q.2 (Int.toNat i)).2))))=true→((0:Int)≤i∧Int.toNat i<(q.2).length)))∧(zif ((!(QS ((gtd ((0,[]):Qe) q.2 (Int.toNat i)).2)))||(!(m_in ((gtd ((0,[]):Qe) q.2 (Int.toNat i)).1) (0:Int) (4:Int)))) (K (QcT false)) (QcD K q (w64 (i+(1:Int)))))) (K (QcT ((m_in q.1 (1:Int) (5:Int))&&(decide (((q.2).length:Int)≤q.1))))))):QcD K q i :=
 Loop.of (by kernel_rfl) h
theorem QEr (q:Qf) (h :
 (QcD K q 0)):Hold (tawp Qda (0+0) QCS (TQ 0 0 Qpz K) (Qg [(.a [(.c TI q.1),(.c (.sl Qu) q.2)])])) :=
 Hold.of (by kernel_rfl) h
theorem QyF (q:Qf):TCon Tryz.prog 218 [(.a [(.c TI q.1),(.c (.sl Qu) q.2)])] (QcT (QJ q)):=by
 refine Qk rfl fun hb=>tcg (Γ:=Qda) (n:=40) (sg:=QiJ.sg) Ql (TOkL.cons Qey (TOkL.cons Yr TOkL.nil)) (by kernel_rfl) (by kernel_rfl) (QEr _ q ?_)
 have hl_q_1:(q.2).length≤9223372036854775807:=hb.1.2.1.1
 refine Zp q.2 (fun r k=>r.all Ym=q.2.all Ym→QcD _ q k) ?_ ?_ rfl
 ·intro he
  refine QnO _ q _ ⟨fun h=>by simp at h,fun _=>?_⟩
  grind [QJ,m_in]
 ·intro k x r hk hlt hg ih he
  refine QnO _ q _ ⟨fun _=>?_,fun h=>by simp at h;omega⟩
  rw [Int.toNat_natCast,hg,Qw (by omega) (by omega)]
  grind [QJ,Ym,m_in]
theorem QCz:Qj Tryz.prog QiJ:=Qn fun x _=>QyF x.1
def JW (t:Bool):TRes:=zre (zcb t)
def Qga:TRow:=Qi 220 [(.a Qt)] fun x=>(none,JW (QJ x.1))
def QdW:TTab:=⟨[Qf3],false⟩
def QpF:TCode :=
 (zsq [(.reg [zbi 25 .lss 24 23]),(.cond 25 .skip (.exit 0)),(.block 1 (zsq [(.reg [zia 26 22 24 Qu,zLd 27 26 2,zop 4 (.new 178 (z0s Qu)),zst 4 27 2]),(.reg [zLd 28 4 2,zca 29 221 [28],zno 30 29]),(.cond 30 (zsq [(.reg [zmv 2 (zkb false)]),.ret]) .skip)])),(.reg [zbi 31 .add 24 (zki 1),zmv 24 31])])
def QnD:List (Nat × Md):=zdl [22,23,24]
def QqB:TCode :=
 (zsq [(.reg [zmv 2 (zkb true)]),.ret])
def Qtf:TCode :=
 (zsq [(.reg [zop 1 (.box 161 0 2),zmv 2 (zkb false)]),(zsq [(.reg [zfa 5 1 0,zld 6 5 1,zbi 7 .lss 6 (zki 1),zmv 8 7,.grp 8 false [zfa 9 1 0,zld 10 9 1,zbi 11 .gtr 10 (zki 5)] 12 11,zmv 13 12,.grp 13 false [zfa 14 1 1,zld 15 14 1,zle 16 15,zfa 17 1 0,zld 18 17 1,zbi 19 .gtr 16 18] 20 19]),(.cond 20 (zsq [(.reg [zmv 2 (zkb false)]),.ret]) .skip)]),(zsq [(.reg [zfa 21 1 1,zld 22 21 1,zle 23 22,zmv 24 (zki 0)]),(.block 0 (.loop QnD QpF))]),QqB])
def Qjp:List (ARv × Md):=[(.t 2,.one .d)]
def Qmt:Qb:=TQ 0 0 Qjp K
def QAn:Qb:=Qseq (tawp QdW 0 QqB (Qmt K)) (Qmt K)
def Qw8:Qb:=Qblk 0 (QAn K)
def Qfh (q:Qf) (x:Int):Prop:=Loop QdW 0 QnD QpF (Qw8 K) ⟨[(22,(zcs Qu q.2)),(23,(zci ((q.2).length:Int))),(24,(zci x))],[],0⟩
theorem QAl (q:Qf) (x:Int) (h :
 (zif (decide (x<((q.2).length:Int))) (((0:Int)≤x∧Int.toNat x<(q.2).length)∧(zif (!(Ym (gtd ((0,[]):Qe) q.2 (Int.toNat x)))) (K (JW false)) (Qfh K q (w64 (x+(1:Int)))))) (K (JW true)))):Qfh K q x :=
 Loop.of (by kernel_rfl) h
theorem Qwm (q:Qf) (h :
 (zif (((decide (q.1<(1:Int)))||(decide (q.1>(5:Int))))||(decide (((q.2).length:Int)>q.1))) (K (JW false)) (Qfh K q 0))):Hold (tawp QdW (0+0) Qtf (TQ 0 0 Qjp K) (Qg [(.a [(.c TI q.1),(.c (.sl Qu) q.2)])])) :=
 Hold.of (by kernel_rfl) h
theorem QFI (q:Qf):TCon Tryz.prog 220 [(.a [(.c TI q.1),(.c (.sl Qu) q.2)])] (JW (QJ q)):=by
 refine Qk rfl fun hb=>tcg (Γ:=QdW) (n:=32) (sg:=Qga.sg) Ql (TOkL.cons Qx6 TOkL.nil) (by kernel_rfl) (by kernel_rfl) (Qwm _ q ?_)
 have hl_q_1:(q.2).length≤9223372036854775807:=hb.1.2.1.1
 refine ⟨fun h=>R_eq ?_,fun h=>Qac (Q:=fun x=>JW x=JW (QJ q)) (p:=Ym) (c:=fun x=>!(Ym x)) (0,[]) hl_q_1 (fun _=>rfl) (fun i h=>QAl _ q i h) (R_eq ?_)⟩
 ·grind [QJ]
 ·grind [QJ]
theorem QEl:Qj Tryz.prog Qga:=Qn fun x _=>QFI x.1
def QiM (t:Bool):TRes:=zre (zcb t)
def Qfq:TRow:=Qi 180 [(.a Qt)] fun x=>(none,QiM (Jp x.1))
def QjQ:TTab:=⟨[],false⟩
def QBX:TCode :=
 (zsq [(.reg [zop 1 (.box 161 0 2),zmv 2 (zkb false)]),(.reg [zfa 3 1 1,zld 4 3 1,zle 5 4,zfa 6 1 0,zld 7 6 1,zbi 8 .lss 5 7,zmv 2 8]),.ret])
def Qxe:List (ARv × Md):=[(.t 2,.one .d)]
theorem QEV (q:Qf) (h :
 K (QiM (decide (((q.2).length:Int)<q.1)))):Hold (tawp QjQ (0+0) QBX (TQ 0 0 Qxe K) (Qg [(.a [(.c TI q.1),(.c (.sl Qu) q.2)])])) :=
 Hold.of (by kernel_rfl) h
theorem Qwv (q:Qf):TCon Tryz.prog 180 [(.a [(.c TI q.1),(.c (.sl Qu) q.2)])] (QiM (Jp q)):=by
 refine Qk rfl fun hb=>tcg (Γ:=QjQ) (n:=9) (sg:=Qfq.sg) Ql TOkL.nil (by kernel_rfl) (by kernel_rfl) (QEV _ q ?_)
 have hl_q_1:(q.2).length≤9223372036854775807:=hb.1.2.1.1
 exact R_eq rfl
theorem QwH:Qj Tryz.prog Qfq:=Qn fun x _=>Qwv x.1
end
end Go.Proofs.YtdplaepmjogjjaaGreat.Am

