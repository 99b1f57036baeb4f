/- -/
import Derived.Test.YtephkbajoofeoaaWAP1
namespace Go.Proofs.Ytephkbajoofeoaa.Am
open Go Go.RowKit Go.Proofs.Ytephkbajoofeoaa
set_option linter.all false
noncomputable section
variable (K:TRes→Prop)
def Qc3 (t:Bool):TRes:=zre (zcb t)
def JV:TRow:=Qm 120 [(.a Qc)] fun x=>(none,Qc3 (QL x.1))
def Qff:TTab:=⟨[Qbu],false⟩
def QlI:TCode :=
 (zsq [(.reg [zop 1 (.box 39 0 2),zmv 2 (zkb false)]),(.reg [zfa 3 1 1,zld 4 3 1,zca 5 185 [4],zmv 6 5,.grp 6 true [zfa 7 1 0,zld 8 7 1,zbi 9 .geq 8 (zki 0)] 10 9,zmv 11 10,.grp 11 true [zfa 12 1 0,zld 13 12 1,zbi 14 .lss 13 (zki 5)] 15 14,zmv 2 15]),.ret])
def Qnx:List (ARv × Md):=[(.t 2,.one .d)]
theorem Qjm (x:Qb) (h :
 K (Qc3 (((Q6 x.2)&&(decide (x.1≥(0:Int))))&&(decide (x.1<(5:Int)))))):Hold (tawp Qff (0+0) QlI (TQ 0 0 Qnx K) (Qk [(.a [(.c TI x.1),(.c (.sl [TI]) x.2)])])) :=
 Hold.of (by kernel_rfl) h
theorem Qmi (x:Qb):TCon Try.prog 120 [(.a [(.c TI x.1),(.c (.sl [TI]) x.2)])] (Qc3 (QL x)):=by
 refine Qp rfl fun hb=>tcg (Γ:=Qff) (n:=16) (sg:=JV.sg) Qr (TOkL.cons QmI TOkL.nil) (by kernel_rfl) (by kernel_rfl) (Qjm _ x ?_)
 have hl_x_1:(x.2).length≤9223372036854775807:=hb.1.2.1.1
 exact R_eq (by grind [QL])
theorem Qh8:Qo Try.prog JV:=Qu fun x _=>Qmi x.1
def Qau (t:Bool):TRes:=zre (zcb t)
def Qcs:TRow:=Qm 29 [(.a Qx)] fun x=>(none,Qau (QF x.1))
def QaP:TTab:=⟨[Qaz,YM],false⟩
def QeN:TCode :=
 (zsq [(zsq [(.reg [zmv 4 3,zfa 5 1 1,zld 6 5 1,zle 7 6,zbi 8 .lss 4 7]),(.cond 8 .skip (.exit 0))]),(.block 1 (zsq [(.reg [zfa 11 1 1,zld 12 11 1,zmv 13 3,zia 14 12 13 Qc,zfa 15 14 1,zld 16 15 1,zca 17 31 [16],zno 18 17,zmv 19 18,.grp 19 false [zfa 20 1 1,zld 21 20 1,zmv 22 3,zia 23 21 22 Qc,zfa 24 23 0,zld 25 24 1,zca 26 102 [25,(zki 0),(zki 4)],zno 27 26] 28 27]),(.cond 28 (zsq [(.reg [zmv 2 (zkb false)]),.ret]) .skip)])),(.reg [zmv 9 3,zbi 10 .add 9 (zki 1),zmv 3 10])])
def Qev:List (Nat × Md):=[(1,.b [.d,.d]),(3,.one .d)]
def Qft:TCode :=
 (zsq [(.reg [zfa 29 1 0,zld 30 29 1,zca 31 102 [30,(zki 1),(zki 5)],zmv 32 31,.grp 32 true [zfa 33 1 1,zld 34 33 1,zle 35 34,zfa 36 1 0,zld 37 36 1,zbi 38 .leq 35 37] 39 38,zmv 2 39]),.ret])
def QmU:TCode :=
 (zsq [(.reg [zop 1 (.box 36 0 2),zmv 2 (zkb false)]),(zsq [(.reg [zmv 3 (zki 0)]),(.block 0 (.loop Qev QeN))]),Qft])
def QgO:List (ARv × Md):=[(.t 2,.one .d)]
def QdH:Qi:=TQ 0 0 QgO K
def Qmj:Qi:=Qseq (tawp QaP 0 Qft (QdH K)) (QdH K)
def Qiz:Qi:=Qblk 0 (Qmj K)
def QaH (q:Qe) (i:Int):Prop:=Loop QaP 0 Qev QeN (Qiz K) ⟨[(1,(.p 0 0 0)),(3,(zci i))],[(0,(.box [(zci q.1),(zcs Qc q.2)]))],1⟩
theorem QeX (q:Qe) (i:Int) (h :
 (zif (decide (i<((q.2).length:Int))) ((((0:Int)≤i∧Int.toNat i<(q.2).length)∧((!(!(Q6 ((gtd ((0,[]):Qb) q.2 (Int.toNat i)).2))))=true→((0:Int)≤i∧Int.toNat i<(q.2).length)))∧(zif ((!(Q6 ((gtd ((0,[]):Qb) q.2 (Int.toNat i)).2)))||(!(m_in ((gtd ((0,[]):Qb) q.2 (Int.toNat i)).1) (0:Int) (4:Int)))) (K (Qau false)) (QaH K q (w64 (i+(1:Int)))))) (K (Qau ((m_in q.1 (1:Int) (5:Int))&&(decide (((q.2).length:Int)≤q.1))))))):QaH K q i :=
 Loop.of (by kernel_rfl) h
theorem QlL (q:Qe) (h :
 (QaH K q 0)):Hold (tawp QaP (0+0) QmU (TQ 0 0 QgO K) (Qk [(.a [(.c TI q.1),(.c (.sl Qc) q.2)])])) :=
 Hold.of (by kernel_rfl) h
theorem QkF (q:Qe):TCon Try.prog 29 [(.a [(.c TI q.1),(.c (.sl Qc) q.2)])] (Qau (QF q)):=by
 refine Qp rfl fun hb=>tcg (Γ:=QaP) (n:=40) (sg:=Qcs.sg) Qr (TOkL.cons Qed (TOkL.cons QaW TOkL.nil)) (by kernel_rfl) (by kernel_rfl) (QlL _ q ?_)
 have hl_q_1:(q.2).length≤9223372036854775807:=hb.1.2.1.1
 refine YW q.2 (fun r k=>r.all QL=q.2.all QL→QaH _ q k) ?_ ?_ rfl
 ·intro he
  refine QeX _ q _ ⟨fun h=>by simp at h,fun _=>?_⟩
  grind [QF,m_in]
 ·intro k x r hk hlt hg ih he
  refine QeX _ q _ ⟨fun _=>?_,fun h=>by simp at h;omega⟩
  rw [Int.toNat_natCast,hg,Q0 (by omega) (by omega)]
  grind [QF,QL,m_in]
theorem Qn6:Qo Try.prog Qcs:=Qu fun x _=>QkF x.1
def Yq (t:Bool):TRes:=zre (zcb t)
def QcU:TRow:=Qm 119 [(.a Qx)] fun x=>(none,Yq (QF x.1))
def Qam:TTab:=⟨[JV],false⟩
def Qgz:TCode :=
 (zsq [(.reg [zbi 25 .lss 24 23]),(.cond 25 .skip (.exit 0)),(.block 1 (zsq [(.reg [zia 26 22 24 Qc,zLd 27 26 2,zop 4 (.new 39 (z0s Qc)),zst 4 27 2]),(.reg [zLd 28 4 2,zca 29 120 [28],zno 30 29]),(.cond 30 (zsq [(.reg [zmv 2 (zkb false)]),.ret]) .skip)])),(.reg [zbi 31 .add 24 (zki 1),zmv 24 31])])
def QeB:List (Nat × Md):=zdl [22,23,24]
def QgR:TCode :=
 (zsq [(.reg [zmv 2 (zkb true)]),.ret])
def Ql5:TCode :=
 (zsq [(.reg [zop 1 (.box 36 0 2),zmv 2 (zkb false)]),(zsq [(.reg [zfa 5 1 0,zld 6 5 1,zbi 7 .lss 6 (zki 1),zmv 8 7,.grp 8 false [zfa 9 1 0,zld 10 9 1,zbi 11 .gtr 10 (zki 5)] 12 11,zmv 13 12,.grp 13 false [zfa 14 1 1,zld 15 14 1,zle 16 15,zfa 17 1 0,zld 18 17 1,zbi 19 .gtr 16 18] 20 19]),(.cond 20 (zsq [(.reg [zmv 2 (zkb false)]),.ret]) .skip)]),(zsq [(.reg [zfa 21 1 1,zld 22 21 1,zle 23 22,zmv 24 (zki 0)]),(.block 0 (.loop QeB Qgz))]),QgR])
def QgA:List (ARv × Md):=[(.t 2,.one .d)]
def QhG:Qi:=TQ 0 0 QgA K
def QmW:Qi:=Qseq (tawp Qam 0 QgR (QhG K)) (QhG K)
def Qlb:Qi:=Qblk 0 (QmW K)
def Qbh (q:Qe) (x:Int):Prop:=Loop Qam 0 QeB Qgz (Qlb K) ⟨[(22,(zcs Qc q.2)),(23,(zci ((q.2).length:Int))),(24,(zci x))],[],0⟩
theorem QmE (q:Qe) (x:Int) (h :
 (zif (decide (x<((q.2).length:Int))) (((0:Int)≤x∧Int.toNat x<(q.2).length)∧(zif (!(QL (gtd ((0,[]):Qb) q.2 (Int.toNat x)))) (K (Yq false)) (Qbh K q (w64 (x+(1:Int)))))) (K (Yq true)))):Qbh K q x :=
 Loop.of (by kernel_rfl) h
theorem Qkq (q:Qe) (h :
 (zif (((decide (q.1<(1:Int)))||(decide (q.1>(5:Int))))||(decide (((q.2).length:Int)>q.1))) (K (Yq false)) (Qbh K q 0))):Hold (tawp Qam (0+0) Ql5 (TQ 0 0 QgA K) (Qk [(.a [(.c TI q.1),(.c (.sl Qc) q.2)])])) :=
 Hold.of (by kernel_rfl) h
theorem Qmh (q:Qe):TCon Try.prog 119 [(.a [(.c TI q.1),(.c (.sl Qc) q.2)])] (Yq (QF q)):=by
 refine Qp rfl fun hb=>tcg (Γ:=Qam) (n:=32) (sg:=QcU.sg) Qr (TOkL.cons Qh8 TOkL.nil) (by kernel_rfl) (by kernel_rfl) (Qkq _ q ?_)
 have hl_q_1:(q.2).length≤9223372036854775807:=hb.1.2.1.1
 refine ⟨fun h=>R_eq ?_,fun h=>QbA (Q:=fun x=>Yq x=Yq (QF q)) (p:=QL) (c:=fun x=>!(QL x)) (0,[]) hl_q_1 (fun _=>rfl) (fun i h=>QmE _ q i h) (R_eq ?_)⟩
 ·grind [QF]
 ·grind [QF]
theorem QjR:Qo Try.prog QcU:=Qu fun x _=>Qmh x.1
end
end Go.Proofs.Ytephkbajoofeoaa.Am

