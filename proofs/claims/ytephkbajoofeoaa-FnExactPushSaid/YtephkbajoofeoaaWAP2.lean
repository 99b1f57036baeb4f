/- -/
import Derived.Test.YtephkbajoofeoaaWAP1
namespace Go.Proofs.Ytephkbajoofeoaa.Am
open Go Go.RowKit Go.Proofs.Ytephkbajoofeoaa
set_option linter.all false
noncomputable section
variable (K:TRes→Prop)
def QcS (t:Bool):TRes:=zre (zcb t)
def Qao:TRow:=Qn 120 [(.a Qc)] fun x=>(none,QcS (QL x.1))
def QgO:TTab:=⟨[QbA],false⟩
def Qlz:TCode :=
 (zsq [(.reg [zop 1 (.box 39 0 2),zmv 2 (zkb false)]),(.reg [zfa 3 1 1,zld 4 3 1,zca 5 185 [4],zmv 6 5,.grp 6 true [zfa 7 1 0,zld 8 7 1,zbi 9 .geq 8 (zki 0)] 10 9,zmv 11 10,.grp 11 true [zfa 12 1 0,zld 13 12 1,zbi 14 .lss 13 (zki 5)] 15 14,zmv 2 15]),.ret])
def Qkn:List (ARv × Md):=[(.t 2,.one .d)]
theorem Qk7 (x:Qb) (h :
 K (QcS (((QV x.2)&&(decide (x.1≥(0:Int))))&&(decide (x.1<(5:Int)))))):Hold (tawp QgO (0+0) Qlz (TQ 0 0 Qkn K) (Ql [(.a [(.c TI x.1),(.c (.sl [TI]) x.2)])])) :=
 Hold.of (by kernel_rfl) h
theorem Qii (x:Qb):TCon Try.prog 120 [(.a [(.c TI x.1),(.c (.sl [TI]) x.2)])] (QcS (QL x)):=by
 refine Qp rfl fun hb=>tcg (Γ:=QgO) (n:=16) (sg:=Qao.sg) Qq (TOkL.cons Qml TOkL.nil) (by kernel_rfl) (by kernel_rfl) (Qk7 _ x ?_)
 have hl_x_1:(x.2).length≤9223372036854775807:=hb.1.2.1.1
 exact R_eq (by grind [QL])
theorem QeP:Qm Try.prog Qao:=Qt fun x _=>Qii x.1
def Qa6 (t:Bool):TRes:=zre (zcb t)
def Qb8:TRow:=Qn 29 [(.a Qx)] fun x=>(none,Qa6 (QH x.1))
def J2:TTab:=⟨[Qah,YQ],false⟩
def Qdg:TCode :=
 (zsq [(zsq [(.reg [zmv 4 3,zfa 5 1 1,zld 6 5 1,zle 7 6,zbi 8 .lss 4 7]),(.cond 8 .skip (.exit 0))]),(.block 1 (zsq [(.reg [zfa 11 1 1,zld 12 11 1,zmv 13 3,zia 14 12 13 Qc,zfa 15 14 1,zld 16 15 1,zca 17 31 [16],zno 18 17,zmv 19 18,.grp 19 false [zfa 20 1 1,zld 21 20 1,zmv 22 3,zia 23 21 22 Qc,zfa 24 23 0,zld 25 24 1,zca 26 102 [25,(zki 0),(zki 4)],zno 27 26] 28 27]),(.cond 28 (zsq [(.reg [zmv 2 (zkb false)]),.ret]) .skip)])),(.reg [zmv 9 3,zbi 10 .add 9 (zki 1),zmv 3 10])])
def QeR:List (Nat × Md):=[(1,.b [.d,.d]),(3,.one .d)]
def QfC:TCode :=
 (zsq [(.reg [zfa 29 1 0,zld 30 29 1,zca 31 102 [30,(zki 1),(zki 5)],zmv 32 31,.grp 32 true [zfa 33 1 1,zld 34 33 1,zle 35 34,zfa 36 1 0,zld 37 36 1,zbi 38 .leq 35 37] 39 38,zmv 2 39]),.ret])
def Qju:TCode :=
 (zsq [(.reg [zop 1 (.box 36 0 2),zmv 2 (zkb false)]),(zsq [(.reg [zmv 3 (zki 0)]),(.block 0 (.loop QeR Qdg))]),QfC])
def Qd7:List (ARv × Md):=[(.t 2,.one .d)]
def Qge:Qh:=TQ 0 0 Qd7 K
def Qj0:Qh:=Qseq (tawp J2 0 QfC (Qge K)) (Qge K)
def QjG:Qh:=Qblk 0 (Qj0 K)
def QaW (q:Qe) (i:Int):Prop:=Loop J2 0 QeR Qdg (QjG K) ⟨[(1,(.p 0 0 0)),(3,(zci i))],[(0,(.box [(zci q.1),(zcs Qc q.2)]))],1⟩
theorem Qeo (q:Qe) (i:Int) (h :
 (zif (decide (i<((q.2).length:Int))) ((((0:Int)≤i∧Int.toNat i<(q.2).length)∧((!(!(QV ((gtd ((0,[]):Qb) q.2 (Int.toNat i)).2))))=true→((0:Int)≤i∧Int.toNat i<(q.2).length)))∧(zif ((!(QV ((gtd ((0,[]):Qb) q.2 (Int.toNat i)).2)))||(!(m_in ((gtd ((0,[]):Qb) q.2 (Int.toNat i)).1) (0:Int) (4:Int)))) (K (Qa6 false)) (QaW K q (w64 (i+(1:Int)))))) (K (Qa6 ((m_in q.1 (1:Int) (5:Int))&&(decide (((q.2).length:Int)≤q.1))))))):QaW K q i :=
 Loop.of (by kernel_rfl) h
theorem QjD (q:Qe) (h :
 (QaW K q 0)):Hold (tawp J2 (0+0) Qju (TQ 0 0 Qd7 K) (Ql [(.a [(.c TI q.1),(.c (.sl Qc) q.2)])])) :=
 Hold.of (by kernel_rfl) h
theorem QkV (q:Qe):TCon Try.prog 29 [(.a [(.c TI q.1),(.c (.sl Qc) q.2)])] (Qa6 (QH q)):=by
 refine Qp rfl fun hb=>tcg (Γ:=J2) (n:=40) (sg:=Qb8.sg) Qq (TOkL.cons Qic (TOkL.cons Qa0 TOkL.nil)) (by kernel_rfl) (by kernel_rfl) (QjD _ q ?_)
 have hl_q_1:(q.2).length≤9223372036854775807:=hb.1.2.1.1
 refine YK q.2 (fun r k=>r.all QL=q.2.all QL→QaW _ q k) ?_ ?_ rfl
 ·intro he
  refine Qeo _ q _ ⟨fun h=>by simp at h,fun _=>?_⟩
  grind [QH,m_in]
 ·intro k x r hk hlt hg ih he
  refine Qeo _ q _ ⟨fun _=>?_,fun h=>by simp at h;omega⟩
  rw [Int.toNat_natCast,hg,Q0 (by omega) (by omega)]
  grind [QH,QL,m_in]
theorem QiK:Qm Try.prog Qb8:=Qt fun x _=>QkV x.1
def Yf (t:Bool):TRes:=zre (zcb t)
def QcP:TRow:=Qn 119 [(.a Qx)] fun x=>(none,Yf (QH x.1))
def Qa1:TTab:=⟨[Qao],false⟩
def Qeq:TCode :=
 (zsq [(.reg [zbi 25 .lss 24 23]),(.cond 25 .skip (.exit 0)),(.block 1 (zsq [(.reg [zia 26 22 24 Qc,zLd 27 26 2,zop 4 (.new 39 (z0s Qc)),zst 4 27 2]),(.reg [zLd 28 4 2,zca 29 120 [28],zno 30 29]),(.cond 30 (zsq [(.reg [zmv 2 (zkb false)]),.ret]) .skip)])),(.reg [zbi 31 .add 24 (zki 1),zmv 24 31])])
def Qd5:List (Nat × Md):=zdl [22,23,24]
def Qfr:TCode :=
 (zsq [(.reg [zmv 2 (zkb true)]),.ret])
def QmE:TCode :=
 (zsq [(.reg [zop 1 (.box 36 0 2),zmv 2 (zkb false)]),(zsq [(.reg [zfa 5 1 0,zld 6 5 1,zbi 7 .lss 6 (zki 1),zmv 8 7,.grp 8 false [zfa 9 1 0,zld 10 9 1,zbi 11 .gtr 10 (zki 5)] 12 11,zmv 13 12,.grp 13 false [zfa 14 1 1,zld 15 14 1,zle 16 15,zfa 17 1 0,zld 18 17 1,zbi 19 .gtr 16 18] 20 19]),(.cond 20 (zsq [(.reg [zmv 2 (zkb false)]),.ret]) .skip)]),(zsq [(.reg [zfa 21 1 1,zld 22 21 1,zle 23 22,zmv 24 (zki 0)]),(.block 0 (.loop Qd5 Qeq))]),Qfr])
def QfP:List (ARv × Md):=[(.t 2,.one .d)]
def Qdv:Qh:=TQ 0 0 QfP K
def Qli:Qh:=Qseq (tawp Qa1 0 Qfr (Qdv K)) (Qdv K)
def QlP:Qh:=Qblk 0 (Qli K)
def Qdc (q:Qe) (x:Int):Prop:=Loop Qa1 0 Qd5 Qeq (QlP K) ⟨[(22,(zcs Qc q.2)),(23,(zci ((q.2).length:Int))),(24,(zci x))],[],0⟩
theorem QiP (q:Qe) (x:Int) (h :
 (zif (decide (x<((q.2).length:Int))) (((0:Int)≤x∧Int.toNat x<(q.2).length)∧(zif (!(QL (gtd ((0,[]):Qb) q.2 (Int.toNat x)))) (K (Yf false)) (Qdc K q (w64 (x+(1:Int)))))) (K (Yf true)))):Qdc K q x :=
 Loop.of (by kernel_rfl) h
theorem Qks (q:Qe) (h :
 (zif (((decide (q.1<(1:Int)))||(decide (q.1>(5:Int))))||(decide (((q.2).length:Int)>q.1))) (K (Yf false)) (Qdc K q 0))):Hold (tawp Qa1 (0+0) QmE (TQ 0 0 QfP K) (Ql [(.a [(.c TI q.1),(.c (.sl Qc) q.2)])])) :=
 Hold.of (by kernel_rfl) h
theorem QiU (q:Qe):TCon Try.prog 119 [(.a [(.c TI q.1),(.c (.sl Qc) q.2)])] (Yf (QH q)):=by
 refine Qp rfl fun hb=>tcg (Γ:=Qa1) (n:=32) (sg:=QcP.sg) Qq (TOkL.cons QeP TOkL.nil) (by kernel_rfl) (by kernel_rfl) (Qks _ q ?_)
 have hl_q_1:(q.2).length≤9223372036854775807:=hb.1.2.1.1
 refine ⟨fun h=>R_eq ?_,fun h=>QcH (Q:=fun x=>Yf x=Yf (QH q)) (p:=QL) (c:=fun x=>!(QL x)) (0,[]) hl_q_1 (fun _=>rfl) (fun i h=>QiP _ q i h) (R_eq ?_)⟩
 ·grind [QH]
 ·grind [QH]
theorem QiD:Qm Try.prog QcP:=Qt fun x _=>QiU x.1
end
end Go.Proofs.Ytephkbajoofeoaa.Am

