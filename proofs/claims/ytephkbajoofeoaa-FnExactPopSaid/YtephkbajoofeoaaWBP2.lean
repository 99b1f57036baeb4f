/- -/
import Derived.Test.YtephkbajoofeoaaWBP1
namespace Go.Proofs.Ytephkbajoofeoaa.Am
open Go Go.RowKit Go.Proofs.Ytephkbajoofeoaa
set_option linter.all false
noncomputable section
variable (K:TRes→Prop)
def Qco (t:Bool):TRes:=zre (zcb t)
def QbU:TRow:=Qm 120 [(.a Qc)] fun x=>(none,Qco (Zt x.1))
def Qib:TTab:=⟨[QcN],false⟩
def Qix:TCode :=
 (zsq [(.reg [zop 1 (.box 39 0 2),zmv 2 (zkb false)]),(.reg [zfa 3 1 1,zld 4 3 1,zca 5 185 [4],zmv 6 5,.grp 6 true [zfa 7 1 0,zld 8 7 1,zbi 9 .geq 8 (zki 0)] 10 9,zmv 11 10,.grp 11 true [zfa 12 1 0,zld 13 12 1,zbi 14 .lss 13 (zki 5)] 15 14,zmv 2 15]),.ret])
def QlL:List (ARv × Md):=[(.t 2,.one .d)]
theorem Qlm (x:Qb) (h :
 K (Qco (((Zg x.2)&&(decide (x.1≥(0:Int))))&&(decide (x.1<(5:Int)))))):Hold (tawp Qib (0+0) Qix (TQ 0 0 QlL K) (Qk [(.a [(.c TI x.1),(.c (.sl [TI]) x.2)])])) :=
 Hold.of (by kernel_rfl) h
theorem QmS (x:Qb):TCon Try.prog 120 [(.a [(.c TI x.1),(.c (.sl [TI]) x.2)])] (Qco (Zt x)):=by
 refine Qr rfl fun hb=>tcg (Γ:=Qib) (n:=16) (sg:=QbU.sg) Qq (TOkL.cons Qnj TOkL.nil) (by kernel_rfl) (by kernel_rfl) (Qlm _ x ?_)
 have hl_x_1:(x.2).length≤9223372036854775807:=hb.1.2.1.1
 exact R_eq (by grind [Zt])
theorem Ql8:Qn Try.prog QbU:=Qs fun x _=>QmS x.1
def QaW (t:Bool):TRes:=zre (zcb t)
def QcR:TRow:=Qm 29 [(.a Qz)] fun x=>(none,QaW (QR x.1))
def QaR:TTab:=⟨[Qbo,JE],false⟩
def Qfo:TCode :=
 (zsq [(zsq [(.reg [zmv 4 3,zfa 5 1 1,zld 6 5 1,zle 7 6,zbi 8 .lss 4 7]),(.cond 8 .skip (.exit 0))]),(.block 1 (zsq [(.reg [zfa 11 1 1,zld 12 11 1,zmv 13 3,zia 14 12 13 Qc,zfa 15 14 1,zld 16 15 1,zca 17 31 [16],zno 18 17,zmv 19 18,.grp 19 false [zfa 20 1 1,zld 21 20 1,zmv 22 3,zia 23 21 22 Qc,zfa 24 23 0,zld 25 24 1,zca 26 102 [25,(zki 0),(zki 4)],zno 27 26] 28 27]),(.cond 28 (zsq [(.reg [zmv 2 (zkb false)]),.ret]) .skip)])),(.reg [zmv 9 3,zbi 10 .add 9 (zki 1),zmv 3 10])])
def QfS:List (Nat × Md):=[(1,.b [.d,.d]),(3,.one .d)]
def Qhr:TCode :=
 (zsq [(.reg [zfa 29 1 0,zld 30 29 1,zca 31 102 [30,(zki 1),(zki 5)],zmv 32 31,.grp 32 true [zfa 33 1 1,zld 34 33 1,zle 35 34,zfa 36 1 0,zld 37 36 1,zbi 38 .leq 35 37] 39 38,zmv 2 39]),.ret])
def QnD:TCode :=
 (zsq [(.reg [zop 1 (.box 36 0 2),zmv 2 (zkb false)]),(zsq [(.reg [zmv 3 (zki 0)]),(.block 0 (.loop QfS Qfo))]),Qhr])
def Qgk:List (ARv × Md):=[(.t 2,.one .d)]
def QeO:Qh:=TQ 0 0 Qgk K
def Qk0:Qh:=Qseq (tawp QaR 0 Qhr (QeO K)) (QeO K)
def Ql0:Qh:=Qblk 0 (Qk0 K)
def Qav (q:Qe) (i:Int):Prop:=Loop QaR 0 QfS Qfo (Ql0 K) ⟨[(1,(.p 0 0 0)),(3,(zci i))],[(0,(.box [(zci q.1),(zcs Qc q.2)]))],1⟩
theorem Qeg (q:Qe) (i:Int) (h :
 (zif (decide (i<((q.2).length:Int))) ((((0:Int)≤i∧Int.toNat i<(q.2).length)∧((!(!(Zg ((gtd ((0,[]):Qb) q.2 (Int.toNat i)).2))))=true→((0:Int)≤i∧Int.toNat i<(q.2).length)))∧(zif ((!(Zg ((gtd ((0,[]):Qb) q.2 (Int.toNat i)).2)))||(!(m_in ((gtd ((0,[]):Qb) q.2 (Int.toNat i)).1) (0:Int) (4:Int)))) (K (QaW false)) (Qav K q (w64 (i+(1:Int)))))) (K (QaW ((m_in q.1 (1:Int) (5:Int))&&(decide (((q.2).length:Int)≤q.1))))))):Qav K q i :=
 Loop.of (by kernel_rfl) h
theorem Qjy (q:Qe) (h :
 (Qav K q 0)):Hold (tawp QaR (0+0) QnD (TQ 0 0 Qgk K) (Qk [(.a [(.c TI q.1),(.c (.sl Qc) q.2)])])) :=
 Hold.of (by kernel_rfl) h
theorem Qk7 (q:Qe):TCon Try.prog 29 [(.a [(.c TI q.1),(.c (.sl Qc) q.2)])] (QaW (QR q)):=by
 refine Qr rfl fun hb=>tcg (Γ:=QaR) (n:=40) (sg:=QcR.sg) Qq (TOkL.cons QkF (TOkL.cons Qc3 TOkL.nil)) (by kernel_rfl) (by kernel_rfl) (Qjy _ q ?_)
 have hl_q_1:(q.2).length≤9223372036854775807:=hb.1.2.1.1
 refine YS q.2 (fun r k=>r.all Zt=q.2.all Zt→Qav _ q k) ?_ ?_ rfl
 ·intro he
  refine Qeg _ q _ ⟨fun h=>by simp at h,fun _=>?_⟩
  grind [QR,m_in]
 ·intro k x r hk hlt hg ih he
  refine Qeg _ q _ ⟨fun _=>?_,fun h=>by simp at h;omega⟩
  rw [Int.toNat_natCast,hg,QZ (by omega) (by omega)]
  grind [QR,Zt,m_in]
theorem Qk2:Qn Try.prog QcR:=Qs fun x _=>Qk7 x.1
def Ym (t:Bool):TRes:=zre (zcb t)
def Qcp:TRow:=Qm 119 [(.a Qz)] fun x=>(none,Ym (QR x.1))
def QaV:TTab:=⟨[QbU],false⟩
def QeP:TCode :=
 (zsq [(.reg [zbi 25 .lss 24 23]),(.cond 25 .skip (.exit 0)),(.block 1 (zsq [(.reg [zia 26 22 24 Qc,zLd 27 26 2,zop 4 (.new 39 (z0s Qc)),zst 4 27 2]),(.reg [zLd 28 4 2,zca 29 120 [28],zno 30 29]),(.cond 30 (zsq [(.reg [zmv 2 (zkb false)]),.ret]) .skip)])),(.reg [zbi 31 .add 24 (zki 1),zmv 24 31])])
def Qg3:List (Nat × Md):=zdl [22,23,24]
def Qed:TCode :=
 (zsq [(.reg [zmv 2 (zkb true)]),.ret])
def Qny:TCode :=
 (zsq [(.reg [zop 1 (.box 36 0 2),zmv 2 (zkb false)]),(zsq [(.reg [zfa 5 1 0,zld 6 5 1,zbi 7 .lss 6 (zki 1),zmv 8 7,.grp 8 false [zfa 9 1 0,zld 10 9 1,zbi 11 .gtr 10 (zki 5)] 12 11,zmv 13 12,.grp 13 false [zfa 14 1 1,zld 15 14 1,zle 16 15,zfa 17 1 0,zld 18 17 1,zbi 19 .gtr 16 18] 20 19]),(.cond 20 (zsq [(.reg [zmv 2 (zkb false)]),.ret]) .skip)]),(zsq [(.reg [zfa 21 1 1,zld 22 21 1,zle 23 22,zmv 24 (zki 0)]),(.block 0 (.loop Qg3 QeP))]),Qed])
def Qf4:List (ARv × Md):=[(.t 2,.one .d)]
def Qdl:Qh:=TQ 0 0 Qf4 K
def QnA:Qh:=Qseq (tawp QaV 0 Qed (Qdl K)) (Qdl K)
def QmJ:Qh:=Qblk 0 (QnA K)
def Qcg (q:Qe) (x:Int):Prop:=Loop QaV 0 Qg3 QeP (QmJ K) ⟨[(22,(zcs Qc q.2)),(23,(zci ((q.2).length:Int))),(24,(zci x))],[],0⟩
theorem QmH (q:Qe) (x:Int) (h :
 (zif (decide (x<((q.2).length:Int))) (((0:Int)≤x∧Int.toNat x<(q.2).length)∧(zif (!(Zt (gtd ((0,[]):Qb) q.2 (Int.toNat x)))) (K (Ym false)) (Qcg K q (w64 (x+(1:Int)))))) (K (Ym true)))):Qcg K q x :=
 Loop.of (by kernel_rfl) h
theorem QjT (q:Qe) (h :
 (zif (((decide (q.1<(1:Int)))||(decide (q.1>(5:Int))))||(decide (((q.2).length:Int)>q.1))) (K (Ym false)) (Qcg K q 0))):Hold (tawp QaV (0+0) Qny (TQ 0 0 Qf4 K) (Qk [(.a [(.c TI q.1),(.c (.sl Qc) q.2)])])) :=
 Hold.of (by kernel_rfl) h
theorem Qoc (q:Qe):TCon Try.prog 119 [(.a [(.c TI q.1),(.c (.sl Qc) q.2)])] (Ym (QR q)):=by
 refine Qr rfl fun hb=>tcg (Γ:=QaV) (n:=32) (sg:=Qcp.sg) Qq (TOkL.cons Ql8 TOkL.nil) (by kernel_rfl) (by kernel_rfl) (QjT _ q ?_)
 have hl_q_1:(q.2).length≤9223372036854775807:=hb.1.2.1.1
 refine ⟨fun h=>R_eq ?_,fun h=>QcJ (Q:=fun x=>Ym x=Ym (QR q)) (p:=Zt) (c:=fun x=>!(Zt x)) (0,[]) hl_q_1 (fun _=>rfl) (fun i h=>QmH _ q i h) (R_eq ?_)⟩
 ·grind [QR]
 ·grind [QR]
theorem Qmc:Qn Try.prog Qcp:=Qs fun x _=>Qoc x.1
end
end Go.Proofs.Ytephkbajoofeoaa.Am

