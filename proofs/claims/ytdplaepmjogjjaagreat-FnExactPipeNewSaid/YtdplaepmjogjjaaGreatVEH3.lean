/- -/
import Derived.Test.YtdplaepmjogjjaaGreatVEH1
import Derived.Test.YtdplaepmjogjjaaGreatVEGF
namespace Go.Proofs.YtdplaepmjogjjaaGreat.Am
open Go Go.RowKit Go.Proofs.YtdplaepmjogjjaaGreat
set_option linter.all false
noncomputable section
variable (K:TRes→Prop)
def Qcj (t:Bool):TRes:=zre (zcb t)
def QkJ:TRow:=Qg 262 [(.a QW),(.a QW)] fun x=>(none,Qcj (m_eq (α:=Qy) x.1 x.2.1))
def Qmq:TTab:=⟨[JD],false⟩
def QGr:TCode :=
 (zsq [(.reg [zop 2 (.box 178 0 2),zop 3 (.box 178 1 2),zmv 4 (zkb false)]),(zsq [(.reg [zfa 5 2 0,zld 6 5 1,zfa 7 3 0,zld 8 7 1,zbi 9 .neq 6 8]),(.cond 9 (zsq [(.reg [zmv 4 (zkb false)]),.ret]) .skip)]),(zsq [(.reg [zfa 10 2 1,zld 11 10 1,zfa 12 3 1,zld 13 12 1,zca 14 23 [11,13],zno 15 14]),(.cond 15 (zsq [(.reg [zmv 4 (zkb false)]),.ret]) .skip)]),(.reg [zmv 4 (zkb true)]),.ret])
def QHr:List (ARv × Md):=[(.t 4,.one .d)]
theorem QxX (a:Qy) (b:Qy) (h :
 (zif (a.1 != b.1) (K (Qcj false)) (zif (!(m_eq (α:=List Int) a.2 b.2)) (K (Qcj false)) (K (Qcj true))))):Hold (tawp Qmq (0+0) QGr (TQ 0 0 QHr K) (Qe [(.a [(.c TI a.1),(.c (.sl [TI]) a.2)]),(.a [(.c TI b.1),(.c (.sl [TI]) b.2)])])) :=
 Hold.of (by kernel_rfl) h
theorem QBs (a:Qy) (b:Qy):TCon Tryz.prog 262 [(.a [(.c TI a.1),(.c (.sl [TI]) a.2)]),(.a [(.c TI b.1),(.c (.sl [TI]) b.2)])] (Qcj (m_eq (α:=Qy) a b)):=by
 refine Ql rfl fun hb=>tcg (Γ:=Qmq) (n:=16) (sg:=QkJ.sg) Qk (TOkL.cons Qbh TOkL.nil) (by kernel_rfl) (by kernel_rfl) (QxX _ a b ?_)
 refine ⟨fun h=>R_eq (Eq.symm (decide_eq_false (by rintro rfl;simp [m_eq] at h))),fun h0=>?_⟩
 refine ⟨fun h=>R_eq (Eq.symm (decide_eq_false (by rintro rfl;simp [m_eq] at h))),fun h1=>?_⟩
 refine R_eq (Eq.symm (decide_eq_true ?_))
 simp [m_eq] at h0 h1
 simp [Prod.ext_iff, *]
theorem QzM:Qi Tryz.prog QkJ:=Qm fun x _=>QBs x.1 x.2.1
def Qak (t:Bool):TRes:=zre (zcb t)
def Qih:TRow:=Qg 236 [(.c (.sl QW)),(.c (.sl QW))] fun x=>(none,Qak (m_eq (α:=List Qy) x.1 x.2.1))
def Qfv:TTab:=⟨[QkJ],false⟩
def Qpg:TCode :=
 (zsq [(zsq [(.reg [zmv 11 5,zmv 12 0,zle 13 12,zbi 14 .lss 11 13]),(.cond 14 .skip (.exit 0))]),(.block 1 (zsq [(.draw [zmv 17 0,zmv 18 5,zia 19 17 18 QW,zLd 20 19 2,zmv 21 1,zmv 22 5,zia 23 21 22 QW,zLd 24 23 2,zca 25 262 [20,24],zno 26 25] []),(.cond 26 (zsq [(.reg [zmv 4 (zkb false)]),.ret]) .skip)])),(.reg [zmv 15 5,zbi 16 .add 15 (zki 1),zmv 5 16])])
def QoX:List (Nat × Md):=zdl [0,1,5]
def QmZ:TCode :=
 (zsq [(.reg [zmv 4 (zkb true)]),.ret])
def QzC:TCode :=
 (zsq [(.reg [zmv 4 (zkb false)]),(zsq [(.reg [zmv 6 0,zle 7 6,zmv 8 1,zle 9 8,zbi 10 .neq 7 9]),(.cond 10 (zsq [(.reg [zmv 4 (zkb false)]),.ret]) .skip)]),(zsq [(.reg [zmv 5 (zki 0)]),(.block 0 (.loop QoX Qpg))]),QmZ])
def QtQ:List (ARv × Md):=[(.t 4,.one .d)]
def QrX:Qb:=TQ 0 0 QtQ K
def QxK:Qb:=Qseq (tawp Qfv 0 QmZ (QrX K)) (QrX K)
def QGt:Qb:=Qblk 0 (QxK K)
def Qhj (a:List Qy) (b:List Qy) (i:Int):Prop:=Loop Qfv 0 QoX Qpg (QGt K) ⟨[(0,(zcs QW a)),(1,(zcs QW b)),(5,(zci i))],[],0⟩
theorem QH5 (a:List Qy) (b:List Qy) (i:Int) (h :
 (zif (decide (i<(a.length:Int))) ((((0:Int)≤i∧Int.toNat i<a.length)∧((0:Int)≤i∧Int.toNat i<b.length))∧(zif (!(m_eq (α:=Qy) (gtd ((0,[]):Qy) a (Int.toNat i)) (gtd ((0,[]):Qy) b (Int.toNat i)))) (K (Qak false)) (Qhj K a b (w64 (i+(1:Int)))))) (K (Qak true)))):Qhj K a b i :=
 Loop.of (by kernel_rfl) h
theorem QDr (a:List Qy) (b:List Qy) (h :
 (zif ((a.length:Int) != (b.length:Int)) (K (Qak false)) (Qhj K a b 0))):Hold (tawp Qfv (0+0) QzC (TQ 0 0 QtQ K) (Qe [(.c (.sl QW) a),(.c (.sl QW) b)])) :=
 Hold.of (by kernel_rfl) h
theorem QEg (a:List Qy) (b:List Qy):TCon Tryz.prog 236 [(.c (.sl QW) a),(.c (.sl QW) b)] (Qak (m_eq (α:=List Qy) a b)):=by
 refine Ql rfl fun hb=>tcg (Γ:=Qfv) (n:=27) (sg:=Qih.sg) Qk (TOkL.cons QzM TOkL.nil) (by kernel_rfl) (by kernel_rfl) (QDr _ a b ?_)
 exact YI ((0,[]):Qy) (E:=m_eq) (fun _ _=>rfl) hb.1.1 (fun i h=>QH5 _ a b i h) (Q:=fun x=>Qak x=Qak (m_eq (α:=List Qy) a b)) rfl
theorem QCf:Qi Tryz.prog Qih:=Qm fun x _=>QEg x.1 x.2.1
def Qc5 (t:Bool):TRes:=zre (zcb t)
def QkI:TRow:=Qg 181 [(.a Qw),(.a Qw)] fun x=>(none,Qc5 (m_eq (α:=Qp) x.1 x.2.1))
def QmE:TTab:=⟨[Qih],false⟩
def QE4:TCode :=
 (zsq [(.reg [zop 2 (.box 161 0 2),zop 3 (.box 161 1 2),zmv 4 (zkb false)]),(zsq [(.reg [zfa 5 2 0,zld 6 5 1,zfa 7 3 0,zld 8 7 1,zbi 9 .neq 6 8]),(.cond 9 (zsq [(.reg [zmv 4 (zkb false)]),.ret]) .skip)]),(zsq [(.reg [zfa 10 2 1,zld 11 10 1,zfa 12 3 1,zld 13 12 1,zca 14 236 [11,13],zno 15 14]),(.cond 15 (zsq [(.reg [zmv 4 (zkb false)]),.ret]) .skip)]),(.reg [zmv 4 (zkb true)]),.ret])
def QB7:List (ARv × Md):=[(.t 4,.one .d)]
theorem Qwz (a:Qp) (b:Qp) (h :
 (zif (a.1 != b.1) (K (Qc5 false)) (zif (!(m_eq (α:=List Qy) a.2 b.2)) (K (Qc5 false)) (K (Qc5 true))))):Hold (tawp QmE (0+0) QE4 (TQ 0 0 QB7 K) (Qe [(.a [(.c TI a.1),(.c (.sl QW) a.2)]),(.a [(.c TI b.1),(.c (.sl QW) b.2)])])) :=
 Hold.of (by kernel_rfl) h
theorem QIK (a:Qp) (b:Qp):TCon Tryz.prog 181 [(.a [(.c TI a.1),(.c (.sl QW) a.2)]),(.a [(.c TI b.1),(.c (.sl QW) b.2)])] (Qc5 (m_eq (α:=Qp) a b)):=by
 refine Ql rfl fun hb=>tcg (Γ:=QmE) (n:=16) (sg:=QkI.sg) Qk (TOkL.cons QCf TOkL.nil) (by kernel_rfl) (by kernel_rfl) (Qwz _ a b ?_)
 refine ⟨fun h=>R_eq (Eq.symm (decide_eq_false (by rintro rfl;simp [m_eq] at h))),fun h0=>?_⟩
 refine ⟨fun h=>R_eq (Eq.symm (decide_eq_false (by rintro rfl;simp [m_eq] at h))),fun h1=>?_⟩
 refine R_eq (Eq.symm (decide_eq_true ?_))
 simp [m_eq] at h0 h1
 simp [Prod.ext_iff, *]
theorem Qv2:Qi Tryz.prog QkI:=Qm fun x _=>QIK x.1 x.2.1
def Qam (t:Bool):TRes:=zre (zcb t)
def QiU:TRow:=Qg 94 [(.c (.sl Qw)),(.c (.sl Qw))] fun x=>(none,Qam (m_eq (α:=List Qp) x.1 x.2.1))
def QdG:TTab:=⟨[QkI],false⟩
def QtI:TCode :=
 (zsq [(zsq [(.reg [zmv 11 5,zmv 12 0,zle 13 12,zbi 14 .lss 11 13]),(.cond 14 .skip (.exit 0))]),(.block 1 (zsq [(.draw [zmv 17 0,zmv 18 5,zia 19 17 18 Qw,zLd 20 19 2,zmv 21 1,zmv 22 5,zia 23 21 22 Qw,zLd 24 23 2,zca 25 181 [20,24],zno 26 25] []),(.cond 26 (zsq [(.reg [zmv 4 (zkb false)]),.ret]) .skip)])),(.reg [zmv 15 5,zbi 16 .add 15 (zki 1),zmv 5 16])])
def Qmv:List (Nat × Md):=zdl [0,1,5]
def QqC:TCode :=
 (zsq [(.reg [zmv 4 (zkb true)]),.ret])
def QHn:TCode :=
 (zsq [(.reg [zmv 4 (zkb false)]),(zsq [(.reg [zmv 6 0,zle 7 6,zmv 8 1,zle 9 8,zbi 10 .neq 7 9]),(.cond 10 (zsq [(.reg [zmv 4 (zkb false)]),.ret]) .skip)]),(zsq [(.reg [zmv 5 (zki 0)]),(.block 0 (.loop Qmv QtI))]),QqC])
def QoB:List (ARv × Md):=[(.t 4,.one .d)]
def Qp4:Qb:=TQ 0 0 QoB K
def Qzr:Qb:=Qseq (tawp QdG 0 QqC (Qp4 K)) (Qp4 K)
def QA7:Qb:=Qblk 0 (Qzr K)
def QhB (a:List Qp) (b:List Qp) (i:Int):Prop:=Loop QdG 0 Qmv QtI (QA7 K) ⟨[(0,(zcs Qw a)),(1,(zcs Qw b)),(5,(zci i))],[],0⟩
theorem QxV (a:List Qp) (b:List Qp) (i:Int) (h :
 (zif (decide (i<(a.length:Int))) ((((0:Int)≤i∧Int.toNat i<a.length)∧((0:Int)≤i∧Int.toNat i<b.length))∧(zif (!(m_eq (α:=Qp) (gtd Z7 a (Int.toNat i)) (gtd Z7 b (Int.toNat i)))) (K (Qam false)) (QhB K a b (w64 (i+(1:Int)))))) (K (Qam true)))):QhB K a b i :=
 Loop.of (by kernel_rfl) h
theorem QDF (a:List Qp) (b:List Qp) (h :
 (zif ((a.length:Int) != (b.length:Int)) (K (Qam false)) (QhB K a b 0))):Hold (tawp QdG (0+0) QHn (TQ 0 0 QoB K) (Qe [(.c (.sl Qw) a),(.c (.sl Qw) b)])) :=
 Hold.of (by kernel_rfl) h
theorem QxH (a:List Qp) (b:List Qp):TCon Tryz.prog 94 [(.c (.sl Qw) a),(.c (.sl Qw) b)] (Qam (m_eq (α:=List Qp) a b)):=by
 refine Ql rfl fun hb=>tcg (Γ:=QdG) (n:=27) (sg:=QiU.sg) Qk (TOkL.cons Qv2 TOkL.nil) (by kernel_rfl) (by kernel_rfl) (QDF _ a b ?_)
 exact YI Z7 (E:=m_eq) (fun _ _=>rfl) hb.1.1 (fun i h=>QxV _ a b i h) (Q:=fun x=>Qam x=Qam (m_eq (α:=List Qp) a b)) rfl
theorem QFc:Qi Tryz.prog QiU:=Qm fun x _=>QxH x.1 x.2.1
end
end Go.Proofs.YtdplaepmjogjjaaGreat.Am

