/- -/
import Derived.Test.YtdplaepmjogjjaaGreatVEH4
import Derived.Test.YtdplaepmjogjjaaGreatVEH2
import Derived.Test.YtdplaepmjogjjaaGreatVEH1
import Derived.Test.YtdplaepmjogjjaaGreatVEGF
namespace Go.Proofs.YtdplaepmjogjjaaGreat.Am
open Go Go.RowKit Go.Proofs.YtdplaepmjogjjaaGreat
set_option linter.all false
noncomputable section
variable (K:TRes→Prop)
def ZL (t:Bool):TRes:=zre (zcb t)
def QjV:TRow:=Qg 16 [(.a Qt),(.a Qt)] fun x=>(none,ZL (m_eq (α:=Qr) x.1 x.2.1))
def Qpr:TTab:=⟨[Qhg,Qer,Qkd,Qde,JD,Qi3],false⟩
def QIk:TCode :=
 (zsq [(.reg [zop 2 (.box 39 0 14),zop 3 (.box 39 1 14),zmv 4 (zkb false)]),(zsq [(.reg [zfa 5 2 0,zld 6 5 1,zfa 7 3 0,zld 8 7 1,zbi 9 .neq 6 8]),(.cond 9 (zsq [(.reg [zmv 4 (zkb false)]),.ret]) .skip)]),(zsq [(.reg [zfa 10 2 1,zld 11 10 1,zfa 12 3 1,zld 13 12 1,zca 14 75 [11,13],zno 15 14]),(.cond 15 (zsq [(.reg [zmv 4 (zkb false)]),.ret]) .skip)]),(zsq [(.reg [zfa 16 2 2,zld 17 16 1,zfa 18 3 2,zld 19 18 1,zca 20 76 [17,19],zno 21 20]),(.cond 21 (zsq [(.reg [zmv 4 (zkb false)]),.ret]) .skip)]),(zsq [(.reg [zfa 22 2 3,zld 23 22 1,zfa 24 3 3,zld 25 24 1,zop 26 (.eqb true 23 25)]),(.cond 26 (zsq [(.reg [zmv 4 (zkb false)]),.ret]) .skip)]),(zsq [(.reg [zfa 27 2 4,zld 28 27 1,zfa 29 3 4,zld 30 29 1,zop 31 (.eqb true 28 30)]),(.cond 31 (zsq [(.reg [zmv 4 (zkb false)]),.ret]) .skip)]),(zsq [(.reg [zfa 32 2 5,zld 33 32 1,zfa 34 3 5,zld 35 34 1,zca 36 77 [33,35],zno 37 36]),(.cond 37 (zsq [(.reg [zmv 4 (zkb false)]),.ret]) .skip)]),(zsq [(.reg [zfa 38 2 6,zld 39 38 1,zfa 40 3 6,zld 41 40 1,zca 42 78 [39,41],zno 43 42]),(.cond 43 (zsq [(.reg [zmv 4 (zkb false)]),.ret]) .skip)]),(zsq [(.reg [zfa 44 2 7,zld 45 44 1,zfa 46 3 7,zld 47 46 1,zca 48 23 [45,47],zno 49 48]),(.cond 49 (zsq [(.reg [zmv 4 (zkb false)]),.ret]) .skip)]),(zsq [(.reg [zfa 50 2 8,zld 51 50 1,zfa 52 3 8,zld 53 52 1,zca 54 23 [51,53],zno 55 54]),(.cond 55 (zsq [(.reg [zmv 4 (zkb false)]),.ret]) .skip)]),(zsq [(.reg [zfa 56 2 9,zld 57 56 1,zfa 58 3 9,zld 59 58 1,zca 60 23 [57,59],zno 61 60]),(.cond 61 (zsq [(.reg [zmv 4 (zkb false)]),.ret]) .skip)]),(zsq [(.reg [zfa 62 2 10,zld 63 62 1,zfa 64 3 10,zld 65 64 1,zca 66 23 [63,65],zno 67 66]),(.cond 67 (zsq [(.reg [zmv 4 (zkb false)]),.ret]) .skip)]),(zsq [(.reg [zfa 68 2 11,zLd 69 68 3,zfa 70 3 11,zLd 71 70 3,zca 72 46 [69,71],zno 73 72]),(.cond 73 (zsq [(.reg [zmv 4 (zkb false)]),.ret]) .skip)]),(.reg [zmv 4 (zkb true)]),.ret])
def QHa:List (ARv × Md):=[(.t 4,.one .d)]
theorem QDx (a:Qr) (b:Qr) (h :
 (zif (a.1 != b.1) (K (ZL false)) (zif (!(m_eq (α:=List TIns) a.2.1 b.2.1)) (K (ZL false)) (zif (!(m_eq (α:=List TOp') a.2.2.1 b.2.2.1)) (K (ZL false)) (zif (!(a.2.2.2.1==b.2.2.2.1)) (K (ZL false)) (zif (!(a.2.2.2.2.1==b.2.2.2.2.1)) (K (ZL false)) (zif (!(m_eq (α:=List QA) a.2.2.2.2.2.1 b.2.2.2.2.2.1)) (K (ZL false)) (zif (!(m_eq (α:=List (List Int)) a.2.2.2.2.2.2.1 b.2.2.2.2.2.2.1)) (K (ZL false)) (zif (!(m_eq (α:=List Int) a.2.2.2.2.2.2.2.1 b.2.2.2.2.2.2.2.1)) (K (ZL false)) (zif (!(m_eq (α:=List Int) a.2.2.2.2.2.2.2.2.1 b.2.2.2.2.2.2.2.2.1)) (K (ZL false)) (zif (!(m_eq (α:=List Int) a.2.2.2.2.2.2.2.2.2.1 b.2.2.2.2.2.2.2.2.2.1)) (K (ZL false)) (zif (!(m_eq (α:=List Int) a.2.2.2.2.2.2.2.2.2.2.1 b.2.2.2.2.2.2.2.2.2.2.1)) (K (ZL false)) (zif (!(m_eq (α:=Z0) a.2.2.2.2.2.2.2.2.2.2.2 b.2.2.2.2.2.2.2.2.2.2.2)) (K (ZL false)) (K (ZL true))))))))))))))):Hold (tawp Qpr (0+0) QIk (TQ 0 0 QHa K) (Qe [(.a (Tup.cells Qt a)),(.a (Tup.cells Qt b))])) :=
 Hold.of (by kernel_rfl) h
theorem QyY (a:Qr) (b:Qr):TCon Tryz.prog 16 [(.a (Tup.cells Qt a)),(.a (Tup.cells Qt b))] (ZL (m_eq (α:=Qr) a b)):=by
 refine Ql rfl fun hb=>tcg (Γ:=Qpr) (n:=74) (sg:=QjV.sg) Qk (TOkL.cons QAK (TOkL.cons Qr1 (TOkL.cons Qzm (TOkL.cons Qh8 (TOkL.cons Qbh (TOkL.cons QBX TOkL.nil)))))) (by kernel_rfl) (by kernel_rfl) (QDx _ a b ?_)
 refine ⟨fun h=>R_eq (Eq.symm (decide_eq_false (by rintro rfl;simp [m_eq] at h))),fun h0=>?_⟩
 refine ⟨fun h=>R_eq (Eq.symm (decide_eq_false (by rintro rfl;simp [m_eq] at h))),fun h1=>?_⟩
 refine ⟨fun h=>R_eq (Eq.symm (decide_eq_false (by rintro rfl;simp [m_eq] at h))),fun h2=>?_⟩
 refine ⟨fun h=>R_eq (Eq.symm (decide_eq_false (by rintro rfl;simp [m_eq] at h))),fun h3=>?_⟩
 refine ⟨fun h=>R_eq (Eq.symm (decide_eq_false (by rintro rfl;simp [m_eq] at h))),fun h4=>?_⟩
 refine ⟨fun h=>R_eq (Eq.symm (decide_eq_false (by rintro rfl;simp [m_eq] at h))),fun h5=>?_⟩
 refine ⟨fun h=>R_eq (Eq.symm (decide_eq_false (by rintro rfl;simp [m_eq] at h))),fun h6=>?_⟩
 refine ⟨fun h=>R_eq (Eq.symm (decide_eq_false (by rintro rfl;simp [m_eq] at h))),fun h7=>?_⟩
 refine ⟨fun h=>R_eq (Eq.symm (decide_eq_false (by rintro rfl;simp [m_eq] at h))),fun h8=>?_⟩
 refine ⟨fun h=>R_eq (Eq.symm (decide_eq_false (by rintro rfl;simp [m_eq] at h))),fun h9=>?_⟩
 refine ⟨fun h=>R_eq (Eq.symm (decide_eq_false (by rintro rfl;simp [m_eq] at h))),fun h10=>?_⟩
 refine ⟨fun h=>R_eq (Eq.symm (decide_eq_false (by rintro rfl;simp [m_eq] at h))),fun h11=>?_⟩
 refine R_eq (Eq.symm (decide_eq_true ?_))
 simp [m_eq] at h0 h1 h2 h3 h4 h5 h6 h7 h8 h9 h10 h11
 simp [Prod.ext_iff, *]
theorem QGv:Qi Tryz.prog QjV:=Qm fun x _=>QyY x.1 x.2.1
def Qa2 (t:Bool):TRes:=zre (zcb t)
def Qjc:TRow:=Qg 93 [(.c (.sl Qt)),(.c (.sl Qt))] fun x=>(none,Qa2 (m_eq (α:=List Qr) x.1 x.2.1))
def Qdy:TTab:=⟨[QjV],false⟩
def Qp7:TCode :=
 (zsq [(zsq [(.reg [zmv 11 5,zmv 12 0,zle 13 12,zbi 14 .lss 11 13]),(.cond 14 .skip (.exit 0))]),(.block 1 (zsq [(.draw [zmv 17 0,zmv 18 5,zia 19 17 18 Qt,zLd 20 19 14,zmv 21 1,zmv 22 5,zia 23 21 22 Qt,zLd 24 23 14,zca 25 16 [20,24],zno 26 25] []),(.cond 26 (zsq [(.reg [zmv 4 (zkb false)]),.ret]) .skip)])),(.reg [zmv 15 5,zbi 16 .add 15 (zki 1),zmv 5 16])])
def QmN:List (Nat × Md):=zdl [0,1,5]
def QtE:TCode :=
 (zsq [(.reg [zmv 4 (zkb true)]),.ret])
def QBp:TCode :=
 (zsq [(.reg [zmv 4 (zkb false)]),(zsq [(.reg [zmv 6 0,zle 7 6,zmv 8 1,zle 9 8,zbi 10 .neq 7 9]),(.cond 10 (zsq [(.reg [zmv 4 (zkb false)]),.ret]) .skip)]),(zsq [(.reg [zmv 5 (zki 0)]),(.block 0 (.loop QmN Qp7))]),QtE])
def Qrm:List (ARv × Md):=[(.t 4,.one .d)]
def Qmx:Qb:=TQ 0 0 Qrm K
def QFM:Qb:=Qseq (tawp Qdy 0 QtE (Qmx K)) (Qmx K)
def QxL:Qb:=Qblk 0 (QFM K)
def QiG (a:List Qr) (b:List Qr) (i:Int):Prop:=Loop Qdy 0 QmN Qp7 (QxL K) ⟨[(0,(zcs Qt a)),(1,(zcs Qt b)),(5,(zci i))],[],0⟩
theorem QCE (a:List Qr) (b:List Qr) (i:Int) (h :
 (zif (decide (i<(a.length:Int))) ((((0:Int)≤i∧Int.toNat i<a.length)∧((0:Int)≤i∧Int.toNat i<b.length))∧(zif (!(m_eq (α:=Qr) (gtd Zq a (Int.toNat i)) (gtd Zq b (Int.toNat i)))) (K (Qa2 false)) (QiG K a b (w64 (i+(1:Int)))))) (K (Qa2 true)))):QiG K a b i :=
 Loop.of (by kernel_rfl) h
theorem QDz (a:List Qr) (b:List Qr) (h :
 (zif ((a.length:Int) != (b.length:Int)) (K (Qa2 false)) (QiG K a b 0))):Hold (tawp Qdy (0+0) QBp (TQ 0 0 Qrm K) (Qe [(.c (.sl Qt) a),(.c (.sl Qt) b)])) :=
 Hold.of (by kernel_rfl) h
theorem QIr (a:List Qr) (b:List Qr):TCon Tryz.prog 93 [(.c (.sl Qt) a),(.c (.sl Qt) b)] (Qa2 (m_eq (α:=List Qr) a b)):=by
 refine Ql rfl fun hb=>tcg (Γ:=Qdy) (n:=27) (sg:=Qjc.sg) Qk (TOkL.cons QGv TOkL.nil) (by kernel_rfl) (by kernel_rfl) (QDz _ a b ?_)
 exact YI Zq (E:=m_eq) (fun _ _=>rfl) hb.1.1 (fun i h=>QCE _ a b i h) (Q:=fun x=>Qa2 x=Qa2 (m_eq (α:=List Qr) a b)) rfl
theorem Qys:Qi Tryz.prog Qjc:=Qm fun x _=>QIr x.1 x.2.1
end
end Go.Proofs.YtdplaepmjogjjaaGreat.Am

