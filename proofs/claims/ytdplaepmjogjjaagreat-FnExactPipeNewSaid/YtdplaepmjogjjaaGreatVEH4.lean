/- -/
import Derived.Test.YtdplaepmjogjjaaGreatVEH1
import Derived.Test.YtdplaepmjogjjaaGreatVEGF
namespace Go.Proofs.YtdplaepmjogjjaaGreat.Am
open Go Go.RowKit Go.Proofs.YtdplaepmjogjjaaGreat
set_option linter.all false
noncomputable section
variable (K:TRes→Prop)
def QcZ (t:Bool):TRes:=zre (zcb t)
def QiB:TRow:=Qg 171 [(.a Qd),(.a Qd)] fun x=>(none,QcZ (m_eq (α:=TIns) x.1 x.2.1))
def QoN:TTab:=⟨[],false⟩
def QGT:TCode :=
 (zsq [(.reg [zop 2 (.box 175 0 2),zop 3 (.box 175 1 2),zmv 4 (zkb false)]),(zsq [(.reg [zfa 5 2 0,zld 6 5 1,zfa 7 3 0,zld 8 7 1,zbi 9 .neq 6 8]),(.cond 9 (zsq [(.reg [zmv 4 (zkb false)]),.ret]) .skip)]),(zsq [(.reg [zfa 10 2 1,zld 11 10 1,zfa 12 3 1,zld 13 12 1,zbi 14 .neq 11 13]),(.cond 14 (zsq [(.reg [zmv 4 (zkb false)]),.ret]) .skip)]),(.reg [zmv 4 (zkb true)]),.ret])
def QG4:List (ARv × Md):=[(.t 4,.one .d)]
theorem QDe (a:TIns) (b:TIns) (h :
 (zif (a.1 != b.1) (K (QcZ false)) (zif (a.2 != b.2) (K (QcZ false)) (K (QcZ true))))):Hold (tawp QoN (0+0) QGT (TQ 0 0 QG4 K) (Qe [(.a [(.c TI a.1),(.c TI a.2)]),(.a [(.c TI b.1),(.c TI b.2)])])) :=
 Hold.of (by kernel_rfl) h
theorem QBc (a:TIns) (b:TIns):TCon Tryz.prog 171 [(.a [(.c TI a.1),(.c TI a.2)]),(.a [(.c TI b.1),(.c TI b.2)])] (QcZ (m_eq (α:=TIns) a b)):=by
 refine Ql rfl fun hb=>tcg (Γ:=QoN) (n:=15) (sg:=QiB.sg) Qk TOkL.nil (by kernel_rfl) (by kernel_rfl) (QDe _ a b ?_)
 refine ⟨fun h=>R_eq (Eq.symm (decide_eq_false (by rintro rfl;simp [m_eq] at h))),fun h0=>?_⟩
 refine ⟨fun h=>R_eq (Eq.symm (decide_eq_false (by rintro rfl;simp [m_eq] at h))),fun h1=>?_⟩
 refine R_eq (Eq.symm (decide_eq_true ?_))
 simp [m_eq] at h0 h1
 simp [Prod.ext_iff, *]
theorem QE5:Qi Tryz.prog QiB:=Qm fun x _=>QBc x.1 x.2.1
def QaS (t:Bool):TRes:=zre (zcb t)
def Qhg:TRow:=Qg 75 [(.c (.sl Qd)),(.c (.sl Qd))] fun x=>(none,QaS (m_eq (α:=List TIns) x.1 x.2.1))
def Qgj:TTab:=⟨[QiB],false⟩
def QpB:TCode :=
 (zsq [(zsq [(.reg [zmv 11 5,zmv 12 0,zle 13 12,zbi 14 .lss 11 13]),(.cond 14 .skip (.exit 0))]),(.block 1 (zsq [(.draw [zmv 17 0,zmv 18 5,zia 19 17 18 Qd,zLd 20 19 2,zmv 21 1,zmv 22 5,zia 23 21 22 Qd,zLd 24 23 2,zca 25 171 [20,24],zno 26 25] []),(.cond 26 (zsq [(.reg [zmv 4 (zkb false)]),.ret]) .skip)])),(.reg [zmv 15 5,zbi 16 .add 15 (zki 1),zmv 5 16])])
def QmV:List (Nat × Md):=zdl [0,1,5]
def Qo0:TCode :=
 (zsq [(.reg [zmv 4 (zkb true)]),.ret])
def Qvx:TCode :=
 (zsq [(.reg [zmv 4 (zkb false)]),(zsq [(.reg [zmv 6 0,zle 7 6,zmv 8 1,zle 9 8,zbi 10 .neq 7 9]),(.cond 10 (zsq [(.reg [zmv 4 (zkb false)]),.ret]) .skip)]),(zsq [(.reg [zmv 5 (zki 0)]),(.block 0 (.loop QmV QpB))]),Qo0])
def QsA:List (ARv × Md):=[(.t 4,.one .d)]
def Qm7:Qb:=TQ 0 0 QsA K
def QEt:Qb:=Qseq (tawp Qgj 0 Qo0 (Qm7 K)) (Qm7 K)
def QBT:Qb:=Qblk 0 (QEt K)
def Qh1 (a:List TIns) (b:List TIns) (i:Int):Prop:=Loop Qgj 0 QmV QpB (QBT K) ⟨[(0,(zcs Qd a)),(1,(zcs Qd b)),(5,(zci i))],[],0⟩
theorem QHQ (a:List TIns) (b:List TIns) (i:Int) (h :
 (zif (decide (i<(a.length:Int))) ((((0:Int)≤i∧Int.toNat i<a.length)∧((0:Int)≤i∧Int.toNat i<b.length))∧(zif (!(m_eq (α:=TIns) (gtd dIns a (Int.toNat i)) (gtd dIns b (Int.toNat i)))) (K (QaS false)) (Qh1 K a b (w64 (i+(1:Int)))))) (K (QaS true)))):Qh1 K a b i :=
 Loop.of (by kernel_rfl) h
theorem QEZ (a:List TIns) (b:List TIns) (h :
 (zif ((a.length:Int) != (b.length:Int)) (K (QaS false)) (Qh1 K a b 0))):Hold (tawp Qgj (0+0) Qvx (TQ 0 0 QsA K) (Qe [(.c (.sl Qd) a),(.c (.sl Qd) b)])) :=
 Hold.of (by kernel_rfl) h
theorem QC0 (a:List TIns) (b:List TIns):TCon Tryz.prog 75 [(.c (.sl Qd) a),(.c (.sl Qd) b)] (QaS (m_eq (α:=List TIns) a b)):=by
 refine Ql rfl fun hb=>tcg (Γ:=Qgj) (n:=27) (sg:=Qhg.sg) Qk (TOkL.cons QE5 TOkL.nil) (by kernel_rfl) (by kernel_rfl) (QEZ _ a b ?_)
 exact YI dIns (E:=m_eq) (fun _ _=>rfl) hb.1.1 (fun i h=>QHQ _ a b i h) (Q:=fun x=>QaS x=QaS (m_eq (α:=List TIns) a b)) rfl
theorem QAK:Qi Tryz.prog Qhg:=Qm fun x _=>QC0 x.1 x.2.1
def QcH (t:Bool):TRes:=zre (zcb t)
def QhN:TRow:=Qg 173 [(.a QZ),(.a QZ)] fun x=>(none,QcH (m_eq (α:=QA) x.1 x.2.1))
def Qk5:TTab:=⟨[Qde],false⟩
def QB2:TCode :=
 (zsq [(.reg [zop 2 (.box 108 0 2),zop 3 (.box 108 1 2),zmv 4 (zkb false)]),(zsq [(.reg [zfa 5 2 0,zld 6 5 1,zfa 7 3 0,zld 8 7 1,zbi 9 .neq 6 8]),(.cond 9 (zsq [(.reg [zmv 4 (zkb false)]),.ret]) .skip)]),(zsq [(.reg [zfa 10 2 1,zld 11 10 1,zfa 12 3 1,zld 13 12 1,zca 14 78 [11,13],zno 15 14]),(.cond 15 (zsq [(.reg [zmv 4 (zkb false)]),.ret]) .skip)]),(.reg [zmv 4 (zkb true)]),.ret])
def QBG:List (ARv × Md):=[(.t 4,.one .d)]
theorem QJn (a:QA) (b:QA) (h :
 (zif (a.1 != b.1) (K (QcH false)) (zif (!(m_eq (α:=List (List Int)) a.2 b.2)) (K (QcH false)) (K (QcH true))))):Hold (tawp Qk5 (0+0) QB2 (TQ 0 0 QBG K) (Qe [(.a [(.c TI a.1),(.c (.sl [(.sl [TI])]) a.2)]),(.a [(.c TI b.1),(.c (.sl [(.sl [TI])]) b.2)])])) :=
 Hold.of (by kernel_rfl) h
theorem QHe (a:QA) (b:QA):TCon Tryz.prog 173 [(.a [(.c TI a.1),(.c (.sl [(.sl [TI])]) a.2)]),(.a [(.c TI b.1),(.c (.sl [(.sl [TI])]) b.2)])] (QcH (m_eq (α:=QA) a b)):=by
 refine Ql rfl fun hb=>tcg (Γ:=Qk5) (n:=16) (sg:=QhN.sg) Qk (TOkL.cons Qh8 TOkL.nil) (by kernel_rfl) (by kernel_rfl) (QJn _ a b ?_)
 refine ⟨fun h=>R_eq (Eq.symm (decide_eq_false (by rintro rfl;simp [m_eq] at h))),fun h0=>?_⟩
 refine ⟨fun h=>R_eq (Eq.symm (decide_eq_false (by rintro rfl;simp [m_eq] at h))),fun h1=>?_⟩
 refine R_eq (Eq.symm (decide_eq_true ?_))
 simp [m_eq] at h0 h1
 simp [Prod.ext_iff, *]
theorem QGA:Qi Tryz.prog QhN:=Qm fun x _=>QHe x.1 x.2.1
def QaZ (t:Bool):TRes:=zre (zcb t)
def Qkd:TRow:=Qg 77 [(.c (.sl QZ)),(.c (.sl QZ))] fun x=>(none,QaZ (m_eq (α:=List QA) x.1 x.2.1))
def Qdj:TTab:=⟨[QhN],false⟩
def QlI:TCode :=
 (zsq [(zsq [(.reg [zmv 11 5,zmv 12 0,zle 13 12,zbi 14 .lss 11 13]),(.cond 14 .skip (.exit 0))]),(.block 1 (zsq [(.draw [zmv 17 0,zmv 18 5,zia 19 17 18 QZ,zLd 20 19 2,zmv 21 1,zmv 22 5,zia 23 21 22 QZ,zLd 24 23 2,zca 25 173 [20,24],zno 26 25] []),(.cond 26 (zsq [(.reg [zmv 4 (zkb false)]),.ret]) .skip)])),(.reg [zmv 15 5,zbi 16 .add 15 (zki 1),zmv 5 16])])
def QsV:List (Nat × Md):=zdl [0,1,5]
def Qk0:TCode :=
 (zsq [(.reg [zmv 4 (zkb true)]),.ret])
def Qw9:TCode :=
 (zsq [(.reg [zmv 4 (zkb false)]),(zsq [(.reg [zmv 6 0,zle 7 6,zmv 8 1,zle 9 8,zbi 10 .neq 7 9]),(.cond 10 (zsq [(.reg [zmv 4 (zkb false)]),.ret]) .skip)]),(zsq [(.reg [zmv 5 (zki 0)]),(.block 0 (.loop QsV QlI))]),Qk0])
def Qo5:List (ARv × Md):=[(.t 4,.one .d)]
def Qtz:Qb:=TQ 0 0 Qo5 K
def QIL:Qb:=Qseq (tawp Qdj 0 Qk0 (Qtz K)) (Qtz K)
def Qx2:Qb:=Qblk 0 (QIL K)
def QgP (a:List QA) (b:List QA) (i:Int):Prop:=Loop Qdj 0 QsV QlI (Qx2 K) ⟨[(0,(zcs QZ a)),(1,(zcs QZ b)),(5,(zci i))],[],0⟩
theorem QG9 (a:List QA) (b:List QA) (i:Int) (h :
 (zif (decide (i<(a.length:Int))) ((((0:Int)≤i∧Int.toNat i<a.length)∧((0:Int)≤i∧Int.toNat i<b.length))∧(zif (!(m_eq (α:=QA) (gtd Z5 a (Int.toNat i)) (gtd Z5 b (Int.toNat i)))) (K (QaZ false)) (QgP K a b (w64 (i+(1:Int)))))) (K (QaZ true)))):QgP K a b i :=
 Loop.of (by kernel_rfl) h
theorem Qwa (a:List QA) (b:List QA) (h :
 (zif ((a.length:Int) != (b.length:Int)) (K (QaZ false)) (QgP K a b 0))):Hold (tawp Qdj (0+0) Qw9 (TQ 0 0 Qo5 K) (Qe [(.c (.sl QZ) a),(.c (.sl QZ) b)])) :=
 Hold.of (by kernel_rfl) h
theorem QFU (a:List QA) (b:List QA):TCon Tryz.prog 77 [(.c (.sl QZ) a),(.c (.sl QZ) b)] (QaZ (m_eq (α:=List QA) a b)):=by
 refine Ql rfl fun hb=>tcg (Γ:=Qdj) (n:=27) (sg:=Qkd.sg) Qk (TOkL.cons QGA TOkL.nil) (by kernel_rfl) (by kernel_rfl) (Qwa _ a b ?_)
 exact YI Z5 (E:=m_eq) (fun _ _=>rfl) hb.1.1 (fun i h=>QG9 _ a b i h) (Q:=fun x=>QaZ x=QaZ (m_eq (α:=List QA) a b)) rfl
theorem Qzm:Qi Tryz.prog Qkd:=Qm fun x _=>QFU x.1 x.2.1
end
end Go.Proofs.YtdplaepmjogjjaaGreat.Am

