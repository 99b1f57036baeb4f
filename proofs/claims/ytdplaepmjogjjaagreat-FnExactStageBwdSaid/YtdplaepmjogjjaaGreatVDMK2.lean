/- -/
import Derived.Test.YtdplaepmjogjjaaGreatVDMK1
import Derived.Test.YtdplaepmjogjjaaGreatVDGF
namespace Go.Proofs.YtdplaepmjogjjaaGreat.Am
open Go Go.RowKit Go.Proofs.YtdplaepmjogjjaaGreat
set_option linter.all false
noncomputable section
variable (K:TRes→Prop)
def QkO (t:Int × Qm):TRes:=⟨(zci t.1),[],[],true,[(.sl 0 [(.sl [TI])] (.dp 0 false []) t.2.1)]⟩
def QgT:TRow:=Qg 47 [(.s QE),(.c TI)] fun x=>(none,QkO (QL (α:=Qm) x.1 x.2.1))
def Qre:TTab:=⟨[Qck],true⟩
def QAV:TCode :=
 (zsq [(.reg [zop 2 (.box 37 0 3),zmv 4 (zki 0)]),(.reg [zfa 5 2 0,zld 6 5 1,zmv 7 1,zca 8 82 [6,7],zmv 1 8]),(.reg [zmv 9 1,zmv 4 9]),.ret])
def QFe:List (ARv × Md):=[(.t 4,.one .d)]
theorem QBP (a:Qm) (k:Int) (h :
 (((a.1).length=(a.1).length)∧K (QkO ((QD (α:=List (List Int)) a.1 k).1,((QD (α:=List (List Int)) a.1 k).2,a.2.1,a.2.2))))):Hold (tawp Qre (0+1) QAV (TQ 0 1 QFe K) (Qd [(.a [(.ow 0 [(.sl [TI])] dw a.1),(.c TI a.2.1),(.c .bool a.2.2)]),(.c TI k)])) :=
 Hold.of (by kernel_rfl) h
theorem QKa (a:Qm) (k:Int):TCon Tryz.prog 47 [(.a [(.ow 0 [(.sl [TI])] dw a.1),(.c TI a.2.1),(.c .bool a.2.2)]),(.c TI k)] (QkO (QL (α:=Qm) a k)):=by
 refine Qh rfl fun hb=>tcg (Γ:=Qre) (n:=10) (sg:=QgT.sg) Qi (TOkL.cons Qj1 TOkL.nil) (by kernel_rfl) (by kernel_rfl) (QBP _ a k ?_)
 have hl_a_0:(a.1).length≤9223372036854775807:=hb.1.1.1
 repeat' apply And.intro
 all_goals first | rfl | exact R_eq rfl
theorem QzT:Qf Tryz.prog QgT:=Qj fun x _=>QKa x.1 x.2.1
def Qfk (t:Int):TRes:=zre (zci t)
def Qij:TRow:=Qg 48 [(.a QE),(.c TI)] fun x=>(some (ZW (α:=Qm) x.1 x.2.1),Qfk (m_heldS (α:=Qm) x.1 x.2.1))
def Qmm:TTab:=⟨[QcT],false⟩
def Qw5:TCode :=
 (zsq [(.reg [zop 2 (.box 37 0 3),zmv 4 (zki 0)]),(.reg [zfa 5 2 0,zld 6 5 1,zmv 7 1,zca 8 86 [6,7],zmv 1 8]),(zsq [(.reg [zmv 9 1,zbi 10 .lss 9 (zki 0)]),(.cond 10 (zsq [(.reg [zmv 4 (zki (-1))]),.ret]) .skip)]),(.reg [zmv 11 1,zmv 4 11]),.ret])
def Qwt:List (ARv × Md):=[(.t 4,.one .d)]
theorem QDd (a:Qm) (k:Int) (h :
 ((Q5 (α:=List (List Int)) a.1 k)∧(zif (decide ((m_held (α:=List (List Int)) a.1 k)<(0:Int))) (K (Qfk (-1:Int))) (K (Qfk (m_held (α:=List (List Int)) a.1 k)))))):Hold (tawp Qmm (0+0) Qw5 (TQ 0 0 Qwt K) (Qd [(.a (Tup.cells QE a)),(.c TI k)])) :=
 Hold.of (by kernel_rfl) h
theorem QHb (a:Qm) (k:Int) (hp:ZW (α:=Qm) a k):TCon Tryz.prog 48 [(.a (Tup.cells QE a)),(.c TI k)] (Qfk (m_heldS (α:=Qm) a k)):=by
 refine Qh rfl fun hb=>tcg (Γ:=Qmm) (n:=12) (sg:=Qij.sg) Qi (TOkL.cons QhI TOkL.nil) (by kernel_rfl) (by kernel_rfl) (QDd _ a k ?_)
 have hl_a_0:(a.1).length≤9223372036854775807:=hb.1.1.1
 have hp0:=(Zp hp).1
 have hq0:=(Zp hp).2
 have hp1:=(Zp hq0).1
 have hq1:=(Zp hq0).2
 simp only [QtK,QpG,Qq2,Qqa] at hp0 hq0 hp1 hq1
 refine ⟨(ZM hp0),fun h=>R_eq (YN (fun e=>YG (ZM hp0) (of_decide_eq_true h) (congrArg (fun z=>z.1) e))).symm,fun g0=>?_⟩
 obtain ⟨e0,h0⟩:=Yz (of_decide_eq_false g0)
 rw [h0]
 exact R_eq (Qcp (x:=a) (k:=k) (Prod.ext e0 (Prod.ext rfl rfl))).symm
theorem QKg:Qf Tryz.prog Qij:=Qj fun x h=>QHb x.1 x.2.1 h
end
end Go.Proofs.YtdplaepmjogjjaaGreat.Am

