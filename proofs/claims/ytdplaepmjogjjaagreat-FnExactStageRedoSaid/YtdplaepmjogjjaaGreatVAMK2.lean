/- -/
import Derived.Test.YtdplaepmjogjjaaGreatVAMK1
import Derived.Test.YtdplaepmjogjjaaGreatVAGF
namespace Go.Proofs.YtdplaepmjogjjaaGreat.Am
open Go Go.RowKit Go.Proofs.YtdplaepmjogjjaaGreat
set_option linter.all false
noncomputable section
variable (K:TRes→Prop)
def QfW (t:Int × Qr):TRes:=⟨(zci t.1),[],[],true,[(.sl 0 [(.sl [TI])] (.dp 0 false []) t.2.1)]⟩
def Qjf:TRow:=Qh 47 [(.s Zi),(.c TI)] fun x=>(none,QfW (QA (α:=Qr) x.1 x.2.1))
def QkH:TTab:=⟨[Qcf],true⟩
def QtB:TCode :=
 (zsq [(.reg [zop 2 (.box 37 0 3),zmv 4 (zki 0)]),(.reg [zfa 5 2 0,zld 6 5 1,zmv 7 1,zca 8 82 [6,7],zmv 1 8]),(.reg [zmv 9 1,zmv 4 9]),.ret])
def QEK:List (ARv × Md):=[(.t 4,.one .d)]
theorem QuZ (a:Qr) (k:Int) (h :
 (((a.1).length=(a.1).length)∧K (QfW ((Qy (α:=List (List Int)) a.1 k).1,((Qy (α:=List (List Int)) a.1 k).2,a.2.1,a.2.2))))):Hold (tawp QkH (0+1) QtB (TQ 0 1 QEK K) (Qf [(.a [(.ow 0 [(.sl [TI])] dw a.1),(.c TI a.2.1),(.c .bool a.2.2)]),(.c TI k)])) :=
 Hold.of (by kernel_rfl) h
theorem QyW (a:Qr) (k:Int):TCon Tryz.prog 47 [(.a [(.ow 0 [(.sl [TI])] dw a.1),(.c TI a.2.1),(.c .bool a.2.2)]),(.c TI k)] (QfW (QA (α:=Qr) a k)):=by
 refine Qj rfl fun hb=>tcg (Γ:=QkH) (n:=10) (sg:=Qjf.sg) Qi (TOkL.cons QgH TOkL.nil) (by kernel_rfl) (by kernel_rfl) (QuZ _ a k ?_)
 have hl_a_0:(a.1).length≤9223372036854775807:=hb.1.1.1
 repeat' apply And.intro
 all_goals first | rfl | exact R_eq rfl
theorem Qwj:Qg Tryz.prog Qjf:=Qk fun x _=>QyW x.1 x.2.1
def Qe2 (t:Int):TRes:=zre (zci t)
def QhQ:TRow:=Qh 48 [(.a Zi),(.c TI)] fun x=>(some (ZH (α:=Qr) x.1 x.2.1),Qe2 (m_heldS (α:=Qr) x.1 x.2.1))
def Ql5:TTab:=⟨[Qcy],false⟩
def Qym:TCode :=
 (zsq [(.reg [zop 2 (.box 37 0 3),zmv 4 (zki 0)]),(.reg [zfa 5 2 0,zld 6 5 1,zmv 7 1,zca 8 86 [6,7],zmv 1 8]),(zsq [(.reg [zmv 9 1,zbi 10 .lss 9 (zki 0)]),(.cond 10 (zsq [(.reg [zmv 4 (zki (-1))]),.ret]) .skip)]),(.reg [zmv 11 1,zmv 4 11]),.ret])
def QxO:List (ARv × Md):=[(.t 4,.one .d)]
theorem QAx (a:Qr) (k:Int) (h :
 ((QO (α:=List (List Int)) a.1 k)∧(zif (decide ((m_held (α:=List (List Int)) a.1 k)<(0:Int))) (K (Qe2 (-1:Int))) (K (Qe2 (m_held (α:=List (List Int)) a.1 k)))))):Hold (tawp Ql5 (0+0) Qym (TQ 0 0 QxO K) (Qf [(.a (Tup.cells Zi a)),(.c TI k)])) :=
 Hold.of (by kernel_rfl) h
theorem QBz (a:Qr) (k:Int) (hp:ZH (α:=Qr) a k):TCon Tryz.prog 48 [(.a (Tup.cells Zi a)),(.c TI k)] (Qe2 (m_heldS (α:=Qr) a k)):=by
 refine Qj rfl fun hb=>tcg (Γ:=Ql5) (n:=12) (sg:=QhQ.sg) Qi (TOkL.cons QhE TOkL.nil) (by kernel_rfl) (by kernel_rfl) (QAx _ a k ?_)
 have hl_a_0:(a.1).length≤9223372036854775807:=hb.1.1.1
 have hp0:=(Q3 hp).1
 have hq0:=(Q3 hp).2
 have hp1:=(Q3 hq0).1
 have hq1:=(Q3 hq0).2
 simp only [QoH,Qta,QlW,QlS] at hp0 hq0 hp1 hq1
 refine ⟨(Zz hp0),fun h=>R_eq (Ys (fun e=>Z9 (Zz hp0) (of_decide_eq_true h) (congrArg (fun z=>z.1) e))).symm,fun g0=>?_⟩
 obtain ⟨e0,h0⟩:=Yj (of_decide_eq_false g0)
 rw [h0]
 exact R_eq (Qcv (x:=a) (k:=k) (Prod.ext e0 (Prod.ext rfl rfl))).symm
theorem QAk:Qg Tryz.prog QhQ:=Qk fun x h=>QBz x.1 x.2.1 h
end
end Go.Proofs.YtdplaepmjogjjaaGreat.Am

