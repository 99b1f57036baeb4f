/- -/
import Derived.Test.YtdplaepmjogjjaaGreatVBMK1
import Derived.Test.YtdplaepmjogjjaaGreatVBMK3
import Derived.Test.YtdplaepmjogjjaaGreatVBMK2
import Derived.Test.YtdplaepmjogjjaaGreatVBGF
namespace Go.Proofs.YtdplaepmjogjjaaGreat.Am
open Go Go.RowKit Go.Proofs.YtdplaepmjogjjaaGreat
set_option linter.all false
noncomputable section
variable (K:TRes→Prop)
def Qix (t:Int × Qp):TRes:=⟨(zci t.1),[],[],true,[(.sl 0 QA (.dp 0 false []) t.2.1),(.sl 0 Qo (.dp 0 false []) t.2.2.1),(.sl 0 Qt (.dp 0 false []) t.2.2.2.1),(.sl 0 Qt (.dp 0 false []) t.2.2.2.2)]⟩
def QgT:TRow:=Qi 25 [(.s Qx),(.c TI)] fun x=>(none,Qix (Qaz (α:=Qp) x.1 x.2.1))
def QlD:TTab:=⟨[Qii,Qhm,QiI],true⟩
def QBc:TCode :=
 (zsq [(.reg [zop 2 (.box 56 0 4),zmv 4 (zki 0)]),(.reg [zfa 5 2 0,zld 6 5 1,zmv 7 1,zca 8 42 [6,7],zmv 1 8]),(.reg [zfa 9 2 1,zld 10 9 1,zmv 11 1,zca 12 95 [10,11],zmv 1 12]),(.reg [zfa 13 2 2,zld 14 13 1,zmv 15 1,zca 16 96 [14,15],zmv 1 16]),(.reg [zfa 17 2 3,zld 18 17 1,zmv 19 1,zca 20 96 [18,19],zmv 1 20]),(.reg [zmv 21 1,zmv 4 21]),.ret])
def Qv1:List (ARv × Md):=[(.t 4,.one .d)]
theorem QuA (a:Qp) (k:Int) (h :
 (((a.1).length=(a.1).length)∧(((a.2.1).length=(a.2.1).length)∧(((a.2.2.1).length=(a.2.2.1).length)∧(((a.2.2.2).length=(a.2.2.2).length)∧K (Qix ((Qm (α:=List Qf) a.2.2.2 ((Qm (α:=List Qf) a.2.2.1 ((Qm (α:=List Qc) a.2.1 ((Qm (α:=List Qh) a.1 k).1)).1)).1)).1,((Qm (α:=List Qh) a.1 k).2,(Qm (α:=List Qc) a.2.1 ((Qm (α:=List Qh) a.1 k).1)).2,(Qm (α:=List Qf) a.2.2.1 ((Qm (α:=List Qc) a.2.1 ((Qm (α:=List Qh) a.1 k).1)).1)).2,(Qm (α:=List Qf) a.2.2.2 ((Qm (α:=List Qf) a.2.2.1 ((Qm (α:=List Qc) a.2.1 ((Qm (α:=List Qh) a.1 k).1)).1)).1)).2)))))))):Hold (tawp QlD (0+4) QBc (TQ 0 4 Qv1 K) (Qg [(.a [(.ow 0 QA dw a.1),(.ow 0 Qo dw a.2.1),(.ow 0 Qt dw a.2.2.1),(.ow 0 Qt dw a.2.2.2)]),(.c TI k)])) :=
 Hold.of (by kernel_rfl) h
theorem Qsx (a:Qp) (k:Int):TCon Tryz.prog 25 [(.a [(.ow 0 QA dw a.1),(.ow 0 Qo dw a.2.1),(.ow 0 Qt dw a.2.2.1),(.ow 0 Qt dw a.2.2.2)]),(.c TI k)] (Qix (Qaz (α:=Qp) a k)):=by
 refine Qk rfl fun hb=>tcg (Γ:=QlD) (n:=22) (sg:=QgT.sg) Ql (TOkL.cons QBM (TOkL.cons Qv6 (TOkL.cons QD3 TOkL.nil))) (by kernel_rfl) (by kernel_rfl) (QuA _ a k ?_)
 have hl_a_0:(a.1).length≤9223372036854775807:=hb.1.1.1
 have hl_a_1:(a.2.1).length≤9223372036854775807:=hb.1.2.1.1
 have hl_a_2:(a.2.2.1).length≤9223372036854775807:=hb.1.2.2.1.1
 have hl_a_3:(a.2.2.2).length≤9223372036854775807:=hb.1.2.2.2.1.1
 repeat' apply And.intro
 all_goals first | rfl | exact R_eq rfl
theorem Qv4:Qj Tryz.prog QgT:=Qn fun x _=>Qsx x.1 x.2.1
end
end Go.Proofs.YtdplaepmjogjjaaGreat.Am

