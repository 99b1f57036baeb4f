/- -/
import Derived.Test.YtephkbajoofeoaaWFMK1
import Derived.Test.YtephkbajoofeoaaWFMK3
import Derived.Test.YtephkbajoofeoaaWFMK2
import Derived.Test.YtephkbajoofeoaaWFGF
namespace Go.Proofs.Ytephkbajoofeoaa.Am
open Go Go.RowKit Go.Proofs.Ytephkbajoofeoaa
set_option linter.all false
noncomputable section
variable (K:TRes→Prop)
def Qfr (t:Int × Qs):TRes:=⟨(zci t.1),[],[],true,[(.sl 0 Qz (.dp 0 false []) t.2.1),(.sl 0 Qq (.dp 0 false []) t.2.2.1),(.sl 0 Qu (.dp 0 false []) t.2.2.2.1),(.sl 0 Qu (.dp 0 false []) t.2.2.2.2)]⟩
def Qgi:TRow:=Ql 96 [(.s QG),(.c TI)] fun x=>(none,Qfr (QX (α:=Qs) x.1 x.2.1))
def Qju:TTab:=⟨[QeI,Qep,Qd6],true⟩
def Qyb:TCode :=
 (zsq [(.reg [zop 2 (.box 139 0 4),zmv 4 (zki 0)]),(.reg [zfa 5 2 0,zld 6 5 1,zmv 7 1,zca 8 174 [6,7],zmv 1 8]),(.reg [zfa 9 2 1,zld 10 9 1,zmv 11 1,zca 12 175 [10,11],zmv 1 12]),(.reg [zfa 13 2 2,zld 14 13 1,zmv 15 1,zca 16 176 [14,15],zmv 1 16]),(.reg [zfa 17 2 3,zld 18 17 1,zmv 19 1,zca 20 176 [18,19],zmv 1 20]),(.reg [zmv 21 1,zmv 4 21]),.ret])
def Qp9:List (ARv × Md):=[(.t 4,.one .d)]
theorem QoK (a:Qs) (k:Int) (h :
 (((a.1).length=(a.1).length)∧(((a.2.1).length=(a.2.1).length)∧(((a.2.2.1).length=(a.2.2.1).length)∧(((a.2.2.2).length=(a.2.2.2).length)∧K (Qfr ((Qi (α:=List Qg) a.2.2.2 ((Qi (α:=List Qg) a.2.2.1 ((Qi (α:=List Qd) a.2.1 ((Qi (α:=List Qe) a.1 k).1)).1)).1)).1,((Qi (α:=List Qe) a.1 k).2,(Qi (α:=List Qd) a.2.1 ((Qi (α:=List Qe) a.1 k).1)).2,(Qi (α:=List Qg) a.2.2.1 ((Qi (α:=List Qd) a.2.1 ((Qi (α:=List Qe) a.1 k).1)).1)).2,(Qi (α:=List Qg) a.2.2.2 ((Qi (α:=List Qg) a.2.2.1 ((Qi (α:=List Qd) a.2.1 ((Qi (α:=List Qe) a.1 k).1)).1)).1)).2)))))))):Hold (tawp Qju (0+4) Qyb (TQ 0 4 Qp9 K) (Qk [(.a [(.ow 0 Qz dw a.1),(.ow 0 Qq dw a.2.1),(.ow 0 Qu dw a.2.2.1),(.ow 0 Qu dw a.2.2.2)]),(.c TI k)])) :=
 Hold.of (by kernel_rfl) h
theorem QpY (a:Qs) (k:Int):TCon Try.prog 96 [(.a [(.ow 0 Qz dw a.1),(.ow 0 Qq dw a.2.1),(.ow 0 Qu dw a.2.2.1),(.ow 0 Qu dw a.2.2.2)]),(.c TI k)] (Qfr (QX (α:=Qs) a k)):=by
 refine Qp rfl fun hb=>tcg (Γ:=Qju) (n:=22) (sg:=Qgi.sg) Qo (TOkL.cons Qr8 (TOkL.cons QxF (TOkL.cons Qyf TOkL.nil))) (by kernel_rfl) (by kernel_rfl) (QoK _ a k ?_)
 have hl_a_0:(a.1).length≤9223372036854775807:=hb.1.1.1
 have hl_a_1:(a.2.1).length≤9223372036854775807:=hb.1.2.1.1
 have hl_a_2:(a.2.2.1).length≤9223372036854775807:=hb.1.2.2.1.1
 have hl_a_3:(a.2.2.2).length≤9223372036854775807:=hb.1.2.2.2.1.1
 repeat' apply And.intro
 all_goals first | rfl | exact R_eq rfl
theorem QoI:Qm Try.prog Qgi:=Qr fun x _=>QpY x.1 x.2.1
end
end Go.Proofs.Ytephkbajoofeoaa.Am

