/- -/
import Derived.Test.YtephkbajoofeoaaWDMK1
import Derived.Test.YtephkbajoofeoaaWDGF
namespace Go.Proofs.Ytephkbajoofeoaa.Am
open Go Go.RowKit Go.Proofs.Ytephkbajoofeoaa
set_option linter.all false
noncomputable section
variable (K:TRes→Prop)
def Qd6 (t:Int × (List TOp')):TRes:=⟨(zci t.1),[],[],true,[(.sl 0 ctOp (.dp 0 false []) t.2)]⟩
def Qeg:TRow:=Qj 68 [(.s [(.sl ctOp)]),(.c TI)] fun x=>(none,Qd6 (YE (α:=List TOp') x.1 x.2.1))
def Qi5:TTab:=⟨[Qed],true⟩
def Qnj:TCode :=
 (zsq [(.reg [zop 2 (.box 66 0 1),zmv 4 (zki 0)]),(.reg [zfa 5 2 0,zld 6 5 1,zmv 7 1,zca 8 88 [6,7],zmv 1 8]),(.reg [zmv 9 1,zmv 4 9]),.ret])
def QrK:List (ARv × Md):=[(.t 4,.one .d)]
theorem Qpf (a:List TOp') (k:Int) (h :
 ((a.length=a.length)∧K (Qd6 ((Qz (α:=List TOp') a k).1,(Qz (α:=List TOp') a k).2)))):Hold (tawp Qi5 (0+1) Qnj (TQ 0 1 QrK K) (Qh [(.a [(.ow 0 ctOp dw a)]),(.c TI k)])) :=
 Hold.of (by kernel_rfl) h
theorem Qme (a:List TOp') (k:Int):TCon Try.prog 68 [(.a [(.ow 0 ctOp dw a)]),(.c TI k)] (Qd6 (YE (α:=List TOp') a k)):=by
 refine Ql rfl fun hb=>tcg (Γ:=Qi5) (n:=10) (sg:=Qeg.sg) Qm (TOkL.cons QoE TOkL.nil) (by kernel_rfl) (by kernel_rfl) (Qpf _ a k ?_)
 have hl_a_0:(a).length≤9223372036854775807:=hb.1.1.1
 repeat' apply And.intro
 all_goals first | rfl | exact R_eq rfl
theorem QnI:Qi Try.prog Qeg:=Qn fun x _=>Qme x.1 x.2.1
end
end Go.Proofs.Ytephkbajoofeoaa.Am

