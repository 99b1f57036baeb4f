/- -/
import Derived.Test.YtephkbajoofeoaaWCMK1
import Derived.Test.YtephkbajoofeoaaWCMK3
import Derived.Test.YtephkbajoofeoaaWCMK2
import Derived.Test.YtephkbajoofeoaaWCGF
namespace Go.Proofs.Ytephkbajoofeoaa.Am
open Go Go.RowKit Go.Proofs.Ytephkbajoofeoaa
set_option linter.all false
noncomputable section
variable (K:TRes→Prop)
def Qeo (t:Int × Qt):TRes:=⟨(zci t.1),[],[],true,[(.sl 0 Qw (.dp 0 false []) t.2.1),(.sl 0 Qn (.dp 0 false []) t.2.2.1),(.sl 0 Qu (.dp 0 false []) t.2.2.2.1),(.sl 0 Qu (.dp 0 false []) t.2.2.2.2)]⟩
def Qek:TRow:=Qm 96 [(.s QM),(.c TI)] fun x=>(none,Qeo (Jf (α:=Qt) x.1 x.2.1))
def Qma:TTab:=⟨[QdW,Qfv,QdK],true⟩
def QwO:TCode :=
 (zsq [(.reg [zop 2 (.box 139 0 4),zmv 4 (zki 0)]),(.reg [zfa 5 2 0,zld 6 5 1,zmv 7 1,zca 8 174 [6,7],zmv 1 8]),(.reg [zfa 9 2 1,zld 10 9 1,zmv 11 1,zca 12 175 [10,11],zmv 1 12]),(.reg [zfa 13 2 2,zld 14 13 1,zmv 15 1,zca 16 176 [14,15],zmv 1 16]),(.reg [zfa 17 2 3,zld 18 17 1,zmv 19 1,zca 20 176 [18,19],zmv 1 20]),(.reg [zmv 21 1,zmv 4 21]),.ret])
def Qn5:List (ARv × Md):=[(.t 4,.one .d)]
theorem QnU (a:Qt) (k:Int) (h :
 (((a.1).length=(a.1).length)∧(((a.2.1).length=(a.2.1).length)∧(((a.2.2.1).length=(a.2.2.1).length)∧(((a.2.2.2).length=(a.2.2.2).length)∧K (Qeo ((Qg (α:=List Qh) a.2.2.2 ((Qg (α:=List Qh) a.2.2.1 ((Qg (α:=List Qf) a.2.1 ((Qg (α:=List Qd) a.1 k).1)).1)).1)).1,((Qg (α:=List Qd) a.1 k).2,(Qg (α:=List Qf) a.2.1 ((Qg (α:=List Qd) a.1 k).1)).2,(Qg (α:=List Qh) a.2.2.1 ((Qg (α:=List Qf) a.2.1 ((Qg (α:=List Qd) a.1 k).1)).1)).2,(Qg (α:=List Qh) a.2.2.2 ((Qg (α:=List Qh) a.2.2.1 ((Qg (α:=List Qf) a.2.1 ((Qg (α:=List Qd) a.1 k).1)).1)).1)).2)))))))):Hold (tawp Qma (0+4) QwO (TQ 0 4 Qn5 K) (Ql [(.a [(.ow 0 Qw dw a.1),(.ow 0 Qn dw a.2.1),(.ow 0 Qu dw a.2.2.1),(.ow 0 Qu dw a.2.2.2)]),(.c TI k)])) :=
 Hold.of (by kernel_rfl) h
theorem Qwu (a:Qt) (k:Int):TCon Try.prog 96 [(.a [(.ow 0 Qw dw a.1),(.ow 0 Qn dw a.2.1),(.ow 0 Qu dw a.2.2.1),(.ow 0 Qu dw a.2.2.2)]),(.c TI k)] (Qeo (Jf (α:=Qt) a k)):=by
 refine Qq rfl fun hb=>tcg (Γ:=Qma) (n:=22) (sg:=Qek.sg) Qp (TOkL.cons QrI (TOkL.cons Qpj (TOkL.cons Qtk TOkL.nil))) (by kernel_rfl) (by kernel_rfl) (QnU _ a k ?_)
 have hl_a_0:(a.1).length≤9223372036854775807:=hb.1.1.1
 have hl_a_1:(a.2.1).length≤9223372036854775807:=hb.1.2.1.1
 have hl_a_2:(a.2.2.1).length≤9223372036854775807:=hb.1.2.2.1.1
 have hl_a_3:(a.2.2.2).length≤9223372036854775807:=hb.1.2.2.2.1.1
 repeat' apply And.intro
 all_goals first | rfl | exact R_eq rfl
theorem QsM:Qo Try.prog Qek:=Qr fun x _=>Qwu x.1 x.2.1
end
end Go.Proofs.Ytephkbajoofeoaa.Am

