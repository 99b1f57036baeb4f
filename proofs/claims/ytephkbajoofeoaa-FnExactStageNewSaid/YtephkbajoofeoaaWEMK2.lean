/- -/
import Derived.Test.YtephkbajoofeoaaWEMK1
import Derived.Test.YtephkbajoofeoaaWEGF
namespace Go.Proofs.Ytephkbajoofeoaa.Am
open Go Go.RowKit Go.Proofs.Ytephkbajoofeoaa
set_option linter.all false
noncomputable section
variable (K:TRes→Prop)
def Qdm (t:Int × QE):TRes:=⟨(zci t.1),[],[],true,[(.sl 0 [(.sl [TI])] (.dp 0 false []) t.2.1)]⟩
def Qdx:TRow:=Ql 100 [(.s QT),(.c TI)] fun x=>(none,Qdm (Qs (α:=QE) x.1 x.2.1))
def QlE:TTab:=⟨[QaC],true⟩
def QnP:TCode :=
 (zsq [(.reg [zop 2 (.box 119 0 3),zmv 4 (zki 0)]),(.reg [zfa 5 2 0,zld 6 5 1,zmv 7 1,zca 8 161 [6,7],zmv 1 8]),(.reg [zmv 9 1,zmv 4 9]),.ret])
def Qnv:List (ARv × Md):=[(.t 4,.one .d)]
theorem Qsp (a:QE) (k:Int) (h :
 (((a.1).length=(a.1).length)∧K (Qdm ((Qk (α:=List (List Int)) a.1 k).1,((Qk (α:=List (List Int)) a.1 k).2,a.2.1,a.2.2))))):Hold (tawp QlE (0+1) QnP (TQ 0 1 Qnv K) (Qh [(.a [(.ow 0 [(.sl [TI])] dw a.1),(.c TI a.2.1),(.c .bool a.2.2)]),(.c TI k)])) :=
 Hold.of (by kernel_rfl) h
theorem QtB (a:QE) (k:Int):TCon Try.prog 100 [(.a [(.ow 0 [(.sl [TI])] dw a.1),(.c TI a.2.1),(.c .bool a.2.2)]),(.c TI k)] (Qdm (Qs (α:=QE) a k)):=by
 refine Qn rfl fun hb=>tcg (Γ:=QlE) (n:=10) (sg:=Qdx.sg) Qo (TOkL.cons Qez TOkL.nil) (by kernel_rfl) (by kernel_rfl) (Qsp _ a k ?_)
 have hl_a_0:(a.1).length≤9223372036854775807:=hb.1.1.1
 repeat' apply And.intro
 all_goals first | rfl | exact R_eq rfl
theorem Qoe:Qm Try.prog Qdx:=Qp fun x _=>QtB x.1 x.2.1
def QbC (t:Int):TRes:=zre (zci t)
def QeY:TRow:=Ql 101 [(.a QT),(.c TI)] fun x=>(some (Q1 (α:=QE) x.1 x.2.1),QbC (m_heldS (α:=QE) x.1 x.2.1))
def Qk1:TTab:=⟨[Qa3],false⟩
def QnS:TCode :=
 (zsq [(.reg [zop 2 (.box 119 0 3),zmv 4 (zki 0)]),(.reg [zfa 5 2 0,zld 6 5 1,zmv 7 1,zca 8 164 [6,7],zmv 1 8]),(zsq [(.reg [zmv 9 1,zbi 10 .lss 9 (zki 0)]),(.cond 10 (zsq [(.reg [zmv 4 (zki (-1))]),.ret]) .skip)]),(.reg [zmv 11 1,zmv 4 11]),.ret])
def Qud:List (ARv × Md):=[(.t 4,.one .d)]
theorem Qm1 (a:QE) (k:Int) (h :
 ((Qw (α:=List (List Int)) a.1 k)∧(zif (decide ((m_held (α:=List (List Int)) a.1 k)<(0:Int))) (K (QbC (-1:Int))) (K (QbC (m_held (α:=List (List Int)) a.1 k)))))):Hold (tawp Qk1 (0+0) QnS (TQ 0 0 Qud K) (Qh [(.a (Tup.cells QT a)),(.c TI k)])) :=
 Hold.of (by kernel_rfl) h
theorem QsK (a:QE) (k:Int) (hp:Q1 (α:=QE) a k):TCon Try.prog 101 [(.a (Tup.cells QT a)),(.c TI k)] (QbC (m_heldS (α:=QE) a k)):=by
 refine Qn rfl fun hb=>tcg (Γ:=Qk1) (n:=12) (sg:=QeY.sg) Qo (TOkL.cons Qdi TOkL.nil) (by kernel_rfl) (by kernel_rfl) (Qm1 _ a k ?_)
 have hl_a_0:(a.1).length≤9223372036854775807:=hb.1.1.1
 have hp0:=(QI hp).1
 have hq0:=(QI hp).2
 have hp1:=(QI hq0).1
 have hq1:=(QI hq0).2
 simp only [Qgh,Qgs,QiB,QfF] at hp0 hq0 hp1 hq1
 refine ⟨(QV hp0),fun h=>R_eq (ZC (fun e=>Zz (QV hp0) (of_decide_eq_true h) (congrArg (fun z=>z.1) e))).symm,fun g0=>?_⟩
 obtain ⟨e0,h0⟩:=Zp (of_decide_eq_false g0)
 rw [h0]
 exact R_eq (Qaf (x:=a) (k:=k) (Prod.ext e0 (Prod.ext rfl rfl))).symm
theorem Qt0:Qm Try.prog QeY:=Qp fun x h=>QsK x.1 x.2.1 h
end
end Go.Proofs.Ytephkbajoofeoaa.Am

