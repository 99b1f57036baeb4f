/- -/
import Derived.Test.YtephkbajoofeoaaWAMK1
import Derived.Test.YtephkbajoofeoaaWAGF
namespace Go.Proofs.Ytephkbajoofeoaa.Am
open Go Go.RowKit Go.Proofs.Ytephkbajoofeoaa
set_option linter.all false
noncomputable section
variable (K:TRes→Prop)
def Qc8 (t:Int × Qb):TRes:=⟨(zci t.1),[],[],true,[(.sl 0 [TI] (.dp 0 false []) t.2.2)]⟩
def QcC:TRow:=Qn 42 [(.s Qc),(.c TI)] fun x=>(none,Qc8 (QA (α:=Qb) x.1 x.2.1))
def Qg8:TTab:=⟨[Qal],true⟩
def Qna:TCode :=
 (zsq [(.reg [zop 2 (.box 39 0 2),zmv 4 (zki 0)]),(.reg [zfa 5 2 1,zld 6 5 1,zmv 7 1,zca 8 69 [6,7],zmv 1 8]),(.reg [zmv 9 1,zmv 4 9]),.ret])
def Qjk:List (ARv × Md):=[(.t 4,.one .d)]
theorem QiN (a:Qb) (k:Int) (h :
 (((a.2).length=(a.2).length)∧K (Qc8 ((QF (α:=List Int) a.2 k).1,(a.1,(QF (α:=List Int) a.2 k).2))))):Hold (tawp Qg8 (0+1) Qna (TQ 0 1 Qjk K) (Ql [(.a [(.c TI a.1),(.ow 0 [TI] dw a.2)]),(.c TI k)])) :=
 Hold.of (by kernel_rfl) h
theorem QjE (a:Qb) (k:Int):TCon Try.prog 42 [(.a [(.c TI a.1),(.ow 0 [TI] dw a.2)]),(.c TI k)] (Qc8 (QA (α:=Qb) a k)):=by
 refine Qp rfl fun hb=>tcg (Γ:=Qg8) (n:=10) (sg:=QcC.sg) Qq (TOkL.cons QgX TOkL.nil) (by kernel_rfl) (by kernel_rfl) (QiN _ a k ?_)
 have hl_a_1:(a.2).length≤9223372036854775807:=hb.1.2.1.1
 repeat' apply And.intro
 all_goals first | rfl | exact R_eq rfl
theorem Qn0:Qm Try.prog QcC:=Qt fun x _=>QjE x.1 x.2.1
def Qc0 (t:Int × Qe):TRes:=⟨(zci t.1),[],[],true,[(.sl 0 Qc (.dp 0 false []) t.2.2)]⟩
def Qcv:TRow:=Qn 41 [(.s Qx),(.c TI)] fun x=>(none,Qc0 (QA (α:=Qe) x.1 x.2.1))
def QdE:TTab:=⟨[Qb0],true⟩
def Qn9:TCode :=
 (zsq [(.reg [zop 2 (.box 36 0 2),zmv 4 (zki 0)]),(.reg [zfa 5 2 1,zld 6 5 1,zmv 7 1,zca 8 129 [6,7],zmv 1 8]),(.reg [zmv 9 1,zmv 4 9]),.ret])
def QlY:List (ARv × Md):=[(.t 4,.one .d)]
theorem QiB (a:Qe) (k:Int) (h :
 (((a.2).length=(a.2).length)∧K (Qc0 ((QF (α:=List Qb) a.2 k).1,(a.1,(QF (α:=List Qb) a.2 k).2))))):Hold (tawp QdE (0+1) Qn9 (TQ 0 1 QlY K) (Ql [(.a [(.c TI a.1),(.ow 0 Qc dw a.2)]),(.c TI k)])) :=
 Hold.of (by kernel_rfl) h
theorem QiV (a:Qe) (k:Int):TCon Try.prog 41 [(.a [(.c TI a.1),(.ow 0 Qc dw a.2)]),(.c TI k)] (Qc0 (QA (α:=Qe) a k)):=by
 refine Qp rfl fun hb=>tcg (Γ:=QdE) (n:=10) (sg:=Qcv.sg) Qq (TOkL.cons Qlp TOkL.nil) (by kernel_rfl) (by kernel_rfl) (QiB _ a k ?_)
 have hl_a_1:(a.2).length≤9223372036854775807:=hb.1.2.1.1
 repeat' apply And.intro
 all_goals first | rfl | exact R_eq rfl
theorem QkE:Qm Try.prog Qcv:=Qt fun x _=>QiV x.1 x.2.1
def JT (t:Int):TRes:=zre (zci t)
def Qcf:TRow:=Qn 43 [(.a Qx),(.c TI)] fun x=>(some (Zh (α:=Qe) x.1 x.2.1),JT (m_heldS (α:=Qe) x.1 x.2.1))
def QhQ:TTab:=⟨[Qbg],false⟩
def QlZ:TCode :=
 (zsq [(.reg [zop 2 (.box 36 0 2),zmv 4 (zki 0)]),(.reg [zfa 5 2 1,zld 6 5 1,zmv 7 1,zca 8 130 [6,7],zmv 1 8]),(zsq [(.reg [zmv 9 1,zbi 10 .lss 9 (zki 0)]),(.cond 10 (zsq [(.reg [zmv 4 (zki (-1))]),.ret]) .skip)]),(.reg [zmv 11 1,zmv 4 11]),.ret])
def QiI:List (ARv × Md):=[(.t 4,.one .d)]
theorem Qka (a:Qe) (k:Int) (h :
 ((QP (α:=List Qb) a.2 k)∧(zif (decide ((m_held (α:=List Qb) a.2 k)<(0:Int))) (K (JT (-1:Int))) (K (JT (m_held (α:=List Qb) a.2 k)))))):Hold (tawp QhQ (0+0) QlZ (TQ 0 0 QiI K) (Ql [(.a [(.c TI a.1),(.c (.sl Qc) a.2)]),(.c TI k)])) :=
 Hold.of (by kernel_rfl) h
theorem Qi0 (a:Qe) (k:Int) (hp:Zh (α:=Qe) a k):TCon Try.prog 43 [(.a [(.c TI a.1),(.c (.sl Qc) a.2)]),(.c TI k)] (JT (m_heldS (α:=Qe) a k)):=by
 refine Qp rfl fun hb=>tcg (Γ:=QhQ) (n:=12) (sg:=Qcf.sg) Qq (TOkL.cons QjQ TOkL.nil) (by kernel_rfl) (by kernel_rfl) (Qka _ a k ?_)
 have hl_a_1:(a.2).length≤9223372036854775807:=hb.1.2.1.1
 have hp0:=(Qdw hp).1
 have hq0:=(Qdw hp).2
 simp only [QkA,QjP,QjI,Qms] at hp0 hq0
 refine ⟨(QfF hq0),fun h=>R_eq (Qjq (fun e=>Qea (QfF hq0) (of_decide_eq_true h) (congrArg (fun z=>z.2) e))).symm,fun g0=>?_⟩
 obtain ⟨e0,h0⟩:=QdL (of_decide_eq_false g0)
 rw [h0]
 exact R_eq (Qgg (x:=a) (k:=k) (Prod.ext rfl e0)).symm
theorem QjU:Qm Try.prog Qcf:=Qt fun x h=>Qi0 x.1 x.2.1 h
end
end Go.Proofs.Ytephkbajoofeoaa.Am

