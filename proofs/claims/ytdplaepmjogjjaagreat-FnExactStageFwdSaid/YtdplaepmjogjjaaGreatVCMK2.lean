/- -/
import Derived.Test.YtdplaepmjogjjaaGreatVCMK1
import Derived.Test.YtdplaepmjogjjaaGreatVCGF
namespace Go.Proofs.YtdplaepmjogjjaaGreat.Am
open Go Go.RowKit Go.Proofs.YtdplaepmjogjjaaGreat
set_option linter.all false
noncomputable section
variable (K:TRes→Prop)
def Qjn (t:Int × Qy):TRes:=⟨(zci t.1),[],[],true,[(.sl 0 [(.sl [TI])] (.dp 0 false []) t.2.1)]⟩
def QiP:TRow:=Qg 47 [(.s Zj),(.c TI)] fun x=>(none,Qjn (QG (α:=Qy) x.1 x.2.1))
def QpP:TTab:=⟨[QcL],true⟩
def QAN:TCode :=
 (zsq [(.reg [zop 2 (.box 37 0 3),zmv 4 (zki 0)]),(.reg [zfa 5 2 0,zld 6 5 1,zmv 7 1,zca 8 82 [6,7],zmv 1 8]),(.reg [zmv 9 1,zmv 4 9]),.ret])
def QEx:List (ARv × Md):=[(.t 4,.one .d)]
theorem Qvu (a:Qy) (k:Int) (h :
 (((a.1).length=(a.1).length)∧K (Qjn ((Qz (α:=List (List Int)) a.1 k).1,((Qz (α:=List (List Int)) a.1 k).2,a.2.1,a.2.2))))):Hold (tawp QpP (0+1) QAN (TQ 0 1 QEx K) (Qd [(.a [(.ow 0 [(.sl [TI])] dw a.1),(.c TI a.2.1),(.c .bool a.2.2)]),(.c TI k)])) :=
 Hold.of (by kernel_rfl) h
theorem Qwp (a:Qy) (k:Int):TCon Tryz.prog 47 [(.a [(.ow 0 [(.sl [TI])] dw a.1),(.c TI a.2.1),(.c .bool a.2.2)]),(.c TI k)] (Qjn (QG (α:=Qy) a k)):=by
 refine Qi rfl fun hb=>tcg (Γ:=QpP) (n:=10) (sg:=QiP.sg) Qj (TOkL.cons QgQ TOkL.nil) (by kernel_rfl) (by kernel_rfl) (Qvu _ a k ?_)
 have hl_a_0:(a.1).length≤9223372036854775807:=hb.1.1.1
 repeat' apply And.intro
 all_goals first | rfl | exact R_eq rfl
theorem QBT:Qe Tryz.prog QiP:=Qk fun x _=>Qwp x.1 x.2.1
def QdV (t:Int):TRes:=zre (zci t)
def Qji:TRow:=Qg 48 [(.a Zj),(.c TI)] fun x=>(some (ZI (α:=Qy) x.1 x.2.1),QdV (m_heldS (α:=Qy) x.1 x.2.1))
def Qr5:TTab:=⟨[QcH],false⟩
def QEB:TCode :=
 (zsq [(.reg [zop 2 (.box 37 0 3),zmv 4 (zki 0)]),(.reg [zfa 5 2 0,zld 6 5 1,zmv 7 1,zca 8 86 [6,7],zmv 1 8]),(zsq [(.reg [zmv 9 1,zbi 10 .lss 9 (zki 0)]),(.cond 10 (zsq [(.reg [zmv 4 (zki (-1))]),.ret]) .skip)]),(.reg [zmv 11 1,zmv 4 11]),.ret])
def QBE:List (ARv × Md):=[(.t 4,.one .d)]
theorem QIk (a:Qy) (k:Int) (h :
 ((QZ (α:=List (List Int)) a.1 k)∧(zif (decide ((m_held (α:=List (List Int)) a.1 k)<(0:Int))) (K (QdV (-1:Int))) (K (QdV (m_held (α:=List (List Int)) a.1 k)))))):Hold (tawp Qr5 (0+0) QEB (TQ 0 0 QBE K) (Qd [(.a (Tup.cells Zj a)),(.c TI k)])) :=
 Hold.of (by kernel_rfl) h
theorem QAP (a:Qy) (k:Int) (hp:ZI (α:=Qy) a k):TCon Tryz.prog 48 [(.a (Tup.cells Zj a)),(.c TI k)] (QdV (m_heldS (α:=Qy) a k)):=by
 refine Qi rfl fun hb=>tcg (Γ:=Qr5) (n:=12) (sg:=Qji.sg) Qj (TOkL.cons Qh1 TOkL.nil) (by kernel_rfl) (by kernel_rfl) (QIk _ a k ?_)
 have hl_a_0:(a.1).length≤9223372036854775807:=hb.1.1.1
 have hp0:=(Zd hp).1
 have hq0:=(Zd hp).2
 have hp1:=(Zd hq0).1
 have hq1:=(Zd hq0).2
 simp only [QmZ,Qlz,QtN,QnO] at hp0 hq0 hp1 hq1
 refine ⟨(ZC hp0),fun h=>R_eq (YB (fun e=>Yl (ZC hp0) (of_decide_eq_true h) (congrArg (fun z=>z.1) e))).symm,fun g0=>?_⟩
 obtain ⟨e0,h0⟩:=Yf (of_decide_eq_false g0)
 rw [h0]
 exact R_eq (Qcb (x:=a) (k:=k) (Prod.ext e0 (Prod.ext rfl rfl))).symm
theorem QHV:Qe Tryz.prog Qji:=Qk fun x h=>QAP x.1 x.2.1 h
end
end Go.Proofs.YtdplaepmjogjjaaGreat.Am

