/- -/
import Derived.Test.YtephkbajoofeoaaWBMK1
import Derived.Test.YtephkbajoofeoaaWBGF
namespace Go.Proofs.Ytephkbajoofeoaa.Am
open Go Go.RowKit Go.Proofs.Ytephkbajoofeoaa
set_option linter.all false
noncomputable section
variable (K:TRes→Prop)
def Qa7 (t:Int × Qb):TRes:=⟨(zci t.1),[],[],true,[(.sl 0 [TI] (.dp 0 false []) t.2.2)]⟩
def Qba:TRow:=Qm 42 [(.s Qc),(.c TI)] fun x=>(none,Qa7 (Qw (α:=Qb) x.1 x.2.1))
def QgJ:TTab:=⟨[Qah],true⟩
def QnG:TCode :=
 (zsq [(.reg [zop 2 (.box 39 0 2),zmv 4 (zki 0)]),(.reg [zfa 5 2 1,zld 6 5 1,zmv 7 1,zca 8 69 [6,7],zmv 1 8]),(.reg [zmv 9 1,zmv 4 9]),.ret])
def Qjh:List (ARv × Md):=[(.t 4,.one .d)]
theorem Qnr (a:Qb) (k:Int) (h :
 (((a.2).length=(a.2).length)∧K (Qa7 ((QL (α:=List Int) a.2 k).1,(a.1,(QL (α:=List Int) a.2 k).2))))):Hold (tawp QgJ (0+1) QnG (TQ 0 1 Qjh K) (Qk [(.a [(.c TI a.1),(.ow 0 [TI] dw a.2)]),(.c TI k)])) :=
 Hold.of (by kernel_rfl) h
theorem QmA (a:Qb) (k:Int):TCon Try.prog 42 [(.a [(.c TI a.1),(.ow 0 [TI] dw a.2)]),(.c TI k)] (Qa7 (Qw (α:=Qb) a k)):=by
 refine Qr rfl fun hb=>tcg (Γ:=QgJ) (n:=10) (sg:=Qba.sg) Qq (TOkL.cons Qga TOkL.nil) (by kernel_rfl) (by kernel_rfl) (Qnr _ a k ?_)
 have hl_a_1:(a.2).length≤9223372036854775807:=hb.1.2.1.1
 repeat' apply And.intro
 all_goals first | rfl | exact R_eq rfl
theorem Qj8:Qn Try.prog Qba:=Qs fun x _=>QmA x.1 x.2.1
def QaC (t:Int):TRes:=zre (zci t)
def QbR:TRow:=Qm 45 [(.a Qc),(.c TI)] fun x=>(some (QT (α:=Qb) x.1 x.2.1),QaC (m_heldS (α:=Qb) x.1 x.2.1))
def Qg4:TTab:=⟨[Qad],false⟩
def QkC:TCode :=
 (zsq [(.reg [zop 2 (.box 39 0 2),zmv 4 (zki 0)]),(.reg [zfa 5 2 1,zld 6 5 1,zmv 7 1,zca 8 70 [6,7],zmv 1 8]),(zsq [(.reg [zmv 9 1,zbi 10 .lss 9 (zki 0)]),(.cond 10 (zsq [(.reg [zmv 4 (zki (-1))]),.ret]) .skip)]),(.reg [zmv 11 1,zmv 4 11]),.ret])
def QjH:List (ARv × Md):=[(.t 4,.one .d)]
theorem QnS (a:Qb) (k:Int) (h :
 ((QN (α:=List Int) a.2 k)∧(zif (decide ((m_held (α:=List Int) a.2 k)<(0:Int))) (K (QaC (-1:Int))) (K (QaC (m_held (α:=List Int) a.2 k)))))):Hold (tawp Qg4 (0+0) QkC (TQ 0 0 QjH K) (Qk [(.a [(.c TI a.1),(.c (.sl [TI]) a.2)]),(.c TI k)])) :=
 Hold.of (by kernel_rfl) h
theorem Qlg (a:Qb) (k:Int) (hp:QT (α:=Qb) a k):TCon Try.prog 45 [(.a [(.c TI a.1),(.c (.sl [TI]) a.2)]),(.c TI k)] (QaC (m_heldS (α:=Qb) a k)):=by
 refine Qr rfl fun hb=>tcg (Γ:=Qg4) (n:=12) (sg:=QbR.sg) Qq (TOkL.cons Qey TOkL.nil) (by kernel_rfl) (by kernel_rfl) (QnS _ a k ?_)
 have hl_a_1:(a.2).length≤9223372036854775807:=hb.1.2.1.1
 have hp0:=(Qaf hp).1
 have hq0:=(Qaf hp).2
 simp only [Qe0,Qgj,QeH,Qdu] at hp0 hq0
 refine ⟨(QaP hq0),fun h=>R_eq (Qgb (fun e=>Qca (QaP hq0) (of_decide_eq_true h) (congrArg (fun z=>z.2) e))).symm,fun g0=>?_⟩
 obtain ⟨e0,h0⟩:=Qbr (of_decide_eq_false g0)
 rw [h0]
 exact R_eq (Qbm (x:=a) (k:=k) (Prod.ext rfl e0)).symm
theorem QlX:Qn Try.prog QbR:=Qs fun x h=>Qlg x.1 x.2.1 h
def Qb6 (t:Int × Qe):TRes:=⟨(zci t.1),[],[],true,[(.sl 0 Qc (.dp 0 false []) t.2.2)]⟩
def Qbk:TRow:=Qm 41 [(.s Qz),(.c TI)] fun x=>(none,Qb6 (Qw (α:=Qe) x.1 x.2.1))
def Qh4:TTab:=⟨[QbE],true⟩
def Qle:TCode :=
 (zsq [(.reg [zop 2 (.box 36 0 2),zmv 4 (zki 0)]),(.reg [zfa 5 2 1,zld 6 5 1,zmv 7 1,zca 8 129 [6,7],zmv 1 8]),(.reg [zmv 9 1,zmv 4 9]),.ret])
def Qi9:List (ARv × Md):=[(.t 4,.one .d)]
theorem Qn7 (a:Qe) (k:Int) (h :
 (((a.2).length=(a.2).length)∧K (Qb6 ((QL (α:=List Qb) a.2 k).1,(a.1,(QL (α:=List Qb) a.2 k).2))))):Hold (tawp Qh4 (0+1) Qle (TQ 0 1 Qi9 K) (Qk [(.a [(.c TI a.1),(.ow 0 Qc dw a.2)]),(.c TI k)])) :=
 Hold.of (by kernel_rfl) h
theorem Qja (a:Qe) (k:Int):TCon Try.prog 41 [(.a [(.c TI a.1),(.ow 0 Qc dw a.2)]),(.c TI k)] (Qb6 (Qw (α:=Qe) a k)):=by
 refine Qr rfl fun hb=>tcg (Γ:=Qh4) (n:=10) (sg:=Qbk.sg) Qq (TOkL.cons Qj7 TOkL.nil) (by kernel_rfl) (by kernel_rfl) (Qn7 _ a k ?_)
 have hl_a_1:(a.2).length≤9223372036854775807:=hb.1.2.1.1
 repeat' apply And.intro
 all_goals first | rfl | exact R_eq rfl
theorem QjL:Qn Try.prog Qbk:=Qs fun x _=>Qja x.1 x.2.1
def J8 (t:Int):TRes:=zre (zci t)
def Qcx:TRow:=Qm 43 [(.a Qz),(.c TI)] fun x=>(some (QT (α:=Qe) x.1 x.2.1),J8 (m_heldS (α:=Qe) x.1 x.2.1))
def QhV:TTab:=⟨[Qde],false⟩
def Qno:TCode :=
 (zsq [(.reg [zop 2 (.box 36 0 2),zmv 4 (zki 0)]),(.reg [zfa 5 2 1,zld 6 5 1,zmv 7 1,zca 8 130 [6,7],zmv 1 8]),(zsq [(.reg [zmv 9 1,zbi 10 .lss 9 (zki 0)]),(.cond 10 (zsq [(.reg [zmv 4 (zki (-1))]),.ret]) .skip)]),(.reg [zmv 11 1,zmv 4 11]),.ret])
def QlA:List (ARv × Md):=[(.t 4,.one .d)]
theorem QiA (a:Qe) (k:Int) (h :
 ((QN (α:=List Qb) a.2 k)∧(zif (decide ((m_held (α:=List Qb) a.2 k)<(0:Int))) (K (J8 (-1:Int))) (K (J8 (m_held (α:=List Qb) a.2 k)))))):Hold (tawp QhV (0+0) Qno (TQ 0 0 QlA K) (Qk [(.a [(.c TI a.1),(.c (.sl Qc) a.2)]),(.c TI k)])) :=
 Hold.of (by kernel_rfl) h
theorem Qnm (a:Qe) (k:Int) (hp:QT (α:=Qe) a k):TCon Try.prog 43 [(.a [(.c TI a.1),(.c (.sl Qc) a.2)]),(.c TI k)] (J8 (m_heldS (α:=Qe) a k)):=by
 refine Qr rfl fun hb=>tcg (Γ:=QhV) (n:=12) (sg:=Qcx.sg) Qq (TOkL.cons Qnc TOkL.nil) (by kernel_rfl) (by kernel_rfl) (QiA _ a k ?_)
 have hl_a_1:(a.2).length≤9223372036854775807:=hb.1.2.1.1
 have hp0:=(Qaf hp).1
 have hq0:=(Qaf hp).2
 simp only [Qe0,Qgj,QeH,Qdu] at hp0 hq0
 refine ⟨(QaP hq0),fun h=>R_eq (Qgb (fun e=>Qca (QaP hq0) (of_decide_eq_true h) (congrArg (fun z=>z.2) e))).symm,fun g0=>?_⟩
 obtain ⟨e0,h0⟩:=Qbr (of_decide_eq_false g0)
 rw [h0]
 exact R_eq (Qbm (x:=a) (k:=k) (Prod.ext rfl e0)).symm
theorem Qnz:Qn Try.prog Qcx:=Qs fun x h=>Qnm x.1 x.2.1 h
end
end Go.Proofs.Ytephkbajoofeoaa.Am

