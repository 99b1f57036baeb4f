/- -/
import Derived.Test.YtephkbajoofeoaaWAMK1
import Derived.Test.YtephkbajoofeoaaWAGF
namespace Go.Proofs.Ytephkbajoofeoaa.Am
open Go Go.RowKit Go.Proofs.Ytephkbajoofeoaa
set_option linter.all false
noncomputable section
variable (K:TRes→Prop)
def QcD (t:Int × Qb):TRes:=⟨(zci t.1),[],[],true,[(.sl 0 [TI] (.dp 0 false []) t.2.2)]⟩
def QbU:TRow:=Qm 42 [(.s Qc),(.c TI)] fun x=>(none,QcD (Qz (α:=Qb) x.1 x.2.1))
def Qej:TTab:=⟨[QaR],true⟩
def Ql3:TCode :=
 (zsq [(.reg [zop 2 (.box 39 0 2),zmv 4 (zki 0)]),(.reg [zfa 5 2 1,zld 6 5 1,zmv 7 1,zca 8 69 [6,7],zmv 1 8]),(.reg [zmv 9 1,zmv 4 9]),.ret])
def QiX:List (ARv × Md):=[(.t 4,.one .d)]
theorem Qmp (a:Qb) (k:Int) (h :
 (((a.2).length=(a.2).length)∧K (QcD ((QH (α:=List Int) a.2 k).1,(a.1,(QH (α:=List Int) a.2 k).2))))):Hold (tawp Qej (0+1) Ql3 (TQ 0 1 QiX K) (Qk [(.a [(.c TI a.1),(.ow 0 [TI] dw a.2)]),(.c TI k)])) :=
 Hold.of (by kernel_rfl) h
theorem Qlh (a:Qb) (k:Int):TCon Try.prog 42 [(.a [(.c TI a.1),(.ow 0 [TI] dw a.2)]),(.c TI k)] (QcD (Qz (α:=Qb) a k)):=by
 refine Qp rfl fun hb=>tcg (Γ:=Qej) (n:=10) (sg:=QbU.sg) Qr (TOkL.cons QfS TOkL.nil) (by kernel_rfl) (by kernel_rfl) (Qmp _ a k ?_)
 have hl_a_1:(a.2).length≤9223372036854775807:=hb.1.2.1.1
 repeat' apply And.intro
 all_goals first | rfl | exact R_eq rfl
theorem Qi5:Qo Try.prog QbU:=Qu fun x _=>Qlh x.1 x.2.1
def QbP (t:Int × Qe):TRes:=⟨(zci t.1),[],[],true,[(.sl 0 Qc (.dp 0 false []) t.2.2)]⟩
def Qbd:TRow:=Qm 41 [(.s Qx),(.c TI)] fun x=>(none,QbP (Qz (α:=Qe) x.1 x.2.1))
def Qfo:TTab:=⟨[Qbc],true⟩
def Qla:TCode :=
 (zsq [(.reg [zop 2 (.box 36 0 2),zmv 4 (zki 0)]),(.reg [zfa 5 2 1,zld 6 5 1,zmv 7 1,zca 8 129 [6,7],zmv 1 8]),(.reg [zmv 9 1,zmv 4 9]),.ret])
def QnR:List (ARv × Md):=[(.t 4,.one .d)]
theorem Qkw (a:Qe) (k:Int) (h :
 (((a.2).length=(a.2).length)∧K (QbP ((QH (α:=List Qb) a.2 k).1,(a.1,(QH (α:=List Qb) a.2 k).2))))):Hold (tawp Qfo (0+1) Qla (TQ 0 1 QnR K) (Qk [(.a [(.c TI a.1),(.ow 0 Qc dw a.2)]),(.c TI k)])) :=
 Hold.of (by kernel_rfl) h
theorem QnU (a:Qe) (k:Int):TCon Try.prog 41 [(.a [(.c TI a.1),(.ow 0 Qc dw a.2)]),(.c TI k)] (QbP (Qz (α:=Qe) a k)):=by
 refine Qp rfl fun hb=>tcg (Γ:=Qfo) (n:=10) (sg:=Qbd.sg) Qr (TOkL.cons Qoa TOkL.nil) (by kernel_rfl) (by kernel_rfl) (Qkw _ a k ?_)
 have hl_a_1:(a.2).length≤9223372036854775807:=hb.1.2.1.1
 repeat' apply And.intro
 all_goals first | rfl | exact R_eq rfl
theorem Qkf:Qo Try.prog Qbd:=Qu fun x _=>QnU x.1 x.2.1
def QaL (t:Int):TRes:=zre (zci t)
def Qbp:TRow:=Qm 43 [(.a Qx),(.c TI)] fun x=>(some (Zi (α:=Qe) x.1 x.2.1),QaL (m_heldS (α:=Qe) x.1 x.2.1))
def QeI:TTab:=⟨[Qbb],false⟩
def Qli:TCode :=
 (zsq [(.reg [zop 2 (.box 36 0 2),zmv 4 (zki 0)]),(.reg [zfa 5 2 1,zld 6 5 1,zmv 7 1,zca 8 130 [6,7],zmv 1 8]),(zsq [(.reg [zmv 9 1,zbi 10 .lss 9 (zki 0)]),(.cond 10 (zsq [(.reg [zmv 4 (zki (-1))]),.ret]) .skip)]),(.reg [zmv 11 1,zmv 4 11]),.ret])
def QnW:List (ARv × Md):=[(.t 4,.one .d)]
theorem QkZ (a:Qe) (k:Int) (h :
 ((QO (α:=List Qb) a.2 k)∧(zif (decide ((m_held (α:=List Qb) a.2 k)<(0:Int))) (K (QaL (-1:Int))) (K (QaL (m_held (α:=List Qb) a.2 k)))))):Hold (tawp QeI (0+0) Qli (TQ 0 0 QnW K) (Qk [(.a [(.c TI a.1),(.c (.sl Qc) a.2)]),(.c TI k)])) :=
 Hold.of (by kernel_rfl) h
theorem Qkx (a:Qe) (k:Int) (hp:Zi (α:=Qe) a k):TCon Try.prog 43 [(.a [(.c TI a.1),(.c (.sl Qc) a.2)]),(.c TI k)] (QaL (m_heldS (α:=Qe) a k)):=by
 refine Qp rfl fun hb=>tcg (Γ:=QeI) (n:=12) (sg:=Qbp.sg) Qr (TOkL.cons Qj8 TOkL.nil) (by kernel_rfl) (by kernel_rfl) (QkZ _ a k ?_)
 have hl_a_1:(a.2).length≤9223372036854775807:=hb.1.2.1.1
 have hp0:=(Qe1 hp).1
 have hq0:=(Qe1 hp).2
 simp only [Qif,Qlr,Qki,Ql1] at hp0 hq0
 refine ⟨(Qfz hq0),fun h=>R_eq (QiB (fun e=>QhC (Qfz hq0) (of_decide_eq_true h) (congrArg (fun z=>z.2) e))).symm,fun g0=>?_⟩
 obtain ⟨e0,h0⟩:=Qg4 (of_decide_eq_false g0)
 rw [h0]
 exact R_eq (Qhk (x:=a) (k:=k) (Prod.ext rfl e0)).symm
theorem Qk7:Qo Try.prog Qbp:=Qu fun x h=>Qkx x.1 x.2.1 h
end
end Go.Proofs.Ytephkbajoofeoaa.Am

