/- -/
import Derived.Test.YtephkbajoofeoaaWDG8
namespace Go.Proofs.Ytephkbajoofeoaa.Am
open Go Go.RowKit Go.Proofs.Ytephkbajoofeoaa
set_option linter.all false
noncomputable section
variable (K:TRes→Prop)
def Qeo (t:(List Int)):TRes:=⟨(.r [TI] 0 0 t.length),[(.sl 3 [TI] (.dp 0 true []) t)],[],false,[]⟩
def Qcn:TRow:=Qj 121 [(.c (.sl [TI]))] fun x=>(some (Yb (α:=List Int) x.1),Qeo (id (α:=List Int) x.1))
def QgK:TTab:=⟨[],true⟩
def Qmm:TCode :=
 (zsq [(.reg [zmv 2 (.k (.n [TI]))]),(.reg [zop 3 (.bsl 3 [TI] []),zmv 4 0,zop 5 (.app 3 4 3 [TI]),zmv 2 5]),.ret])
def Qqt:List (ARv × Md):=[(.t 2,.one (.p 3))]
theorem Qm0 (l:List Int) (h :
 (((0=0∨0+l.length≤0)∧0+l.length≤big)∧K (Qeo (List.take (0+l.length) (l:List Int))))):Hold (tawp QgK (0+0) Qmm (TQ 0 0 Qqt K) (Qh [(.c (.sl [TI]) l)])) :=
 Hold.of (by kernel_rfl) h
theorem Qpd (l:List Int) (hp:Yb (α:=List Int) l):TCon Try.prog 121 [(.c (.sl [TI]) l)] (Qeo (id (α:=List Int) l)):=by
 refine Ql rfl fun hb=>tcg (Γ:=QgK) (n:=6) (sg:=Qcn.sg) Qm TOkL.nil (by kernel_rfl) (by kernel_rfl) (Qm0 _ l ?_)
 have hl_l:l.length≤9223372036854775807:=hb.1.1
 have hl:=Qbz l
 unfold Yb at hp
 exact ⟨⟨.inl rfl,by rw [ZP];omega⟩,R_eq (by simp)⟩
theorem Qli:Qi Try.prog Qcn:=Qn fun x h=>Qpd x.1 h
end
end Go.Proofs.Ytephkbajoofeoaa.Am

