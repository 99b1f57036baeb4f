/- -/
import Derived.Test.YtephkbajoofeoaaWEG8
namespace Go.Proofs.Ytephkbajoofeoaa.Am
open Go Go.RowKit Go.Proofs.Ytephkbajoofeoaa
set_option linter.all false
noncomputable section
variable (K:TRes→Prop)
def Qer (t:(List Int)):TRes:=⟨(.r [TI] 0 0 t.length),[(.sl 3 [TI] (.dp 0 true []) t)],[],false,[]⟩
def QeN:TRow:=Ql 121 [(.c (.sl [TI]))] fun x=>(some (ZO (α:=List Int) x.1),Qer (id (α:=List Int) x.1))
def Qil:TTab:=⟨[],true⟩
def Qqi:TCode :=
 (zsq [(.reg [zmv 2 (.k (.n [TI]))]),(.reg [zop 3 (.bsl 3 [TI] []),zmv 4 0,zop 5 (.app 3 4 3 [TI]),zmv 2 5]),.ret])
def QqM:List (ARv × Md):=[(.t 2,.one (.p 3))]
theorem QmT (l:List Int) (h :
 (((0=0∨0+l.length≤0)∧0+l.length≤big)∧K (Qer (List.take (0+l.length) (l:List Int))))):Hold (tawp Qil (0+0) Qqi (TQ 0 0 QqM K) (Qh [(.c (.sl [TI]) l)])) :=
 Hold.of (by kernel_rfl) h
theorem QmS (l:List Int) (hp:ZO (α:=List Int) l):TCon Try.prog 121 [(.c (.sl [TI]) l)] (Qer (id (α:=List Int) l)):=by
 refine Qn rfl fun hb=>tcg (Γ:=Qil) (n:=6) (sg:=QeN.sg) Qo TOkL.nil (by kernel_rfl) (by kernel_rfl) (QmT _ l ?_)
 have hl_l:l.length≤9223372036854775807:=hb.1.1
 have hl:=QcO l
 unfold ZO at hp
 exact ⟨⟨.inl rfl,by rw [QaY];omega⟩,R_eq (by simp)⟩
theorem Quo:Qm Try.prog QeN:=Qp fun x h=>QmS x.1 h
end
end Go.Proofs.Ytephkbajoofeoaa.Am

