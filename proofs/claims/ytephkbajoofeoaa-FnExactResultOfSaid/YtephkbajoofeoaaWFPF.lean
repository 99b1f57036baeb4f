/- -/
import Derived.Test.YtephkbajoofeoaaWFG8
namespace Go.Proofs.Ytephkbajoofeoaa.Am
open Go Go.RowKit Go.Proofs.Ytephkbajoofeoaa
set_option linter.all false
noncomputable section
variable (K:TRes→Prop)
def QeM (t:(List Int)):TRes:=⟨(.r [TI] 0 0 t.length),[(.sl 3 [TI] (.dp 0 true []) t)],[],false,[]⟩
def Qgs:TRow:=Ql 121 [(.c (.sl [TI]))] fun x=>(some (ZD (α:=List Int) x.1),QeM (id (α:=List Int) x.1))
def Qi0:TTab:=⟨[],true⟩
def QwA:TCode :=
 (zsq [(.reg [zmv 2 (.k (.n [TI]))]),(.reg [zop 3 (.bsl 3 [TI] []),zmv 4 0,zop 5 (.app 3 4 3 [TI]),zmv 2 5]),.ret])
def QsW:List (ARv × Md):=[(.t 2,.one (.p 3))]
theorem QvD (l:List Int) (h :
 (((0=0∨0+l.length≤0)∧0+l.length≤big)∧K (QeM (List.take (0+l.length) (l:List Int))))):Hold (tawp Qi0 (0+0) QwA (TQ 0 0 QsW K) (Qk [(.c (.sl [TI]) l)])) :=
 Hold.of (by kernel_rfl) h
theorem Qs3 (l:List Int) (hp:ZD (α:=List Int) l):TCon Try.prog 121 [(.c (.sl [TI]) l)] (QeM (id (α:=List Int) l)):=by
 refine Qp rfl fun hb=>tcg (Γ:=Qi0) (n:=6) (sg:=Qgs.sg) Qo TOkL.nil (by kernel_rfl) (by kernel_rfl) (QvD _ l ?_)
 have hl_l:l.length≤9223372036854775807:=hb.1.1
 have hl:=QkE l
 unfold ZD at hp
 exact ⟨⟨.inl rfl,by rw [QaY];omega⟩,R_eq (by simp)⟩
theorem Qti:Qm Try.prog Qgs:=Qr fun x h=>Qs3 x.1 h
end
end Go.Proofs.Ytephkbajoofeoaa.Am

