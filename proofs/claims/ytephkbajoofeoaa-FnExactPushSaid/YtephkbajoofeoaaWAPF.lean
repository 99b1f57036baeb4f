/- -/
import Derived.Test.YtephkbajoofeoaaWAG8
namespace Go.Proofs.Ytephkbajoofeoaa.Am
open Go Go.RowKit Go.Proofs.Ytephkbajoofeoaa
set_option linter.all false
noncomputable section
variable (K:TRes→Prop)
def Qb4 (t:(List Int)):TRes:=⟨(.r [TI] 0 0 t.length),[(.sl 3 [TI] (.dp 0 true []) t)],[],false,[]⟩
def Qac:TRow:=Qm 121 [(.c (.sl [TI]))] fun x=>(some (QM (α:=List Int) x.1),Qb4 (id (α:=List Int) x.1))
def Qgt:TTab:=⟨[],true⟩
def QkO:TCode :=
 (zsq [(.reg [zmv 2 (.k (.n [TI]))]),(.reg [zop 3 (.bsl 3 [TI] []),zmv 4 0,zop 5 (.app 3 4 3 [TI]),zmv 2 5]),.ret])
def Qlj:List (ARv × Md):=[(.t 2,.one (.p 3))]
theorem Qnt (l:List Int) (h :
 (((0=0∨0+l.length≤0)∧0+l.length≤big)∧K (Qb4 (List.take (0+l.length) (l:List Int))))):Hold (tawp Qgt (0+0) QkO (TQ 0 0 Qlj K) (Qk [(.c (.sl [TI]) l)])) :=
 Hold.of (by kernel_rfl) h
theorem QnT (l:List Int) (hp:QM (α:=List Int) l):TCon Try.prog 121 [(.c (.sl [TI]) l)] (Qb4 (id (α:=List Int) l)):=by
 refine Qp rfl fun hb=>tcg (Γ:=Qgt) (n:=6) (sg:=Qac.sg) Qr TOkL.nil (by kernel_rfl) (by kernel_rfl) (Qnt _ l ?_)
 have hl_l:l.length≤9223372036854775807:=hb.1.1
 have hl:=Qa7 l
 unfold QM at hp
 exact ⟨⟨.inl rfl,by rw [YE];omega⟩,R_eq (by simp)⟩
theorem QfY:Qo Try.prog Qac:=Qu fun x h=>QnT x.1 h
end
end Go.Proofs.Ytephkbajoofeoaa.Am

