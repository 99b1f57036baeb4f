/- -/
import Derived.Test.YtephkbajoofeoaaWBG8
namespace Go.Proofs.Ytephkbajoofeoaa.Am
open Go Go.RowKit Go.Proofs.Ytephkbajoofeoaa
set_option linter.all false
noncomputable section
variable (K:TRes→Prop)
def Qbu (t:(List Int)):TRes:=⟨(.r [TI] 0 0 t.length),[(.sl 3 [TI] (.dp 0 true []) t)],[],false,[]⟩
def Qb1:TRow:=Qm 121 [(.c (.sl [TI]))] fun x=>(some (QF (α:=List Int) x.1),Qbu (id (α:=List Int) x.1))
def Qfc:TTab:=⟨[],true⟩
def QlH:TCode :=
 (zsq [(.reg [zmv 2 (.k (.n [TI]))]),(.reg [zop 3 (.bsl 3 [TI] []),zmv 4 0,zop 5 (.app 3 4 3 [TI]),zmv 2 5]),.ret])
def Qm8:List (ARv × Md):=[(.t 2,.one (.p 3))]
theorem QjP (l:List Int) (h :
 (((0=0∨0+l.length≤0)∧0+l.length≤big)∧K (Qbu (List.take (0+l.length) (l:List Int))))):Hold (tawp Qfc (0+0) QlH (TQ 0 0 Qm8 K) (Qk [(.c (.sl [TI]) l)])) :=
 Hold.of (by kernel_rfl) h
theorem QnJ (l:List Int) (hp:QF (α:=List Int) l):TCon Try.prog 121 [(.c (.sl [TI]) l)] (Qbu (id (α:=List Int) l)):=by
 refine Qr rfl fun hb=>tcg (Γ:=Qfc) (n:=6) (sg:=Qb1.sg) Qq TOkL.nil (by kernel_rfl) (by kernel_rfl) (QjP _ l ?_)
 have hl_l:l.length≤9223372036854775807:=hb.1.1
 have hl:=Qa3 l
 unfold QF at hp
 exact ⟨⟨.inl rfl,by rw [JT];omega⟩,R_eq (by simp)⟩
theorem Qm7:Qn Try.prog Qb1:=Qs fun x h=>QnJ x.1 h
end
end Go.Proofs.Ytephkbajoofeoaa.Am

