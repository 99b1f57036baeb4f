/- -/
import Derived.Test.YtephkbajoofeoaaWAG8
namespace Go.Proofs.Ytephkbajoofeoaa.Am
open Go Go.RowKit Go.Proofs.Ytephkbajoofeoaa
set_option linter.all false
noncomputable section
variable (K:TRes→Prop)
def QbR (t:(List Int)):TRes:=⟨(.r [TI] 0 0 t.length),[(.sl 3 [TI] (.dp 0 true []) t)],[],false,[]⟩
def Qau:TRow:=Qn 121 [(.c (.sl [TI]))] fun x=>(some (QQ (α:=List Int) x.1),QbR (id (α:=List Int) x.1))
def Qet:TTab:=⟨[],true⟩
def QmQ:TCode :=
 (zsq [(.reg [zmv 2 (.k (.n [TI]))]),(.reg [zop 3 (.bsl 3 [TI] []),zmv 4 0,zop 5 (.app 3 4 3 [TI]),zmv 2 5]),.ret])
def Qmc:List (ARv × Md):=[(.t 2,.one (.p 3))]
theorem QjY (l:List Int) (h :
 (((0=0∨0+l.length≤0)∧0+l.length≤big)∧K (QbR (List.take (0+l.length) (l:List Int))))):Hold (tawp Qet (0+0) QmQ (TQ 0 0 Qmc K) (Ql [(.c (.sl [TI]) l)])) :=
 Hold.of (by kernel_rfl) h
theorem Qk3 (l:List Int) (hp:QQ (α:=List Int) l):TCon Try.prog 121 [(.c (.sl [TI]) l)] (QbR (id (α:=List Int) l)):=by
 refine Qp rfl fun hb=>tcg (Γ:=Qet) (n:=6) (sg:=Qau.sg) Qq TOkL.nil (by kernel_rfl) (by kernel_rfl) (QjY _ l ?_)
 have hl_l:l.length≤9223372036854775807:=hb.1.1
 have hl:=Qap l
 unfold QQ at hp
 exact ⟨⟨.inl rfl,by rw [Yw];omega⟩,R_eq (by simp)⟩
theorem Qhd:Qm Try.prog Qau:=Qt fun x h=>Qk3 x.1 h
end
end Go.Proofs.Ytephkbajoofeoaa.Am

