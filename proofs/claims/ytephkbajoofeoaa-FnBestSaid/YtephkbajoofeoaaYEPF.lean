/- -/
import Derived.Test.YtephkbajoofeoaaYEG8
namespace Go.Proofs.Ytephkbajoofeoaa.Am
open Go Go.RowKit Go.Proofs.Ytephkbajoofeoaa
set_option linter.all false
noncomputable section
variable (K:TRes→Prop)
def Qce (t:(List Int)):TRes:=⟨(.r [TI] 0 0 t.length),[(.sl 3 [TI] true t)],[],true,[]⟩
def Qay:TRow:=Qp 121 [(.c (.sl [TI]))] fun x=>(some (Yq (α:=List Int) x.1),Qce (id (α:=List Int) x.1))
def Qk0:List TRow:=[]
def Qlx:TCode :=
 (zsq [(.reg [zmv 2 (.k (.n [TI]))]),(.reg [zop 3 (.bsl 3 [TI] []),zmv 4 0,zop 5 (.app 3 4 3 [TI]),zmv 2 5]),.ret])
def QkK:List (ARv × Md):=[(.t 2,.one (.o 3))]
theorem QpG (l:List Int) (h :
 (((0=0∨0+l.length≤0)∧0+l.length≤big)∧K (Qce (List.take (0+l.length) (l:List Int))))):Hold (tawp Qk0 (0+0) Qlx (TQ 0 0 QkK K) (Qj [(.c (.sl [TI]) l)])) :=
 Hold.of (by kernel_rfl) h
theorem Qmy (l:List Int) (hp:Yq (α:=List Int) l):TCon Try.prog 121 [(.c (.sl [TI]) l)] (Qce (id (α:=List Int) l)):=by
 refine QG rfl fun hb=>tcg (n:=6) (sg:=Qay.sg) Qq TOk.nil (by kernel_rfl) (by kernel_rfl) (QpG _ l ?_)
 have hl_l:l.length≤9223372036854775807:=hb.1.1
 have hl:=Qdc l
 unfold Yq at hp
 exact ⟨⟨.inl rfl,by rw [Yw];omega⟩,R_eq (by simp)⟩
theorem Qfc:Qo Try.prog Qay:=Qs fun x h=>Qmy x.1 h
end
end Go.Proofs.Ytephkbajoofeoaa.Am

