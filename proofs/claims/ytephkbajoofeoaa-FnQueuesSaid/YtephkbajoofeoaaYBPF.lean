/- -/
import Derived.Test.YtephkbajoofeoaaYBG8
namespace Go.Proofs.Ytephkbajoofeoaa.Am
open Go Go.RowKit Go.Proofs.Ytephkbajoofeoaa
set_option linter.all false
noncomputable section
variable (K:TRes→Prop)
def QbF (t:(List Int)):TRes:=⟨(.r [TI] 0 0 t.length),[(.sl 3 [TI] true t)],[],true,[]⟩
def Qac:TRow:=Qr 121 [(.c (.sl [TI]))] fun x=>(some (Qz (α:=List Int) x.1),QbF (id (α:=List Int) x.1))
def Qkc:List TRow:=[]
def QjM:TCode :=
 (zsq [(.reg [zmv 2 (.k (.n [TI]))]),(.reg [zop 3 (.bsl 3 [TI] []),zmv 4 0,zop 5 (.app 3 4 3 [TI]),zmv 2 5]),.ret])
def QjB:List (ARv × Md):=[(.t 2,.one (.o 3))]
theorem Qhg (l:List Int) (h :
 (((0=0∨0+l.length≤0)∧0+l.length≤big)∧K (QbF (List.take (0+l.length) (l:List Int))))):Hold (tawp Qkc (0+0) QjM (TQ 0 0 QjB K) (Ql [(.c (.sl [TI]) l)])) :=
 Hold.of (by kernel_rfl) h
theorem QhL (l:List Int) (hp:Qz (α:=List Int) l):TCon Try.prog 121 [(.c (.sl [TI]) l)] (QbF (id (α:=List Int) l)):=by
 refine QN rfl fun hb=>tcg (n:=6) (sg:=Qac.sg) Qv TOk.nil (by kernel_rfl) (by kernel_rfl) (Qhg _ l ?_)
 have hl_l:l.length≤9223372036854775807:=hb.1.1
 have hl:=ZU l
 unfold Qz at hp
 exact ⟨⟨.inl rfl,by rw [ZY];omega⟩,R_eq (by simp)⟩
theorem QeQ:Qq Try.prog Qac:=Qy fun x h=>QhL x.1 h
end
end Go.Proofs.Ytephkbajoofeoaa.Am

