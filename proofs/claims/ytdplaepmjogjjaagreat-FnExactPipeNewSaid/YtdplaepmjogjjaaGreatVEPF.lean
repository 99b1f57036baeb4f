/- -/
import Derived.Test.YtdplaepmjogjjaaGreatVEP1
namespace Go.Proofs.YtdplaepmjogjjaaGreat.Am
open Go Go.RowKit Go.Proofs.YtdplaepmjogjjaaGreat
set_option linter.all false
noncomputable section
variable (K:TRes→Prop)
def QhU (t:(List Int)):TRes:=⟨(.r [TI] 0 0 t.length),[(.sl 3 [TI] (.dp 0 true []) t)],[],false,[]⟩
def Qeu:TRow:=Qg 104 [(.c (.sl [TI]))] fun x=>(some (ZF (α:=List Int) x.1),QhU (id (α:=List Int) x.1))
def Qss:TTab:=⟨[],true⟩
def QDA:TCode :=
 (zsq [(.reg [zmv 2 (.k (.n [TI]))]),(.reg [zop 3 (.bsl 3 [TI] []),zmv 4 0,zop 5 (.app 3 4 3 [TI]),zmv 2 5]),.ret])
def Qvf:List (ARv × Md):=[(.t 2,.one (.p 3))]
theorem QDO (l:List Int) (h :
 (((0=0∨0+l.length≤0)∧0+l.length≤big)∧K (QhU (List.take (0+l.length) (l:List Int))))):Hold (tawp Qss (0+0) QDA (TQ 0 0 Qvf K) (Qe [(.c (.sl [TI]) l)])) :=
 Hold.of (by kernel_rfl) h
theorem QHU (l:List Int) (hp:ZF (α:=List Int) l):TCon Tryz.prog 104 [(.c (.sl [TI]) l)] (QhU (id (α:=List Int) l)):=by
 refine Ql rfl fun hb=>tcg (Γ:=Qss) (n:=6) (sg:=Qeu.sg) Qk TOkL.nil (by kernel_rfl) (by kernel_rfl) (QDO _ l ?_)
 have hl_l:l.length≤9223372036854775807:=hb.1.1
 have hl:=J5 l
 unfold ZF at hp
 exact ⟨⟨.inl rfl,by rw [Q3];omega⟩,R_eq (by simp)⟩
theorem QrH:Qi Tryz.prog Qeu:=Qm fun x h=>QHU x.1 h
end
end Go.Proofs.YtdplaepmjogjjaaGreat.Am

