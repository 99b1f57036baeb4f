/- -/
import Derived.Test.YtephkbajoofeoaaYED1
import Derived.Test.YtephkbajoofeoaaYED2
import Derived.Test.YtephkbajoofeoaaYEG9
namespace Go.Proofs.Ytephkbajoofeoaa.Am
open Go Go.RowKit Go.Proofs.Ytephkbajoofeoaa
set_option linter.all false
set_option maxHeartbeats 2000000
noncomputable section
variable (K:TRes→Prop)
def Jo (t:(List TOp') × Int):TRes:=zra (.tp [(.a [(zcs ctOp t.1)]),(zci t.2)])
def Qk (x0:List Int):(List TOp') × Int:=Classical.epsilon fun t:(List TOp') × Int=>(QaH x0 t)∧TCon Try.prog 58 [(.c (.sl [(.int .u8)]) x0)] (Jo t)
def Qd1:TRow:=Qp 58 [(.c (.sl [(.int .u8)]))] fun x=>(some (Zn x.1),Jo (Qk x.1))
def QjZ:List TRow:=[Qd6,QcD,Zx]
def QoI:TCode :=
 (zsq [(.reg [zop 2 (.new 66 [(.n ctOp)]),zmv 3 (zki 0)]),(.reg [zmv 6 0,zca 7 114 [6],zmv 4 7]),(.reg [zmv 8 4,zca 9 131 [8],zop 5 (.new 66 [(.n ctOp)]),zst 5 9 1]),(.draw [zLd 10 5 1,zmv 11 4,zca 12 116 [11,(zki 6)],zst 2 10 1,zmv 3 12] [(0,2)]),.ret])
def Qm0:List (ARv × Md):=[(.l 2 1 true,.b [.d]),(.t 3,.one .d)]
theorem Qnb (code:List Int) (h :
 ((Zn code)∧((Qh (YV code))∧((QI ((Jq (YV code)).2) (6:Int))∧K (Jo ((Jq (YV code)).1,(Qc ((Jq (YV code)).2) (6:Int)).1)))))):Hold (tawp QjZ (0+0) QoI (TQ 0 0 Qm0 K) (Qj [(.c (.sl [(.int .u8)]) code)])) :=
 Hold.of (by kernel_rfl) h
theorem QeT (code:List Int) (hp:Zn code):∃ t:(List TOp') × Int,(QaH code t)∧TCon Try.prog 58 [(.c (.sl [(.int .u8)]) code)] (Jo t):=by
 refine Zh (tcx (n:=13) (sg:=Qd1.sg) Qq (TOk.cons QkW (TOk.cons QpE (TOk.cons Ye TOk.nil))) (by kernel_rfl) (by kernel_rfl) (Qnb (fun r'=>∃ t,(QaH code t)∧r'=Jo t) code ?_))
 have b1:=QnN _ (Qij code hp)
 exact ⟨hp,Qij code hp,b1.2,QB b1.1⟩
theorem QjJ (code:List Int) (hp:Zn code):QaH code (Qk code):=(Classical.epsilon_spec (QeT code hp)).1
theorem Qn9 (code:List Int) (hp:Zn code):TCon Try.prog 58 [(.c (.sl [(.int .u8)]) code)] (Jo (Qk code)):=(Classical.epsilon_spec (QeT code hp)).2
theorem Qo9:Qo Try.prog Qd1:=Qs fun x h=>Qn9 x.1 h
end
end Go.Proofs.Ytephkbajoofeoaa.Am

