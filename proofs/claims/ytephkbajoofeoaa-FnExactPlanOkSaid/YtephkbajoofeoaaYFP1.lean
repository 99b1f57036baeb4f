/- -/
import Derived.Test.YtephkbajoofeoaaYFG8
namespace Go.Proofs.Ytephkbajoofeoaa.Am
open Go Go.RowKit Go.Proofs.Ytephkbajoofeoaa
set_option linter.all false
noncomputable section
variable (K:TRes→Prop)
def QaZ (t:Bool):TRes:=zre (zcb t)
def J3:TRow:=Qz 102 [(.c TI),(.c TI),(.c TI)] fun x=>(none,QaZ (m_in x.1 x.2.1 x.2.2.1))
def Qif:List TRow:=[]
def QgE:TCode :=
 (zsq [(.reg [zmv 6 (zkb false)]),(.reg [zmv 7 0,zmv 8 1,zbi 9 .geq 7 8,zmv 10 9,.grp 10 true [zmv 11 0,zmv 12 2,zbi 13 .leq 11 12] 14 13,zmv 6 14]),.ret])
def QhN:List (ARv × Md):=[(.t 6,.one .d)]
theorem QiE (x:Int) (low:Int) (high:Int) (h :
 K (QaZ ((decide (x≥low))&&(decide (x≤high))))):Hold (tawp Qif (0+0) QgE (TQ 0 0 QhN K) (Qt [(.c TI x),(.c TI low),(.c TI high)])) :=
 Hold.of (by kernel_rfl) h
theorem QiP (x:Int) (low:Int) (high:Int):TCon Try.prog 102 [(.c TI x),(.c TI low),(.c TI high)] (QaZ (m_in x low high)):=by
 refine QE rfl fun hb=>tcg (n:=15) (sg:=J3.sg) QF TOk.nil (by kernel_rfl) (by kernel_rfl) (QiE _ x low high ?_)
 exact R_eq rfl
theorem QfI:QB Try.prog J3:=QH fun x _=>QiP x.1 x.2.1 x.2.2.1
end
end Go.Proofs.Ytephkbajoofeoaa.Am

