/- -/
import Derived.Test.YtephkbajoofeoaaYHG8
namespace Go.Proofs.Ytephkbajoofeoaa.Am
open Go Go.RowKit Go.Proofs.Ytephkbajoofeoaa
set_option linter.all false
noncomputable section
variable (K:TRes→Prop)
def Qa8 (t:Bool):TRes:=zre (zcb t)
def JE:TRow:=QD 102 [(.c TI),(.c TI),(.c TI)] fun x=>(none,Qa8 (m_in x.1 x.2.1 x.2.2.1))
def QfD:List TRow:=[]
def Qgs:TCode :=
 (zsq [(.reg [zmv 6 (zkb false)]),(.reg [zmv 7 0,zmv 8 1,zbi 9 .geq 7 8,zmv 10 9,.grp 10 true [zmv 11 0,zmv 12 2,zbi 13 .leq 11 12] 14 13,zmv 6 14]),.ret])
def QeR:List (ARv × Md):=[(.t 6,.one .d)]
theorem QeL (x:Int) (low:Int) (high:Int) (h :
 K (Qa8 ((decide (x≥low))&&(decide (x≤high))))):Hold (tawp QfD (0+0) Qgs (TQ 0 0 QeR K) (Qw [(.c TI x),(.c TI low),(.c TI high)])) :=
 Hold.of (by kernel_rfl) h
theorem QfY (x:Int) (low:Int) (high:Int):TCon Try.prog 102 [(.c TI x),(.c TI low),(.c TI high)] (Qa8 (m_in x low high)):=by
 refine QI rfl fun hb=>tcg (n:=15) (sg:=JE.sg) QH TOk.nil (by kernel_rfl) (by kernel_rfl) (QeL _ x low high ?_)
 exact R_eq rfl
theorem Qbp:QC Try.prog JE:=QM fun x _=>QfY x.1 x.2.1 x.2.2.1
end
end Go.Proofs.Ytephkbajoofeoaa.Am

