/- -/
import Derived.Test.YtephkbajoofeoaaYAG8
namespace Go.Proofs.Ytephkbajoofeoaa.Am
open Go Go.RowKit Go.Proofs.Ytephkbajoofeoaa
set_option linter.all false
noncomputable section
variable (K:TRes→Prop)
def QcL (t:Bool):TRes:=zre (zcb t)
def Jy:TRow:=Qy 102 [(.c TI),(.c TI),(.c TI)] fun x=>(none,QcL (m_in x.1 x.2.1 x.2.2.1))
def Qiy:List TRow:=[]
def Qhk:TCode :=
 (zsq [(.reg [zmv 6 (zkb false)]),(.reg [zmv 7 0,zmv 8 1,zbi 9 .geq 7 8,zmv 10 9,.grp 10 true [zmv 11 0,zmv 12 2,zbi 13 .leq 11 12] 14 13,zmv 6 14]),.ret])
def QlK:List (ARv × Md):=[(.t 6,.one .d)]
theorem Qhe (x:Int) (low:Int) (high:Int) (h :
 K (QcL ((decide (x≥low))&&(decide (x≤high))))):Hold (tawp Qiy (0+0) Qhk (TQ 0 0 QlK K) (Qn [(.c TI x),(.c TI low),(.c TI high)])) :=
 Hold.of (by kernel_rfl) h
theorem Qhs (x:Int) (low:Int) (high:Int):TCon Try.prog 102 [(.c TI x),(.c TI low),(.c TI high)] (QcL (m_in x low high)):=by
 refine QN rfl fun hb=>tcg (n:=15) (sg:=Jy.sg) QC TOk.nil (by kernel_rfl) (by kernel_rfl) (Qhe _ x low high ?_)
 exact R_eq rfl
theorem Qcl:Qx Try.prog Jy:=QD fun x _=>Qhs x.1 x.2.1 x.2.2.1
end
end Go.Proofs.Ytephkbajoofeoaa.Am

