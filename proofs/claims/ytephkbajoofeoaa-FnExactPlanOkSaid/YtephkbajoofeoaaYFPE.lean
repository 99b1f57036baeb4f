/- -/
import Derived.Test.YtephkbajoofeoaaYFP1
namespace Go.Proofs.Ytephkbajoofeoaa.Am
open Go Go.RowKit Go.Proofs.Ytephkbajoofeoaa
set_option linter.all false
noncomputable section
variable (K:TRes→Prop)
def Qap (t:Bool):TRes:=zre (zcb t)
def Qa0:TRow:=Qz 106 [(.c TI),(.c TI),(.c TI)] fun x=>(none,Qap (QD x.1 x.2.1 x.2.2.1))
def Qg7:List TRow:=[]
def QeK:TCode :=
 (zsq [(.reg [zmv 6 (zkb false)]),(.reg [zmv 7 0,zbi 8 .geq 7 (zki 1),zmv 9 8,.grp 9 true [zmv 10 0,zbi 11 .leq 10 (zki 4)] 12 11,zmv 13 12,.grp 13 true [zmv 14 1,zbi 15 .geq 14 (zki 0)] 16 15,zmv 17 16,.grp 17 true [zmv 18 1,zmv 19 0,zbi 20 .lss 18 19] 21 20,zmv 22 21,.grp 22 true [zmv 23 2,zbi 24 .geq 23 (zki 1)] 25 24,zmv 26 25,.grp 26 true [zmv 27 2,zbi 28 .leq 27 (zki 5)] 29 28,zmv 6 29]),.ret])
def QhE:List (ARv × Md):=[(.t 6,.one .d)]
theorem Qih (stages:Int) (s:Int) (micro:Int) (h :
 K (Qap ((((((decide (stages≥(1:Int)))&&(decide (stages≤(4:Int))))&&(decide (s≥(0:Int))))&&(decide (s<stages)))&&(decide (micro≥(1:Int))))&&(decide (micro≤(5:Int)))))):Hold (tawp Qg7 (0+0) QeK (TQ 0 0 QhE K) (Qt [(.c TI stages),(.c TI s),(.c TI micro)])) :=
 Hold.of (by kernel_rfl) h
theorem QhY (stages:Int) (s:Int) (micro:Int):TCon Try.prog 106 [(.c TI stages),(.c TI s),(.c TI micro)] (Qap (QD stages s micro)):=by
 refine QE rfl fun hb=>tcg (n:=30) (sg:=Qa0.sg) QF TOk.nil (by kernel_rfl) (by kernel_rfl) (Qih _ stages s micro ?_)
 exact R_eq (by grind [QD,m_in])
theorem QfY:QB Try.prog Qa0:=QH fun x _=>QhY x.1 x.2.1 x.2.2.1
end
end Go.Proofs.Ytephkbajoofeoaa.Am

