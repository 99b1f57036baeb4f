/- -/
import Derived.Test.YtjbdljkhbglnhaaGreatZHP1
namespace Go.Proofs.YtjbdljkhbglnhaaGreat.Am
open Go Go.RowKit Go.Proofs.YtjbdljkhbglnhaaGreat
set_option linter.all false
noncomputable section
variable (K:TRes→Prop)
def Qkn (t:Bool):TRes:=zre (zcb t)
def Qg4:TRow:=Qg 147 [(.c TI),(.c TI),(.c TI)] fun x=>(none,Qkn (Yv x.1 x.2.1 x.2.2.1))
def QHb:List TRow:=[]
def QRq:TCode :=
 (zsq [(.reg [zmv 6 (zkb false)]),(.reg [zmv 7 0,zbi 8 .geq 7 (zki 1),zmv 9 8,.grp 9 true [zmv 10 0,zbi 11 .leq 10 (zki 4)] 12 11,zmv 13 12,.grp 13 true [zmv 14 1,zbi 15 .geq 14 (zki 0)] 16 15,zmv 17 16,.grp 17 true [zmv 18 1,zmv 19 0,zbi 20 .lss 18 19] 21 20,zmv 22 21,.grp 22 true [zmv 23 2,zbi 24 .geq 23 (zki 1)] 25 24,zmv 26 25,.grp 26 true [zmv 27 2,zbi 28 .leq 27 (zki 5)] 29 28,zmv 6 29]),.ret])
def QQU:List (ARv × Md):=[(.t 6,.one .d)]
theorem QAB (stages:Int) (s:Int) (micro:Int) (h :
 K (Qkn ((((((decide (stages≥(1:Int)))&&(decide (stages≤(4:Int))))&&(decide (s≥(0:Int))))&&(decide (s<stages)))&&(decide (micro≥(1:Int))))&&(decide (micro≤(5:Int)))))):Hold (tawp QHb (0+0) QRq (TQ 0 0 QQU K) (Qf [(.c TI stages),(.c TI s),(.c TI micro)])) :=
 Hold.of (by kernel_rfl) h
theorem QE0 (stages:Int) (s:Int) (micro:Int):TCon Tryz.prog 147 [(.c TI stages),(.c TI s),(.c TI micro)] (Qkn (Yv stages s micro)):=by
 refine Qq rfl fun hb=>tcg (n:=30) (sg:=Qg4.sg) Qj TOk.nil (by kernel_rfl) (by kernel_rfl) (QAB _ stages s micro ?_)
 exact R_eq (by grind [Yv,m_in])
theorem Qwc:Qh Tryz.prog Qg4:=Qk fun x _=>QE0 x.1 x.2.1 x.2.2.1
def Qey (t:Int):TRes:=zre (zci t)
def Qmv:TRow:=Qg 148 [(.c TI),(.c TI),(.c TI),(.c TI)] fun x=>(none,Qey (YZ x.1 x.2.1 x.2.2.1 x.2.2.2.1))
def QIm:List TRow:=[Qg4]
def QFp:TCode :=
 (zsq [(.reg [zmv 8 (zki 0)]),(zsq [(.reg [zmv 9 1,zmv 10 2,zmv 11 3,zca 12 147 [9,10,11],zno 13 12]),(.cond 13 (zsq [(.reg [zmv 8 (zki 0)]),.ret]) .skip)]),(zsq [(.reg [zmv 14 0,zbi 15 .eql 14 (zki 2)]),(.cond 15 (zsq [(.reg [zmv 16 3,zmv 17 1,zbi 18 .sub 17 (zki 1),zmv 19 2,zbi 20 .sub 18 19,zop 21 (.mm false 16 20),zmv 8 21]),.ret]) .skip)]),(.reg [zmv 22 3,zmv 8 22]),.ret])
def QQ8:List (ARv × Md):=[(.t 8,.one .d)]
theorem QDw (ds:Int) (stages:Int) (s:Int) (micro:Int) (h :
 (zif (!(Yv stages s micro)) (K (Qey (0:Int))) (zif (ds==(2:Int)) (K (Qey (if (w64 ((w64 (stages-(1:Int)))-s))<micro then (w64 ((w64 (stages-(1:Int)))-s)) else micro))) (K (Qey micro))))):Hold (tawp QIm (0+0) QFp (TQ 0 0 QQ8 K) (Qf [(.c TI ds),(.c TI stages),(.c TI s),(.c TI micro)])) :=
 Hold.of (by kernel_rfl) h
theorem QER (ds:Int) (stages:Int) (s:Int) (micro:Int):TCon Tryz.prog 148 [(.c TI ds),(.c TI stages),(.c TI s),(.c TI micro)] (Qey (YZ ds stages s micro)):=by
 refine Qq rfl fun hb=>tcg (n:=23) (sg:=Qmv.sg) Qj (TOk.cons Qwc TOk.nil) (by kernel_rfl) (by kernel_rfl) (QDw _ ds stages s micro ?_)
 refine ⟨fun h=>R_eq (by grind [YZ]),fun h=>?_⟩
 have hp:Yv stages s micro=true:=by simpa using h
 have h2:=hp
 simp only [Yv,Bool.and_eq_true,QJ] at h2
 rw [Qo (x:=stages-1) (by omega) (by omega),Qo (x:=stages-1-s) (by omega) (by omega)]
 grind [YZ,iMin]
theorem QKX:Qh Tryz.prog Qmv:=Qk fun x _=>QER x.1 x.2.1 x.2.2.1 x.2.2.2.1
end
end Go.Proofs.YtjbdljkhbglnhaaGreat.Am

