/- -/
import Derived.Test.YtephkbajoofeoaaYHP1
namespace Go.Proofs.Ytephkbajoofeoaa.Am
open Go Go.RowKit Go.Proofs.Ytephkbajoofeoaa
set_option linter.all false
noncomputable section
variable (K:TRes→Prop)
def Qar (t:Bool):TRes:=zre (zcb t)
def JN:TRow:=QD 106 [(.c TI),(.c TI),(.c TI)] fun x=>(none,Qar (Qm x.1 x.2.1 x.2.2.1))
def Qel:List TRow:=[]
def Qfx:TCode :=
 (zsq [(.reg [zmv 6 (zkb false)]),(.reg [zmv 7 0,zbi 8 .geq 7 (zki 1),zmv 9 8,.grp 9 true [zmv 10 0,zbi 11 .leq 10 (zki 4)] 12 11,zmv 13 12,.grp 13 true [zmv 14 1,zbi 15 .geq 14 (zki 0)] 16 15,zmv 17 16,.grp 17 true [zmv 18 1,zmv 19 0,zbi 20 .lss 18 19] 21 20,zmv 22 21,.grp 22 true [zmv 23 2,zbi 24 .geq 23 (zki 1)] 25 24,zmv 26 25,.grp 26 true [zmv 27 2,zbi 28 .leq 27 (zki 5)] 29 28,zmv 6 29]),.ret])
def Qfh:List (ARv × Md):=[(.t 6,.one .d)]
theorem Qhl (stages:Int) (s:Int) (micro:Int) (h :
 K (Qar ((((((decide (stages≥(1:Int)))&&(decide (stages≤(4:Int))))&&(decide (s≥(0:Int))))&&(decide (s<stages)))&&(decide (micro≥(1:Int))))&&(decide (micro≤(5:Int)))))):Hold (tawp Qel (0+0) Qfx (TQ 0 0 Qfh K) (Qw [(.c TI stages),(.c TI s),(.c TI micro)])) :=
 Hold.of (by kernel_rfl) h
theorem Qfr (stages:Int) (s:Int) (micro:Int):TCon Try.prog 106 [(.c TI stages),(.c TI s),(.c TI micro)] (Qar (Qm stages s micro)):=by
 refine QI rfl fun hb=>tcg (n:=30) (sg:=JN.sg) QH TOk.nil (by kernel_rfl) (by kernel_rfl) (Qhl _ stages s micro ?_)
 exact R_eq (by grind [Qm,m_in])
theorem Qcf:QC Try.prog JN:=QM fun x _=>Qfr x.1 x.2.1 x.2.2.1
def YG (t:Int):TRes:=zre (zci t)
def Qbi:TRow:=QD 103 [(.c TI),(.c TI),(.c TI),(.c TI)] fun x=>(none,YG (Qk x.1 x.2.1 x.2.2.1 x.2.2.2.1))
def Qfz:List TRow:=[JE]
def Qgt:TCode :=
 (zsq [(.reg [zmv 8 (zki 0)]),(zsq [(.reg [zmv 9 1,zca 10 102 [9,(zki 1),(zki 4)],zno 11 10,zmv 12 11,.grp 12 false [zmv 13 2,zmv 14 1,zbi 15 .sub 14 (zki 1),zca 16 102 [13,(zki 0),15],zno 17 16] 18 17,zmv 19 18,.grp 19 false [zmv 20 3,zca 21 102 [20,(zki 1),(zki 5)],zno 22 21] 23 22]),(.cond 23 (zsq [(.reg [zmv 8 (zki 0)]),.ret]) .skip)]),(zsq [(.reg [zmv 24 0,zbi 25 .eql 24 (zki 2)]),(.cond 25 (zsq [(.reg [zmv 26 3,zmv 27 1,zbi 28 .sub 27 (zki 1),zmv 29 2,zbi 30 .sub 28 29,zop 31 (.mm false 26 30),zmv 8 31]),.ret]) .skip)]),(.reg [zmv 32 3,zmv 8 32]),.ret])
def Qgl:List (ARv × Md):=[(.t 8,.one .d)]
theorem Qfs (ds:Int) (stages:Int) (s:Int) (micro:Int) (h :
 (zif (((!(m_in stages (1:Int) (4:Int)))||(!(m_in s (0:Int) (w64 (stages-(1:Int))))))||(!(m_in micro (1:Int) (5:Int)))) (K (YG (0:Int))) (zif (ds==(2:Int)) (K (YG (if (w64 ((w64 (stages-(1:Int)))-s))<micro then (w64 ((w64 (stages-(1:Int)))-s)) else micro))) (K (YG micro))))):Hold (tawp Qfz (0+0) Qgt (TQ 0 0 Qgl K) (Qw [(.c TI ds),(.c TI stages),(.c TI s),(.c TI micro)])) :=
 Hold.of (by kernel_rfl) h
theorem Qgn (ds:Int) (stages:Int) (s:Int) (micro:Int):TCon Try.prog 103 [(.c TI ds),(.c TI stages),(.c TI s),(.c TI micro)] (YG (Qk ds stages s micro)):=by
 refine QI rfl fun hb=>tcg (n:=33) (sg:=Qbi.sg) QH (TOk.cons Qbp TOk.nil) (by kernel_rfl) (by kernel_rfl) (Qfs _ ds stages s micro ?_)
 by_cases h0:m_in stages 1 4=true
 ·have h1:=YL.1 h0
  rw [QA (x:=stages-1) (by omega) (by omega)]
  refine ⟨fun h=>R_eq (by grind [Qk,Qm]),fun h=>?_⟩
  have h2:m_in s 0 (stages-1)=true:=by grind
  have h3:=YL.1 h2
  rw [QA (x:=stages-1-s) (by omega) (by omega)]
  grind [Qk,Qm,iMin]
 ·refine ⟨fun h=>R_eq (by grind [Qk,Qm]),fun h=>by grind⟩
theorem QhX:QC Try.prog Qbi:=QM fun x _=>Qgn x.1 x.2.1 x.2.2.1 x.2.2.2.1
def Yv (t:Int):TRes:=zre (zci t)
def QaC:TRow:=QD 54 [(.c TI),(.c TI),(.c TI),(.c TI)] fun x=>(none,Yv (Qk x.1 x.2.1 x.2.2.1 x.2.2.2.1))
def QeC:List TRow:=[JN]
def QgR:TCode :=
 (zsq [(.reg [zmv 8 (zki 0)]),(zsq [(.reg [zmv 9 1,zmv 10 2,zmv 11 3,zca 12 106 [9,10,11],zno 13 12]),(.cond 13 (zsq [(.reg [zmv 8 (zki 0)]),.ret]) .skip)]),(zsq [(.reg [zmv 14 0,zbi 15 .eql 14 (zki 2)]),(.cond 15 (zsq [(.reg [zmv 16 3,zmv 17 1,zbi 18 .sub 17 (zki 1),zmv 19 2,zbi 20 .sub 18 19,zop 21 (.mm false 16 20),zmv 8 21]),.ret]) .skip)]),(.reg [zmv 22 3,zmv 8 22]),.ret])
def Qfy:List (ARv × Md):=[(.t 8,.one .d)]
theorem Qed (ds:Int) (stages:Int) (s:Int) (micro:Int) (h :
 (zif (!(Qm stages s micro)) (K (Yv (0:Int))) (zif (ds==(2:Int)) (K (Yv (if (w64 ((w64 (stages-(1:Int)))-s))<micro then (w64 ((w64 (stages-(1:Int)))-s)) else micro))) (K (Yv micro))))):Hold (tawp QeC (0+0) QgR (TQ 0 0 Qfy K) (Qw [(.c TI ds),(.c TI stages),(.c TI s),(.c TI micro)])) :=
 Hold.of (by kernel_rfl) h
theorem QeG (ds:Int) (stages:Int) (s:Int) (micro:Int):TCon Try.prog 54 [(.c TI ds),(.c TI stages),(.c TI s),(.c TI micro)] (Yv (Qk ds stages s micro)):=by
 refine QI rfl fun hb=>tcg (n:=23) (sg:=QaC.sg) QH (TOk.cons Qcf TOk.nil) (by kernel_rfl) (by kernel_rfl) (Qed _ ds stages s micro ?_)
 refine ⟨fun h=>R_eq (by grind [Qk]),fun h=>?_⟩
 have hp:Qm stages s micro=true:=by simpa using h
 have h2:=hp
 simp only [Qm,Bool.and_eq_true,YL] at h2
 rw [QA (x:=stages-1) (by omega) (by omega),QA (x:=stages-1-s) (by omega) (by omega)]
 grind [Qk,iMin]
theorem QgD:QC Try.prog QaC:=QM fun x _=>QeG x.1 x.2.1 x.2.2.1 x.2.2.2.1
end
end Go.Proofs.Ytephkbajoofeoaa.Am

