/- -/
import Derived.Test.YtephkbajoofeoaaYGP1
namespace Go.Proofs.Ytephkbajoofeoaa.Am
open Go Go.RowKit Go.Proofs.Ytephkbajoofeoaa
set_option linter.all false
noncomputable section
variable (K:TRes→Prop)
def Qb3 (t:Bool):TRes:=zre (zcb t)
def JO:TRow:=Qj 106 [(.c TI),(.c TI),(.c TI)] fun x=>(none,Qb3 (Qv x.1 x.2.1 x.2.2.1))
def Ql5:List TRow:=[]
def QnG:TCode :=
 (zsq [(.reg [zmv 6 (zkb false)]),(.reg [zmv 7 0,zbi 8 .geq 7 (zki 1),zmv 9 8,.grp 9 true [zmv 10 0,zbi 11 .leq 10 (zki 4)] 12 11,zmv 13 12,.grp 13 true [zmv 14 1,zbi 15 .geq 14 (zki 0)] 16 15,zmv 17 16,.grp 17 true [zmv 18 1,zmv 19 0,zbi 20 .lss 18 19] 21 20,zmv 22 21,.grp 22 true [zmv 23 2,zbi 24 .geq 23 (zki 1)] 25 24,zmv 26 25,.grp 26 true [zmv 27 2,zbi 28 .leq 27 (zki 5)] 29 28,zmv 6 29]),.ret])
def Qjh:List (ARv × Md):=[(.t 6,.one .d)]
theorem Qly (stages:Int) (s:Int) (micro:Int) (h :
 K (Qb3 ((((((decide (stages≥(1:Int)))&&(decide (stages≤(4:Int))))&&(decide (s≥(0:Int))))&&(decide (s<stages)))&&(decide (micro≥(1:Int))))&&(decide (micro≤(5:Int)))))):Hold (tawp Ql5 (0+0) QnG (TQ 0 0 Qjh K) (Qh [(.c TI stages),(.c TI s),(.c TI micro)])) :=
 Hold.of (by kernel_rfl) h
theorem QiU (stages:Int) (s:Int) (micro:Int):TCon Try.prog 106 [(.c TI stages),(.c TI s),(.c TI micro)] (Qb3 (Qv stages s micro)):=by
 refine Ql rfl fun hb=>tcg (n:=30) (sg:=JO.sg) Qm TOk.nil (by kernel_rfl) (by kernel_rfl) (Qly _ stages s micro ?_)
 exact R_eq (by grind [Qv,m_in])
theorem QfQ:Qi Try.prog JO:=Qn fun x _=>QiU x.1 x.2.1 x.2.2.1
def Jm (t:Int):TRes:=zre (zci t)
def Qcd:TRow:=Qj 103 [(.c TI),(.c TI),(.c TI),(.c TI)] fun x=>(none,Jm (Qt x.1 x.2.1 x.2.2.1 x.2.2.2.1))
def QmR:List TRow:=[ZH]
def QiK:TCode :=
 (zsq [(.reg [zmv 8 (zki 0)]),(zsq [(.reg [zmv 9 1,zca 10 102 [9,(zki 1),(zki 4)],zno 11 10,zmv 12 11,.grp 12 false [zmv 13 2,zmv 14 1,zbi 15 .sub 14 (zki 1),zca 16 102 [13,(zki 0),15],zno 17 16] 18 17,zmv 19 18,.grp 19 false [zmv 20 3,zca 21 102 [20,(zki 1),(zki 5)],zno 22 21] 23 22]),(.cond 23 (zsq [(.reg [zmv 8 (zki 0)]),.ret]) .skip)]),(zsq [(.reg [zmv 24 0,zbi 25 .eql 24 (zki 2)]),(.cond 25 (zsq [(.reg [zmv 26 3,zmv 27 1,zbi 28 .sub 27 (zki 1),zmv 29 2,zbi 30 .sub 28 29,zop 31 (.mm false 26 30),zmv 8 31]),.ret]) .skip)]),(.reg [zmv 32 3,zmv 8 32]),.ret])
def QlP:List (ARv × Md):=[(.t 8,.one .d)]
theorem QhT (ds:Int) (stages:Int) (s:Int) (micro:Int) (h :
 (zif (((!(m_in stages (1:Int) (4:Int)))||(!(m_in s (0:Int) (w64 (stages-(1:Int))))))||(!(m_in micro (1:Int) (5:Int)))) (K (Jm (0:Int))) (zif (ds==(2:Int)) (K (Jm (if (w64 ((w64 (stages-(1:Int)))-s))<micro then (w64 ((w64 (stages-(1:Int)))-s)) else micro))) (K (Jm micro))))):Hold (tawp QmR (0+0) QiK (TQ 0 0 QlP K) (Qh [(.c TI ds),(.c TI stages),(.c TI s),(.c TI micro)])) :=
 Hold.of (by kernel_rfl) h
theorem Qj1 (ds:Int) (stages:Int) (s:Int) (micro:Int):TCon Try.prog 103 [(.c TI ds),(.c TI stages),(.c TI s),(.c TI micro)] (Jm (Qt ds stages s micro)):=by
 refine Ql rfl fun hb=>tcg (n:=33) (sg:=Qcd.sg) Qm (TOk.cons Z7 TOk.nil) (by kernel_rfl) (by kernel_rfl) (QhT _ ds stages s micro ?_)
 by_cases h0:m_in stages 1 4=true
 ·have h1:=QQ.1 h0
  rw [Qz (x:=stages-1) (by omega) (by omega)]
  refine ⟨fun h=>R_eq (by grind [Qt,Qv]),fun h=>?_⟩
  have h2:m_in s 0 (stages-1)=true:=by grind
  have h3:=QQ.1 h2
  rw [Qz (x:=stages-1-s) (by omega) (by omega)]
  grind [Qt,Qv,iMin]
 ·refine ⟨fun h=>R_eq (by grind [Qt,Qv]),fun h=>by grind⟩
theorem Qii:Qi Try.prog Qcd:=Qn fun x _=>Qj1 x.1 x.2.1 x.2.2.1 x.2.2.2.1
def Ji (t:Int):TRes:=zre (zci t)
def QbN:TRow:=Qj 54 [(.c TI),(.c TI),(.c TI),(.c TI)] fun x=>(none,Ji (Qt x.1 x.2.1 x.2.2.1 x.2.2.2.1))
def Qi8:List TRow:=[JO]
def Qkj:TCode :=
 (zsq [(.reg [zmv 8 (zki 0)]),(zsq [(.reg [zmv 9 1,zmv 10 2,zmv 11 3,zca 12 106 [9,10,11],zno 13 12]),(.cond 13 (zsq [(.reg [zmv 8 (zki 0)]),.ret]) .skip)]),(zsq [(.reg [zmv 14 0,zbi 15 .eql 14 (zki 2)]),(.cond 15 (zsq [(.reg [zmv 16 3,zmv 17 1,zbi 18 .sub 17 (zki 1),zmv 19 2,zbi 20 .sub 18 19,zop 21 (.mm false 16 20),zmv 8 21]),.ret]) .skip)]),(.reg [zmv 22 3,zmv 8 22]),.ret])
def QmZ:List (ARv × Md):=[(.t 8,.one .d)]
theorem Qne (ds:Int) (stages:Int) (s:Int) (micro:Int) (h :
 (zif (!(Qv stages s micro)) (K (Ji (0:Int))) (zif (ds==(2:Int)) (K (Ji (if (w64 ((w64 (stages-(1:Int)))-s))<micro then (w64 ((w64 (stages-(1:Int)))-s)) else micro))) (K (Ji micro))))):Hold (tawp Qi8 (0+0) Qkj (TQ 0 0 QmZ K) (Qh [(.c TI ds),(.c TI stages),(.c TI s),(.c TI micro)])) :=
 Hold.of (by kernel_rfl) h
theorem QiN (ds:Int) (stages:Int) (s:Int) (micro:Int):TCon Try.prog 54 [(.c TI ds),(.c TI stages),(.c TI s),(.c TI micro)] (Ji (Qt ds stages s micro)):=by
 refine Ql rfl fun hb=>tcg (n:=23) (sg:=QbN.sg) Qm (TOk.cons QfQ TOk.nil) (by kernel_rfl) (by kernel_rfl) (Qne _ ds stages s micro ?_)
 refine ⟨fun h=>R_eq (by grind [Qt]),fun h=>?_⟩
 have hp:Qv stages s micro=true:=by simpa using h
 have h2:=hp
 simp only [Qv,Bool.and_eq_true,QQ] at h2
 rw [Qz (x:=stages-1) (by omega) (by omega),Qz (x:=stages-1-s) (by omega) (by omega)]
 grind [Qt,iMin]
theorem Qnk:Qi Try.prog QbN:=Qn fun x _=>QiN x.1 x.2.1 x.2.2.1 x.2.2.2.1
end
end Go.Proofs.Ytephkbajoofeoaa.Am

