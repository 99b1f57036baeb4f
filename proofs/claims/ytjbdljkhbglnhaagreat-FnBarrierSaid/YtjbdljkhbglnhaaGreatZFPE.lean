/- -/
import Derived.Test.YtjbdljkhbglnhaaGreatZFP1
namespace Go.Proofs.YtjbdljkhbglnhaaGreat.Am
open Go Go.RowKit Go.Proofs.YtjbdljkhbglnhaaGreat
set_option linter.all false
noncomputable section
variable (K:TRes→Prop)
def Qoq (t:Bool):TRes:=zre (zcb t)
def QiE:TRow:=Qh 147 [(.c TI),(.c TI),(.c TI)] fun x=>(none,Qoq (Z1 x.1 x.2.1 x.2.2.1))
def QTn:List TRow:=[]
def Q19:TCode :=
 (zsq [(.reg [zmv 6 (zkb false)]),(.reg [zmv 7 0,zbi 8 .geq 7 (zki 1),zmv 9 8,.grp 9 true [zmv 10 0,zbi 11 .leq 10 (zki 4)] 12 11,zmv 13 12,.grp 13 true [zmv 14 1,zbi 15 .geq 14 (zki 0)] 16 15,zmv 17 16,.grp 17 true [zmv 18 1,zmv 19 0,zbi 20 .lss 18 19] 21 20,zmv 22 21,.grp 22 true [zmv 23 2,zbi 24 .geq 23 (zki 1)] 25 24,zmv 26 25,.grp 26 true [zmv 27 2,zbi 28 .leq 27 (zki 5)] 29 28,zmv 6 29]),.ret])
def Q13:List (ARv × Md):=[(.t 6,.one .d)]
theorem QLR (stages:Int) (s:Int) (micro:Int) (h :
 K (Qoq ((((((decide (stages≥(1:Int)))&&(decide (stages≤(4:Int))))&&(decide (s≥(0:Int))))&&(decide (s<stages)))&&(decide (micro≥(1:Int))))&&(decide (micro≤(5:Int)))))):Hold (tawp QTn (0+0) Q19 (TQ 0 0 Q13 K) (Qf [(.c TI stages),(.c TI s),(.c TI micro)])) :=
 Hold.of (by kernel_rfl) h
theorem QSU (stages:Int) (s:Int) (micro:Int):TCon Tryz.prog 147 [(.c TI stages),(.c TI s),(.c TI micro)] (Qoq (Z1 stages s micro)):=by
 refine Qo rfl fun hb=>tcg (n:=30) (sg:=QiE.sg) Qj TOk.nil (by kernel_rfl) (by kernel_rfl) (QLR _ stages s micro ?_)
 exact R_eq (by grind [Z1,m_in])
theorem QEC:Qg Tryz.prog QiE:=Qk fun x _=>QSU x.1 x.2.1 x.2.2.1
def QfY (t:Int):TRes:=zre (zci t)
def Qmp:TRow:=Qh 158 [(.c TI),(.c TI),(.c TI),(.c TI)] fun x=>(none,QfY (ZY x.1 x.2.1 x.2.2.1 x.2.2.2.1))
def Q2P:List TRow:=[YR]
def QOo:TCode :=
 (zsq [(.reg [zmv 8 (zki 0)]),(zsq [(.reg [zmv 9 1,zca 10 77 [9,(zki 1),(zki 4)],zno 11 10,zmv 12 11,.grp 12 false [zmv 13 2,zmv 14 1,zbi 15 .sub 14 (zki 1),zca 16 77 [13,(zki 0),15],zno 17 16] 18 17,zmv 19 18,.grp 19 false [zmv 20 3,zca 21 77 [20,(zki 1),(zki 5)],zno 22 21] 23 22]),(.cond 23 (zsq [(.reg [zmv 8 (zki 0)]),.ret]) .skip)]),(zsq [(.reg [zmv 24 0,zbi 25 .eql 24 (zki 2)]),(.cond 25 (zsq [(.reg [zmv 26 3,zmv 27 1,zbi 28 .sub 27 (zki 1),zmv 29 2,zbi 30 .sub 28 29,zop 31 (.mm false 26 30),zmv 8 31]),.ret]) .skip)]),(.reg [zmv 32 3,zmv 8 32]),.ret])
def QTG:List (ARv × Md):=[(.t 8,.one .d)]
theorem QJ2 (ds:Int) (stages:Int) (s:Int) (micro:Int) (h :
 (zif (((!(m_in stages (1:Int) (4:Int)))||(!(m_in s (0:Int) (w64 (stages-(1:Int))))))||(!(m_in micro (1:Int) (5:Int)))) (K (QfY (0:Int))) (zif (ds==(2:Int)) (K (QfY (if (w64 ((w64 (stages-(1:Int)))-s))<micro then (w64 ((w64 (stages-(1:Int)))-s)) else micro))) (K (QfY micro))))):Hold (tawp Q2P (0+0) QOo (TQ 0 0 QTG K) (Qf [(.c TI ds),(.c TI stages),(.c TI s),(.c TI micro)])) :=
 Hold.of (by kernel_rfl) h
theorem QY0 (ds:Int) (stages:Int) (s:Int) (micro:Int):TCon Tryz.prog 158 [(.c TI ds),(.c TI stages),(.c TI s),(.c TI micro)] (QfY (ZY ds stages s micro)):=by
 refine Qo rfl fun hb=>tcg (n:=33) (sg:=Qmp.sg) Qj (TOk.cons Y9 TOk.nil) (by kernel_rfl) (by kernel_rfl) (QJ2 _ ds stages s micro ?_)
 by_cases h0:m_in stages 1 4=true
 ·have h1:=QV.1 h0
  rw [Qq (x:=stages-1) (by omega) (by omega)]
  refine ⟨fun h=>R_eq (by grind [ZY,Z1]),fun h=>?_⟩
  have h2:m_in s 0 (stages-1)=true:=by grind
  have h3:=QV.1 h2
  rw [Qq (x:=stages-1-s) (by omega) (by omega)]
  grind [ZY,Z1,iMin]
 ·refine ⟨fun h=>R_eq (by grind [ZY,Z1]),fun h=>by grind⟩
theorem QQP:Qg Tryz.prog Qmp:=Qk fun x _=>QY0 x.1 x.2.1 x.2.2.1 x.2.2.2.1
def Qgk (t:Int):TRes:=zre (zci t)
def Qp0:TRow:=Qh 148 [(.c TI),(.c TI),(.c TI),(.c TI)] fun x=>(none,Qgk (ZY x.1 x.2.1 x.2.2.1 x.2.2.2.1))
def Q1p:List TRow:=[QiE]
def QZD:TCode :=
 (zsq [(.reg [zmv 8 (zki 0)]),(zsq [(.reg [zmv 9 1,zmv 10 2,zmv 11 3,zca 12 147 [9,10,11],zno 13 12]),(.cond 13 (zsq [(.reg [zmv 8 (zki 0)]),.ret]) .skip)]),(zsq [(.reg [zmv 14 0,zbi 15 .eql 14 (zki 2)]),(.cond 15 (zsq [(.reg [zmv 16 3,zmv 17 1,zbi 18 .sub 17 (zki 1),zmv 19 2,zbi 20 .sub 18 19,zop 21 (.mm false 16 20),zmv 8 21]),.ret]) .skip)]),(.reg [zmv 22 3,zmv 8 22]),.ret])
def QOb:List (ARv × Md):=[(.t 8,.one .d)]
theorem Q2H (ds:Int) (stages:Int) (s:Int) (micro:Int) (h :
 (zif (!(Z1 stages s micro)) (K (Qgk (0:Int))) (zif (ds==(2:Int)) (K (Qgk (if (w64 ((w64 (stages-(1:Int)))-s))<micro then (w64 ((w64 (stages-(1:Int)))-s)) else micro))) (K (Qgk micro))))):Hold (tawp Q1p (0+0) QZD (TQ 0 0 QOb K) (Qf [(.c TI ds),(.c TI stages),(.c TI s),(.c TI micro)])) :=
 Hold.of (by kernel_rfl) h
theorem QIs (ds:Int) (stages:Int) (s:Int) (micro:Int):TCon Tryz.prog 148 [(.c TI ds),(.c TI stages),(.c TI s),(.c TI micro)] (Qgk (ZY ds stages s micro)):=by
 refine Qo rfl fun hb=>tcg (n:=23) (sg:=Qp0.sg) Qj (TOk.cons QEC TOk.nil) (by kernel_rfl) (by kernel_rfl) (Q2H _ ds stages s micro ?_)
 refine ⟨fun h=>R_eq (by grind [ZY]),fun h=>?_⟩
 have hp:Z1 stages s micro=true:=by simpa using h
 have h2:=hp
 simp only [Z1,Bool.and_eq_true,QV] at h2
 rw [Qq (x:=stages-1) (by omega) (by omega),Qq (x:=stages-1-s) (by omega) (by omega)]
 grind [ZY,iMin]
theorem QTK:Qg Tryz.prog Qp0:=Qk fun x _=>QIs x.1 x.2.1 x.2.2.1 x.2.2.2.1
end
end Go.Proofs.YtjbdljkhbglnhaaGreat.Am

