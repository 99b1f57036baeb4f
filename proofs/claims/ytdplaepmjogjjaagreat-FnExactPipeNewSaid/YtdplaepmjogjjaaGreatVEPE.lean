/- -/
import Derived.Test.YtdplaepmjogjjaaGreatVEP1
namespace Go.Proofs.YtdplaepmjogjjaaGreat.Am
open Go Go.RowKit Go.Proofs.YtdplaepmjogjjaaGreat
set_option linter.all false
noncomputable section
variable (K:TRes→Prop)
def Qhw (t:Bool):TRes:=zre (zcb t)
def Qgg:TRow:=Qg 209 [(.c TI),(.c TI),(.c TI)] fun x=>(none,Qhw (QV x.1 x.2.1 x.2.2.1))
def QsX:TTab:=⟨[],false⟩
def QIt:TCode :=
 (zsq [(.reg [zmv 6 (zkb false)]),(.reg [zmv 7 0,zbi 8 .geq 7 (zki 1),zmv 9 8,.grp 9 true [zmv 10 0,zbi 11 .leq 10 (zki 4)] 12 11,zmv 13 12,.grp 13 true [zmv 14 1,zbi 15 .geq 14 (zki 0)] 16 15,zmv 17 16,.grp 17 true [zmv 18 1,zmv 19 0,zbi 20 .lss 18 19] 21 20,zmv 22 21,.grp 22 true [zmv 23 2,zbi 24 .geq 23 (zki 1)] 25 24,zmv 26 25,.grp 26 true [zmv 27 2,zbi 28 .leq 27 (zki 5)] 29 28,zmv 6 29]),.ret])
def QJi:List (ARv × Md):=[(.t 6,.one .d)]
theorem QyU (stages:Int) (s:Int) (micro:Int) (h :
 K (Qhw ((((((decide (stages≥(1:Int)))&&(decide (stages≤(4:Int))))&&(decide (s≥(0:Int))))&&(decide (s<stages)))&&(decide (micro≥(1:Int))))&&(decide (micro≤(5:Int)))))):Hold (tawp QsX (0+0) QIt (TQ 0 0 QJi K) (Qe [(.c TI stages),(.c TI s),(.c TI micro)])) :=
 Hold.of (by kernel_rfl) h
theorem QEH (stages:Int) (s:Int) (micro:Int):TCon Tryz.prog 209 [(.c TI stages),(.c TI s),(.c TI micro)] (Qhw (QV stages s micro)):=by
 refine Ql rfl fun hb=>tcg (Γ:=QsX) (n:=30) (sg:=Qgg.sg) Qk TOkL.nil (by kernel_rfl) (by kernel_rfl) (QyU _ stages s micro ?_)
 exact R_eq (by grind [QV,m_in])
theorem QmI:Qi Tryz.prog Qgg:=Qm fun x _=>QEH x.1 x.2.1 x.2.2.1
def Qcq (t:Int):TRes:=zre (zci t)
def QiE:TRow:=Qg 202 [(.c TI),(.c TI),(.c TI),(.c TI)] fun x=>(none,Qcq (QU x.1 x.2.1 x.2.2.1 x.2.2.2.1))
def Qsl:TTab:=⟨[ZQ],false⟩
def QGP:TCode :=
 (zsq [(.reg [zmv 8 (zki 0)]),(zsq [(.reg [zmv 9 1,zca 10 158 [9,(zki 1),(zki 4)],zno 11 10,zmv 12 11,.grp 12 false [zmv 13 2,zmv 14 1,zbi 15 .sub 14 (zki 1),zca 16 158 [13,(zki 0),15],zno 17 16] 18 17,zmv 19 18,.grp 19 false [zmv 20 3,zca 21 158 [20,(zki 1),(zki 5)],zno 22 21] 23 22]),(.cond 23 (zsq [(.reg [zmv 8 (zki 0)]),.ret]) .skip)]),(zsq [(.reg [zmv 24 0,zbi 25 .eql 24 (zki 2)]),(.cond 25 (zsq [(.reg [zmv 26 3,zmv 27 1,zbi 28 .sub 27 (zki 1),zmv 29 2,zbi 30 .sub 28 29,zop 31 (.mm false 26 30),zmv 8 31]),.ret]) .skip)]),(.reg [zmv 32 3,zmv 8 32]),.ret])
def QwZ:List (ARv × Md):=[(.t 8,.one .d)]
theorem QGq (ds:Int) (stages:Int) (s:Int) (micro:Int) (h :
 (zif (((!(m_in stages (1:Int) (4:Int)))||(!(m_in s (0:Int) (w64 (stages-(1:Int))))))||(!(m_in micro (1:Int) (5:Int)))) (K (Qcq (0:Int))) (zif (ds==(2:Int)) (K (Qcq (if (w64 ((w64 (stages-(1:Int)))-s))<micro then (w64 ((w64 (stages-(1:Int)))-s)) else micro))) (K (Qcq micro))))):Hold (tawp Qsl (0+0) QGP (TQ 0 0 QwZ K) (Qe [(.c TI ds),(.c TI stages),(.c TI s),(.c TI micro)])) :=
 Hold.of (by kernel_rfl) h
theorem QBq (ds:Int) (stages:Int) (s:Int) (micro:Int):TCon Tryz.prog 202 [(.c TI ds),(.c TI stages),(.c TI s),(.c TI micro)] (Qcq (QU ds stages s micro)):=by
 refine Ql rfl fun hb=>tcg (Γ:=Qsl) (n:=33) (sg:=QiE.sg) Qk (TOkL.cons Yq TOkL.nil) (by kernel_rfl) (by kernel_rfl) (QGq _ ds stages s micro ?_)
 by_cases h0:m_in stages 1 4=true
 ·have h1:=Q6.1 h0
  rw [Qx (x:=stages-1) (by omega) (by omega)]
  refine ⟨fun h=>R_eq (by grind [QU,QV]),fun h=>?_⟩
  have h2:m_in s 0 (stages-1)=true:=by grind
  have h3:=Q6.1 h2
  rw [Qx (x:=stages-1-s) (by omega) (by omega)]
  grind [QU,QV,iMin]
 ·refine ⟨fun h=>R_eq (by grind [QU,QV]),fun h=>by grind⟩
theorem QGN:Qi Tryz.prog QiE:=Qm fun x _=>QBq x.1 x.2.1 x.2.2.1 x.2.2.2.1
def Qc6 (t:Int):TRes:=zre (zci t)
def Qkv:TRow:=Qg 210 [(.c TI),(.c TI),(.c TI),(.c TI)] fun x=>(none,Qc6 (QU x.1 x.2.1 x.2.2.1 x.2.2.2.1))
def QmX:TTab:=⟨[Qgg],false⟩
def QGQ:TCode :=
 (zsq [(.reg [zmv 8 (zki 0)]),(zsq [(.reg [zmv 9 1,zmv 10 2,zmv 11 3,zca 12 209 [9,10,11],zno 13 12]),(.cond 13 (zsq [(.reg [zmv 8 (zki 0)]),.ret]) .skip)]),(zsq [(.reg [zmv 14 0,zbi 15 .eql 14 (zki 2)]),(.cond 15 (zsq [(.reg [zmv 16 3,zmv 17 1,zbi 18 .sub 17 (zki 1),zmv 19 2,zbi 20 .sub 18 19,zop 21 (.mm false 16 20),zmv 8 21]),.ret]) .skip)]),(.reg [zmv 22 3,zmv 8 22]),.ret])
def QDN:List (ARv × Md):=[(.t 8,.one .d)]
theorem QBt (ds:Int) (stages:Int) (s:Int) (micro:Int) (h :
 (zif (!(QV stages s micro)) (K (Qc6 (0:Int))) (zif (ds==(2:Int)) (K (Qc6 (if (w64 ((w64 (stages-(1:Int)))-s))<micro then (w64 ((w64 (stages-(1:Int)))-s)) else micro))) (K (Qc6 micro))))):Hold (tawp QmX (0+0) QGQ (TQ 0 0 QDN K) (Qe [(.c TI ds),(.c TI stages),(.c TI s),(.c TI micro)])) :=
 Hold.of (by kernel_rfl) h
theorem QEK (ds:Int) (stages:Int) (s:Int) (micro:Int):TCon Tryz.prog 210 [(.c TI ds),(.c TI stages),(.c TI s),(.c TI micro)] (Qc6 (QU ds stages s micro)):=by
 refine Ql rfl fun hb=>tcg (Γ:=QmX) (n:=23) (sg:=Qkv.sg) Qk (TOkL.cons QmI TOkL.nil) (by kernel_rfl) (by kernel_rfl) (QBt _ ds stages s micro ?_)
 refine ⟨fun h=>R_eq (by grind [QU]),fun h=>?_⟩
 have hp:QV stages s micro=true:=by simpa using h
 have h2:=hp
 simp only [QV,Bool.and_eq_true,Q6] at h2
 rw [Qx (x:=stages-1) (by omega) (by omega),Qx (x:=stages-1-s) (by omega) (by omega)]
 grind [QU,iMin]
theorem QB4:Qi Tryz.prog Qkv:=Qm fun x _=>QEK x.1 x.2.1 x.2.2.1 x.2.2.2.1
end
end Go.Proofs.YtdplaepmjogjjaaGreat.Am

