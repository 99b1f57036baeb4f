/- -/
import Derived.Test.YtjbdljkhbglnhaaGreatZJP1
namespace Go.Proofs.YtjbdljkhbglnhaaGreat.Am
open Go Go.RowKit Go.Proofs.YtjbdljkhbglnhaaGreat
set_option linter.all false
noncomputable section
variable (K:TRes→Prop)
def Qdc (t:Int):TRes:=zre (zci t)
def QiN:TRow:=Qg 158 [(.c TI),(.c TI),(.c TI),(.c TI)] fun x=>(none,Qdc (Z5 x.1 x.2.1 x.2.2.1 x.2.2.2.1))
def QHD:List TRow:=[Y4]
def QAM:TCode :=
 (zsq [(.reg [zmv 8 (zki 0)]),(zsq [(.reg [zmv 9 1,zca 10 77 [9,(zki 1),(zki 4)],zno 11 10,zmv 12 11,.grp 12 false [zmv 13 2,zmv 14 1,zbi 15 .sub 14 (zki 1),zca 16 77 [13,(zki 0),15],zno 17 16] 18 17,zmv 19 18,.grp 19 false [zmv 20 3,zca 21 77 [20,(zki 1),(zki 5)],zno 22 21] 23 22]),(.cond 23 (zsq [(.reg [zmv 8 (zki 0)]),.ret]) .skip)]),(zsq [(.reg [zmv 24 0,zbi 25 .eql 24 (zki 2)]),(.cond 25 (zsq [(.reg [zmv 26 3,zmv 27 1,zbi 28 .sub 27 (zki 1),zmv 29 2,zbi 30 .sub 28 29,zop 31 (.mm false 26 30),zmv 8 31]),.ret]) .skip)]),(.reg [zmv 32 3,zmv 8 32]),.ret])
def QCP:List (ARv × Md):=[(.t 8,.one .d)]
theorem Qxw (ds:Int) (stages:Int) (s:Int) (micro:Int) (h :
 (zif (((!(m_in stages (1:Int) (4:Int)))||(!(m_in s (0:Int) (w64 (stages-(1:Int))))))||(!(m_in micro (1:Int) (5:Int)))) (K (Qdc (0:Int))) (zif (ds==(2:Int)) (K (Qdc (if (w64 ((w64 (stages-(1:Int)))-s))<micro then (w64 ((w64 (stages-(1:Int)))-s)) else micro))) (K (Qdc micro))))):Hold (tawp QHD (0+0) QAM (TQ 0 0 QCP K) (Qe [(.c TI ds),(.c TI stages),(.c TI s),(.c TI micro)])) :=
 Hold.of (by kernel_rfl) h
theorem QAI (ds:Int) (stages:Int) (s:Int) (micro:Int):TCon Tryz.prog 158 [(.c TI ds),(.c TI stages),(.c TI s),(.c TI micro)] (Qdc (Z5 ds stages s micro)):=by
 refine Ql rfl fun hb=>tcg (n:=33) (sg:=QiN.sg) Qi (TOk.cons JB TOk.nil) (by kernel_rfl) (by kernel_rfl) (Qxw _ ds stages s micro ?_)
 by_cases h0:m_in stages 1 4=true
 ·have h1:=Zh.1 h0
  rw [Qs (x:=stages-1) (by omega) (by omega)]
  refine ⟨fun h=>R_eq (by grind [Z5,Yn]),fun h=>?_⟩
  have h2:m_in s 0 (stages-1)=true:=by grind
  have h3:=Zh.1 h2
  rw [Qs (x:=stages-1-s) (by omega) (by omega)]
  grind [Z5,Yn,iMin]
 ·refine ⟨fun h=>R_eq (by grind [Z5,Yn]),fun h=>by grind⟩
theorem QIa:Qh Tryz.prog QiN:=Qk fun x _=>QAI x.1 x.2.1 x.2.2.1 x.2.2.2.1
end
end Go.Proofs.YtjbdljkhbglnhaaGreat.Am

