/- -/
import Derived.Test.YtjbdljkhbglnhaaGreatZCP1
namespace Go.Proofs.YtjbdljkhbglnhaaGreat.Am
open Go Go.RowKit Go.Proofs.YtjbdljkhbglnhaaGreat
set_option linter.all false
noncomputable section
variable (K:TRes→Prop)
def Qp9 (t:Bool):TRes:=zre (zcb t)
def Qg4:TRow:=Qf 147 [(.c TI),(.c TI),(.c TI)] fun x=>(none,Qp9 (ZU x.1 x.2.1 x.2.2.1))
def QXK:List TRow:=[]
def QP4:TCode :=
 (zsq [(.reg [zmv 6 (zkb false)]),(.reg [zmv 7 0,zbi 8 .geq 7 (zki 1),zmv 9 8,.grp 9 true [zmv 10 0,zbi 11 .leq 10 (zki 4)] 12 11,zmv 13 12,.grp 13 true [zmv 14 1,zbi 15 .geq 14 (zki 0)] 16 15,zmv 17 16,.grp 17 true [zmv 18 1,zmv 19 0,zbi 20 .lss 18 19] 21 20,zmv 22 21,.grp 22 true [zmv 23 2,zbi 24 .geq 23 (zki 1)] 25 24,zmv 26 25,.grp 26 true [zmv 27 2,zbi 28 .leq 27 (zki 5)] 29 28,zmv 6 29]),.ret])
def QW5:List (ARv × Md):=[(.t 6,.one .d)]
theorem QIS (stages:Int) (s:Int) (micro:Int) (h :
 K (Qp9 ((((((decide (stages≥(1:Int)))&&(decide (stages≤(4:Int))))&&(decide (s≥(0:Int))))&&(decide (s<stages)))&&(decide (micro≥(1:Int))))&&(decide (micro≤(5:Int)))))):Hold (tawp QXK (0+0) QP4 (TQ 0 0 QW5 K) (Qd [(.c TI stages),(.c TI s),(.c TI micro)])) :=
 Hold.of (by kernel_rfl) h
theorem QKC (stages:Int) (s:Int) (micro:Int):TCon Tryz.prog 147 [(.c TI stages),(.c TI s),(.c TI micro)] (Qp9 (ZU stages s micro)):=by
 refine Qj rfl fun hb=>tcg (n:=30) (sg:=Qg4.sg) Qg TOk.nil (by kernel_rfl) (by kernel_rfl) (QIS _ stages s micro ?_)
 exact R_eq (by grind [ZU,m_in])
theorem QxJ:Qe Tryz.prog Qg4:=Qh fun x _=>QKC x.1 x.2.1 x.2.2.1
def QeP (t:Int):TRes:=zre (zci t)
def Qpy:TRow:=Qf 158 [(.c TI),(.c TI),(.c TI),(.c TI)] fun x=>(none,QeP (ZP x.1 x.2.1 x.2.2.1 x.2.2.2.1))
def QSu:List TRow:=[Jm]
def QNI:TCode :=
 (zsq [(.reg [zmv 8 (zki 0)]),(zsq [(.reg [zmv 9 1,zca 10 77 [9,(zki 1),(zki 4)],zno 11 10,zmv 12 11,.grp 12 false [zmv 13 2,zmv 14 1,zbi 15 .sub 14 (zki 1),zca 16 77 [13,(zki 0),15],zno 17 16] 18 17,zmv 19 18,.grp 19 false [zmv 20 3,zca 21 77 [20,(zki 1),(zki 5)],zno 22 21] 23 22]),(.cond 23 (zsq [(.reg [zmv 8 (zki 0)]),.ret]) .skip)]),(zsq [(.reg [zmv 24 0,zbi 25 .eql 24 (zki 2)]),(.cond 25 (zsq [(.reg [zmv 26 3,zmv 27 1,zbi 28 .sub 27 (zki 1),zmv 29 2,zbi 30 .sub 28 29,zop 31 (.mm false 26 30),zmv 8 31]),.ret]) .skip)]),(.reg [zmv 32 3,zmv 8 32]),.ret])
def QIE:List (ARv × Md):=[(.t 8,.one .d)]
theorem QEi (ds:Int) (stages:Int) (s:Int) (micro:Int) (h :
 (zif (((!(m_in stages (1:Int) (4:Int)))||(!(m_in s (0:Int) (w64 (stages-(1:Int))))))||(!(m_in micro (1:Int) (5:Int)))) (K (QeP (0:Int))) (zif (ds==(2:Int)) (K (QeP (if (w64 ((w64 (stages-(1:Int)))-s))<micro then (w64 ((w64 (stages-(1:Int)))-s)) else micro))) (K (QeP micro))))):Hold (tawp QSu (0+0) QNI (TQ 0 0 QIE K) (Qd [(.c TI ds),(.c TI stages),(.c TI s),(.c TI micro)])) :=
 Hold.of (by kernel_rfl) h
theorem QSm (ds:Int) (stages:Int) (s:Int) (micro:Int):TCon Tryz.prog 158 [(.c TI ds),(.c TI stages),(.c TI s),(.c TI micro)] (QeP (ZP ds stages s micro)):=by
 refine Qj rfl fun hb=>tcg (n:=33) (sg:=Qpy.sg) Qg (TOk.cons JJ TOk.nil) (by kernel_rfl) (by kernel_rfl) (QEi _ ds stages s micro ?_)
 by_cases h0:m_in stages 1 4=true
 ·have h1:=QR.1 h0
  rw [Qq (x:=stages-1) (by omega) (by omega)]
  refine ⟨fun h=>R_eq (by grind [ZP,ZU]),fun h=>?_⟩
  have h2:m_in s 0 (stages-1)=true:=by grind
  have h3:=QR.1 h2
  rw [Qq (x:=stages-1-s) (by omega) (by omega)]
  grind [ZP,ZU,iMin]
 ·refine ⟨fun h=>R_eq (by grind [ZP,ZU]),fun h=>by grind⟩
theorem QPr:Qe Tryz.prog Qpy:=Qh fun x _=>QSm x.1 x.2.1 x.2.2.1 x.2.2.2.1
def Qfn (t:Int):TRes:=zre (zci t)
def Qnh:TRow:=Qf 148 [(.c TI),(.c TI),(.c TI),(.c TI)] fun x=>(none,Qfn (ZP x.1 x.2.1 x.2.2.1 x.2.2.2.1))
def QGL:List TRow:=[Qg4]
def QNe:TCode :=
 (zsq [(.reg [zmv 8 (zki 0)]),(zsq [(.reg [zmv 9 1,zmv 10 2,zmv 11 3,zca 12 147 [9,10,11],zno 13 12]),(.cond 13 (zsq [(.reg [zmv 8 (zki 0)]),.ret]) .skip)]),(zsq [(.reg [zmv 14 0,zbi 15 .eql 14 (zki 2)]),(.cond 15 (zsq [(.reg [zmv 16 3,zmv 17 1,zbi 18 .sub 17 (zki 1),zmv 19 2,zbi 20 .sub 18 19,zop 21 (.mm false 16 20),zmv 8 21]),.ret]) .skip)]),(.reg [zmv 22 3,zmv 8 22]),.ret])
def QNL:List (ARv × Md):=[(.t 8,.one .d)]
theorem QXW (ds:Int) (stages:Int) (s:Int) (micro:Int) (h :
 (zif (!(ZU stages s micro)) (K (Qfn (0:Int))) (zif (ds==(2:Int)) (K (Qfn (if (w64 ((w64 (stages-(1:Int)))-s))<micro then (w64 ((w64 (stages-(1:Int)))-s)) else micro))) (K (Qfn micro))))):Hold (tawp QGL (0+0) QNe (TQ 0 0 QNL K) (Qd [(.c TI ds),(.c TI stages),(.c TI s),(.c TI micro)])) :=
 Hold.of (by kernel_rfl) h
theorem QO4 (ds:Int) (stages:Int) (s:Int) (micro:Int):TCon Tryz.prog 148 [(.c TI ds),(.c TI stages),(.c TI s),(.c TI micro)] (Qfn (ZP ds stages s micro)):=by
 refine Qj rfl fun hb=>tcg (n:=23) (sg:=Qnh.sg) Qg (TOk.cons QxJ TOk.nil) (by kernel_rfl) (by kernel_rfl) (QXW _ ds stages s micro ?_)
 refine ⟨fun h=>R_eq (by grind [ZP]),fun h=>?_⟩
 have hp:ZU stages s micro=true:=by simpa using h
 have h2:=hp
 simp only [ZU,Bool.and_eq_true,QR] at h2
 rw [Qq (x:=stages-1) (by omega) (by omega),Qq (x:=stages-1-s) (by omega) (by omega)]
 grind [ZP,iMin]
theorem QHi:Qe Tryz.prog Qnh:=Qh fun x _=>QO4 x.1 x.2.1 x.2.2.1 x.2.2.2.1
end
end Go.Proofs.YtjbdljkhbglnhaaGreat.Am

