/-
  Written by program: the code of functions, what it asks, and that it comes to what the models say.
-/
import Derived.Test.YtephkbajoofeoaaYFH4
import Derived.Test.YtephkbajoofeoaaYFPM
namespace Go.Proofs.Ytephkbajoofeoaa.Am
open Go Go.RowKit Go.Proofs.Ytephkbajoofeoaa
set_option linter.all false
noncomputable section
variable (K:TRes→Prop)
def Z7 (t:Bool):TRes:=zre (zcb t)
def Qhg:TRow:=Qz 4 [(.c (.sl Qb)),(.c TI),(.c TI),(.c TI),(.c .bool)] fun x=>(none,Z7 (QaK x.1 x.2.1 x.2.2.1 x.2.2.2.1 x.2.2.2.2.1))
def Qf1:List TRow:=[Qbe,QaO,Qbm,J6,QaX]
def Qh7:TCode :=
 (zsq [(.reg [zmv 10 (zkb false)]),(.reg [zmv 11 (zki 1048576)]),(.reg [zmv 15 0,zmv 16 11,zca 17 22 [15,16],zmv 11 17]),(zsq [(.reg [zmv 18 11,zbi 19 .lss 18 (zki 0)]),(.cond 19 (zsq [(.reg [zmv 10 (zkb true)]),.ret]) .skip)]),(.reg [zmv 20 0,zca 21 24 [20],zmv 22 1,zmv 23 2,zmv 24 3,zmv 25 4,zca 26 23 [21,22,23,24,25],zmv 12 26]),(.reg [zmv 27 0,zca 28 24 [27],zmv 13 28]),(.reg [zmv 29 13,zmv 30 1,zmv 31 2,zmv 32 3,zmv 33 4,zca 34 25 [29,30,31,32,33],zmv 14 34]),(zsq [(.reg [zmv 35 14,zmv 36 12,zop 37 (.eqb true 35 36)]),(.cond 37 (zsq [(.reg [zmv 10 (zkb false)]),.ret]) .skip)]),(zsq [(.reg [zmv 38 13,zmv 39 0,zca 40 24 [39],zca 41 19 [38,40],zno 42 41]),(.cond 42 (zsq [(.reg [zmv 10 (zkb false)]),.ret]) .skip)]),(.reg [zmv 10 (zkb true)]),.ret])
def Qgb:List (ARv × Md):=[(.t 10,.one .d)]
theorem QhB (aL:List TIns) (aStages:Int) (aS:Int) (aMicro:Int) (aRedo:Bool) (h :
 ((p_sz (α:=List TIns) aL (1048576:Int))∧(zif (decide ((m_sz (α:=List TIns) aL (1048576:Int))<(0:Int))) (K (Z7 true)) ((p_to (α:=List TIns) aL)∧((p_to (α:=List TIns) aL)∧(zif (!((Qw (id (α:=List TIns) aL) aStages aS aMicro aRedo)==(Qw (id (α:=List TIns) aL) aStages aS aMicro aRedo))) (K (Z7 false)) ((p_to (α:=List TIns) aL)∧(zif (!(m_eq (α:=List TIns) (id (α:=List TIns) aL) (id (α:=List TIns) aL))) (K (Z7 false)) (K (Z7 true)))))))))):Hold (tawp Qf1 (0+0) Qh7 (TQ 0 0 Qgb K) (Qt [(.c (.sl Qb) aL),(.c TI aStages),(.c TI aS),(.c TI aMicro),(.c .bool aRedo)])) :=
 Hold.of (by kernel_rfl) h
theorem l_FnExactPlanOk_h (aL:List TIns) (aStages:Int) (aS:Int) (aMicro:Int) (aRedo:Bool):TCon Try.prog 4 [(.c (.sl Qb) aL),(.c TI aStages),(.c TI aS),(.c TI aMicro),(.c .bool aRedo)] (Z7 (QaK aL aStages aS aMicro aRedo)):=by
 refine QE rfl fun hb=>tcg (n:=43) (sg:=Qhg.sg) QF (TOk.cons QhD (TOk.cons QeB (TOk.cons Qg3 (TOk.cons Qfr (TOk.cons Qhi TOk.nil))))) (by kernel_rfl) (by kernel_rfl) (QhB _ aL aStages aS aMicro aRedo ?_)
 refine ⟨pl_0,fun _=>rfl,fun g_aL=>?_⟩
 have q_aL:=QgX (of_decide_eq_false g_aL) (Int.le_refl _)
 simp [zif,m_eq,QeQ,Qhd,Qhu,QfL,QaK,q_aL]
end
end Go.Proofs.Ytephkbajoofeoaa.Am

