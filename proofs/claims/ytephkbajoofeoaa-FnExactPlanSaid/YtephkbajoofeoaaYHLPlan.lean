/-
  Written by program: the code of functions, what it asks, and that it comes to what the models say.
-/
import Derived.Test.YtephkbajoofeoaaYHPL
import Derived.Test.YtephkbajoofeoaaYHH4
import Derived.Test.YtephkbajoofeoaaYHK1x
namespace Go.Proofs.Ytephkbajoofeoaa.Am
open Go Go.RowKit Go.Proofs.Ytephkbajoofeoaa
set_option linter.all false
noncomputable section
variable (K:TRes→Prop)
def Zi (t:Bool):TRes:=zre (zcb t)
def Qf4:TRow:=QD 3 [(.c TI),(.c TI),(.c TI),(.c TI),(.c .bool)] fun x=>(none,Zi (QaQ x.1 x.2.1 x.2.2.1 x.2.2.2.1 x.2.2.2.2.1))
def QfL:List TRow:=[Qad,Qau,QaF,Qa4,QaA]
def QfX:TCode :=
 (zsq [(.reg [zmv 10 (zkb false)]),(.reg [zmv 16 0,zmv 17 1,zmv 18 2,zmv 19 3,zmv 20 4,zca 21 17 [16,17,18,19,20],zmv 11 21]),(.reg [zmv 22 0,zmv 23 1,zmv 24 2,zmv 25 3,zmv 26 4,zca 27 18 [22,23,24,25,26],zmv 12 27]),(zsq [(.reg [zmv 28 12,zmv 29 11,zca 30 19 [28,29],zno 31 30]),(.cond 31 (zsq [(.reg [zmv 10 (zkb false)]),.ret]) .skip)]),(.reg [zmv 13 (zki 1)]),(.reg [zmv 32 12,zmv 33 13,zca 34 20 [32,33],zmv 13 34]),(.reg [zmv 14 (zki 1)]),(.reg [zmv 35 12,zmv 36 14,zca 37 21 [35,36],zmv 14 37]),(zsq [(.reg [zmv 38 14,zbi 39 .lss 38 (zki 0)]),(.cond 39 (zsq [(.reg [zmv 10 (zkb false)]),.ret]) .skip)]),(zsq [(.reg [zmv 40 14,zmv 41 13,zbi 42 .neq 40 41]),(.cond 42 (zsq [(.reg [zmv 10 (zkb false)]),.ret]) .skip)]),(.reg [zmv 43 0,zmv 44 1,zmv 45 2,zmv 46 3,zmv 47 4,zca 48 18 [43,44,45,46,47],zmv 15 48]),(zsq [(.reg [zmv 49 15,zmv 50 11,zca 51 19 [49,50],zno 52 51]),(.cond 52 (zsq [(.reg [zmv 10 (zkb false)]),.ret]) .skip)]),(.reg [zmv 14 (zki 1)]),(.reg [zmv 53 12,zmv 54 14,zca 55 21 [53,54],zmv 14 55]),(zsq [(.reg [zmv 56 14,zbi 57 .lss 56 (zki 0)]),(.cond 57 (zsq [(.reg [zmv 10 (zkb false)]),.ret]) .skip)]),(zsq [(.reg [zmv 58 14,zmv 59 13,zbi 60 .neq 58 59]),(.cond 60 (zsq [(.reg [zmv 10 (zkb false)]),.ret]) .skip)]),(.reg [zmv 10 (zkb true)]),.ret])
def Qg0:List (ARv × Md):=[(.t 10,.one .d)]
theorem QhF (aDs:Int) (aStages:Int) (aS:Int) (aMicro:Int) (aRedo:Bool) (h :
 let z1:=Qp aDs aStages aS aMicro aRedo
 let z3:=List.take (z1.length) (List.drop 0 z1)
 let z5:=Q8 z1 (1:Int)
 let z2:=List.take (z1.length) (List.drop 0 (z5.2))
 let z4:=Zq z2 (1:Int)
 (zif (!(m_eq (α:=List TIns) z3 z3)) (K (Zi false)) (((z1.length=z1.length)∧(Zn z1 (1:Int)))∧((Zn z2 (1:Int))∧(zif (decide (z4<(0:Int))) (K (Zi false)) (zif (z4 != (z5.1)) (K (Zi false)) (zif (!(m_eq (α:=List TIns) z3 z3)) (K (Zi false)) ((Zn z2 (1:Int))∧(zif (decide (z4<(0:Int))) (K (Zi false)) (zif (z4 != (z5.1)) (K (Zi false)) (K (Zi true)))))))))))):Hold (tawp QfL (0+0) QfX (TQ 0 0 Qg0 K) (Qw [(.c TI aDs),(.c TI aStages),(.c TI aS),(.c TI aMicro),(.c .bool aRedo)])) :=
 Hold.of (by kernel_rfl) h
theorem l_FnExactPlan_h (aDs:Int) (aStages:Int) (aS:Int) (aMicro:Int) (aRedo:Bool):TCon Try.prog 3 [(.c TI aDs),(.c TI aStages),(.c TI aS),(.c TI aMicro),(.c .bool aRedo)] (Zi (QaQ aDs aStages aS aMicro aRedo)):=by
 refine QI rfl fun hb=>tcg (n:=61) (sg:=Qf4.sg) QH (TOk.cons QeH (TOk.cons Qhb (TOk.cons Qhu (TOk.cons Qhk (TOk.cons Qha TOk.nil))))) (by kernel_rfl) (by kernel_rfl) (QhF _ aDs aStages aS aMicro aRedo ?_)
 conv=>zeta
 have hl:=QhD aDs aStages aS aMicro aRedo
 generalize Qp aDs aStages aS aMicro aRedo=l at hl ⊢
 have e1:List.take l.length (List.drop 0 l)=l:=by simp
 have e2:List.take l.length (List.drop 0 (Q8 l 1).2)=QV l 1:=by simp [Q8,List.take_of_length_le,Qaw]
 have e3:Zq (QV l 1) 1=1+2*l.length:=Qbv l 1
 have e4:(Q8 l 1).1=1+2*l.length:=rfl
 have e5:Zn l 1:=⟨by omega,by omega,by omega⟩
 have e6:Zn (QV l 1) 1:=⟨by omega,by omega,by rw [Qaw];omega⟩
 have e7:¬ (1+2*(l.length:Int)<0):=by omega
 rw [e1,e2,e3,e4]
 simp [zif,m_eq,e5,e6,e7,QaQ]
end
end Go.Proofs.Ytephkbajoofeoaa.Am

