/-
  Written by program: the code of functions, what it asks, and that it comes to what the models say.
-/
import Derived.Test.YtephkbajoofeoaaYGH7
import Derived.Test.YtephkbajoofeoaaYGPM
namespace Go.Proofs.Ytephkbajoofeoaa.Am
open Go Go.RowKit Go.Proofs.Ytephkbajoofeoaa
set_option linter.all false
noncomputable section
variable (K:TRes→Prop)
def Yw (t:Bool):TRes:=zre (zcb t)
def Qlv:TRow:=Qj 13 [(.a Qq),(.c TI)] fun x=>(none,Yw (QbX x.1 x.2.1))
def Qho:List TRow:=[QcU,Qc6,Qce,Qb9,Qc2]
def Qj5:TCode :=
 (zsq [(.reg [zop 2 (.box 111 0 6),zmv 4 (zkb false)]),(.reg [zmv 5 (zki 1048576)]),(.reg [zLd 9 2 6,zmv 10 5,zca 11 77 [9,10],zmv 5 11]),(zsq [(.reg [zmv 12 5,zbi 13 .lss 12 (zki 0)]),(.cond 13 (zsq [(.reg [zmv 4 (zkb true)]),.ret]) .skip)]),(.reg [zLd 14 2 6,zca 15 79 [14],zmv 16 1,zca 17 78 [15,16],zmv 6 17]),(.reg [zLd 18 2 6,zca 19 79 [18],zop 7 (.new 103 (z0s Qq)),zst 7 19 6]),(.reg [zLd 20 7 6,zmv 21 1,zca 22 80 [20,21],zmv 8 22]),(zsq [(.reg [zmv 23 8,zmv 24 6,zbi 25 .neq 23 24]),(.cond 25 (zsq [(.reg [zmv 4 (zkb false)]),.ret]) .skip)]),(zsq [(.draw [zLd 26 7 6,zLd 27 2 6,zca 28 79 [27],zca 29 81 [26,28],zno 30 29] [(0,2)]),(.cond 30 (zsq [(.reg [zmv 4 (zkb false)]),.ret]) .skip)]),(.reg [zmv 4 (zkb true)]),.ret])
def QkJ:List (ARv × Md):=[(.t 4,.one .d)]
theorem Ql1 (aC:Qg) (aMicro:Int) (h :
 ((p_sz (α:=Qg) aC (1048576:Int))∧(zif (decide ((m_sz (α:=Qg) aC (1048576:Int))<(0:Int))) (K (Yw true)) ((p_to (α:=Qg) aC)∧((p_to (α:=Qg) aC)∧(zif ((Zj (id (α:=Qg) aC) aMicro) != (Zj (id (α:=Qg) aC) aMicro)) (K (Yw false)) ((p_to (α:=Qg) aC)∧(zif (!(m_eq (α:=Qg) (id (α:=Qg) aC) (id (α:=Qg) aC))) (K (Yw false)) (K (Yw true)))))))))):Hold (tawp Qho (0+0) Qj5 (TQ 0 0 QkJ K) (Qh [(.a (Tup.cells Qq aC)),(.c TI aMicro)])) :=
 Hold.of (by kernel_rfl) h
theorem l_FnExactTotal_h (aC:Qg) (aMicro:Int):TCon Try.prog 13 [(.a (Tup.cells Qq aC)),(.c TI aMicro)] (Yw (QbX aC aMicro)):=by
 refine Ql rfl fun hb=>tcg (n:=31) (sg:=Qlv.sg) Qm (TOk.cons Qk6 (TOk.cons Qks (TOk.cons Qhy (TOk.cons Qik (TOk.cons Qkf TOk.nil))))) (by kernel_rfl) (by kernel_rfl) (Ql1 _ aC aMicro ?_)
 refine ⟨pl_0,fun _=>rfl,fun g_aC=>?_⟩
 have q_aC:=QnZ (of_decide_eq_false g_aC) (Int.le_refl _)
 simp [zif,m_eq,Qi6,QbX,Qhg,QlQ,Qiz,q_aC]
end
end Go.Proofs.Ytephkbajoofeoaa.Am

