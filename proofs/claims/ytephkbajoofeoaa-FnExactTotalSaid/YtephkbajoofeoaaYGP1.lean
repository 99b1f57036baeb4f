/- -/
import Derived.Test.YtephkbajoofeoaaYGG8
namespace Go.Proofs.Ytephkbajoofeoaa.Am
open Go Go.RowKit Go.Proofs.Ytephkbajoofeoaa
set_option linter.all false
noncomputable section
variable (K:TRes→Prop)
def QbB (t:Bool):TRes:=zre (zcb t)
def ZH:TRow:=Qj 102 [(.c TI),(.c TI),(.c TI)] fun x=>(none,QbB (m_in x.1 x.2.1 x.2.2.1))
def Qm4:List TRow:=[]
def Qk7:TCode :=
 (zsq [(.reg [zmv 6 (zkb false)]),(.reg [zmv 7 0,zmv 8 1,zbi 9 .geq 7 8,zmv 10 9,.grp 10 true [zmv 11 0,zmv 12 2,zbi 13 .leq 11 12] 14 13,zmv 6 14]),.ret])
def QjM:List (ARv × Md):=[(.t 6,.one .d)]
theorem Qj4 (x:Int) (low:Int) (high:Int) (h :
 K (QbB ((decide (x≥low))&&(decide (x≤high))))):Hold (tawp Qm4 (0+0) Qk7 (TQ 0 0 QjM K) (Qh [(.c TI x),(.c TI low),(.c TI high)])) :=
 Hold.of (by kernel_rfl) h
theorem QiB (x:Int) (low:Int) (high:Int):TCon Try.prog 102 [(.c TI x),(.c TI low),(.c TI high)] (QbB (m_in x low high)):=by
 refine Ql rfl fun hb=>tcg (n:=15) (sg:=ZH.sg) Qm TOk.nil (by kernel_rfl) (by kernel_rfl) (Qj4 _ x low high ?_)
 exact R_eq rfl
theorem Z7:Qi Try.prog ZH:=Qn fun x _=>QiB x.1 x.2.1 x.2.2.1
def Qb7 (t:Bool):TRes:=zre (zcb t)
def QcN:TRow:=Qj 122 [(.c TI)] fun x=>(none,Qb7 (Zk x.1))
def QlI:List TRow:=[ZH]
def Qn9:TCode :=
 (zsq [(.reg [zmv 2 (zkb false)]),(.reg [zmv 3 0,zca 4 102 [3,(zki (-2147483647)),(zki 2147483647)],zmv 2 4]),.ret])
def QjQ:List (ARv × Md):=[(.t 2,.one .d)]
theorem Qob (x:Int) (h :
 K (Qb7 (m_in x (-2147483647:Int) (2147483647:Int)))):Hold (tawp QlI (0+0) Qn9 (TQ 0 0 QjQ K) (Qh [(.c TI x)])) :=
 Hold.of (by kernel_rfl) h
theorem QjA (x:Int):TCon Try.prog 122 [(.c TI x)] (Qb7 (Zk x)):=by
 refine Ql rfl fun hb=>tcg (n:=5) (sg:=QcN.sg) Qm (TOk.cons Z7 TOk.nil) (by kernel_rfl) (by kernel_rfl) (Qob _ x ?_)
 exact R_eq rfl
theorem Qmf:Qi Try.prog QcN:=Qn fun x _=>QjA x.1
def QaT (t:Bool):TRes:=zre (zcb t)
def Qb0:TRow:=Qj 206 [(.c TI)] fun x=>(none,QaT (Zk x.1))
def QkH:List TRow:=[]
def QhG:TCode :=
 (zsq [(.reg [zmv 2 (zkb false)]),(.reg [zmv 3 0,zbi 4 .geq 3 (zki (-2147483647)),zmv 5 4,.grp 5 true [zmv 6 0,zbi 7 .leq 6 (zki 2147483647)] 8 7,zmv 2 8]),.ret])
def QnE:List (ARv × Md):=[(.t 2,.one .d)]
theorem QnL (x:Int) (h :
 K (QaT ((decide (x≥(-2147483647:Int)))&&(decide (x≤(2147483647:Int)))))):Hold (tawp QkH (0+0) QhG (TQ 0 0 QnE K) (Qh [(.c TI x)])) :=
 Hold.of (by kernel_rfl) h
theorem QjS (x:Int):TCon Try.prog 206 [(.c TI x)] (QaT (Zk x)):=by
 refine Ql rfl fun hb=>tcg (n:=9) (sg:=Qb0.sg) Qm TOk.nil (by kernel_rfl) (by kernel_rfl) (QnL _ x ?_)
 exact R_eq rfl
theorem QlS:Qi Try.prog Qb0:=Qn fun x _=>QjS x.1
def YF (t:Bool):TRes:=zre (zcb t)
def QbC:TRow:=Qj 190 [(.c (.sl [TI]))] fun x=>(none,YF (Yh x.1))
def QcK:List TRow:=[Qb0]
def Qfc:TCode :=
 (zsq [(.reg [zbi 8 .lss 7 6]),(.cond 8 .skip (.exit 0)),(.block 1 (zsq [(.reg [zia 9 5 7 [TI],zld 10 9 1,zmv 4 10]),(.reg [zmv 11 4,zca 12 206 [11],zno 13 12]),(.cond 13 (zsq [(.reg [zmv 2 (zkb false)]),.ret]) .skip)])),(.reg [zbi 14 .add 7 (zki 1),zmv 7 14])])
def Qda:List (Nat × Md):=zdl [5,6,7]
def Qgx:TCode :=
 (zsq [(.reg [zmv 2 (zkb true)]),.ret])
def QmH:TCode :=
 (zsq [(.reg [zmv 2 (zkb false)]),(zsq [(.reg [zmv 5 0,zle 6 5,zmv 7 (zki 0)]),(.block 0 (.loop Qda Qfc))]),Qgx])
def Qgt:List (ARv × Md):=[(.t 2,.one .d)]
def QeN:Qd:=TQ 0 0 Qgt K
def QiJ:Qd:=Qseq (tawp QcK 0 Qgx (QeN K)) (QeN K)
def QmD:Qd:=Qblk 0 (QiJ K)
def QcF (v:List Int) (x:Int):Prop:=Loop QcK 0 Qda Qfc (QmD K) ⟨[(5,(zcs [TI] v)),(6,(zci (v.length:Int))),(7,(zci x))],[],0⟩
theorem Qjf (v:List Int) (x:Int) (h :
 (zif (decide (x<(v.length:Int))) (((0:Int)≤x∧Int.toNat x<v.length)∧(zif (!(Zk (gtd (0:Int) v (Int.toNat x)))) (K (YF false)) (QcF K v (w64 (x+(1:Int)))))) (K (YF true)))):QcF K v x :=
 Loop.of (by kernel_rfl) h
theorem Qiu (v:List Int) (h :
 (QcF K v 0)):Hold (tawp QcK (0+0) QmH (TQ 0 0 Qgt K) (Qh [(.c (.sl [TI]) v)])) :=
 Hold.of (by kernel_rfl) h
theorem Qmu (v:List Int):TCon Try.prog 190 [(.c (.sl [TI]) v)] (YF (Yh v)):=by
 refine Ql rfl fun hb=>tcg (n:=15) (sg:=QbC.sg) Qm (TOk.cons QlS TOk.nil) (by kernel_rfl) (by kernel_rfl) (Qiu _ v ?_)
 have hl_v:v.length≤9223372036854775807:=hb.1.1
 exact Qfy (Q:=fun x=>YF x=YF (Yh v)) (p:=Zk) (c:=fun x=>!(Zk x)) 0 hl_v (fun _=>rfl) (fun i h=>Qjf _ v i h) (R_eq (by simp [Yh]))
theorem Qit:Qi Try.prog QbC:=Qn fun x _=>Qmu x.1
end
end Go.Proofs.Ytephkbajoofeoaa.Am

