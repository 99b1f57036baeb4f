/- -/
import Derived.Test.YtephkbajoofeoaaYDG8
namespace Go.Proofs.Ytephkbajoofeoaa.Am
open Go Go.RowKit Go.Proofs.Ytephkbajoofeoaa
set_option linter.all false
noncomputable section
variable (K:TRes→Prop)
def QdW (t:Bool):TRes:=zre (zcb t)
def Z7:TRow:=Qp 102 [(.c TI),(.c TI),(.c TI)] fun x=>(none,QdW (m_in x.1 x.2.1 x.2.2.1))
def QpT:List TRow:=[]
def QoA:TCode :=
 (zsq [(.reg [zmv 6 (zkb false)]),(.reg [zmv 7 0,zmv 8 1,zbi 9 .geq 7 8,zmv 10 9,.grp 10 true [zmv 11 0,zmv 12 2,zbi 13 .leq 11 12] 14 13,zmv 6 14]),.ret])
def Qpm:List (ARv × Md):=[(.t 6,.one .d)]
theorem Qlh (x:Int) (low:Int) (high:Int) (h :
 K (QdW ((decide (x≥low))&&(decide (x≤high))))):Hold (tawp QpT (0+0) QoA (TQ 0 0 Qpm K) (Qm [(.c TI x),(.c TI low),(.c TI high)])) :=
 Hold.of (by kernel_rfl) h
theorem QjY (x:Int) (low:Int) (high:Int):TCon Try.prog 102 [(.c TI x),(.c TI low),(.c TI high)] (QdW (m_in x low high)):=by
 refine QP rfl fun hb=>tcg (n:=15) (sg:=Z7.sg) Qt TOk.nil (by kernel_rfl) (by kernel_rfl) (Qlh _ x low high ?_)
 exact R_eq rfl
theorem YY:Qq Try.prog Z7:=Qv fun x _=>QjY x.1 x.2.1 x.2.2.1
def Qdq (t:Bool):TRes:=zre (zcb t)
def Qde:TRow:=Qp 122 [(.c TI)] fun x=>(none,Qdq (Q6 x.1))
def QmL:List TRow:=[Z7]
def Qpn:TCode :=
 (zsq [(.reg [zmv 2 (zkb false)]),(.reg [zmv 3 0,zca 4 102 [3,(zki (-2147483647)),(zki 2147483647)],zmv 2 4]),.ret])
def Qpq:List (ARv × Md):=[(.t 2,.one .d)]
theorem Qm0 (x:Int) (h :
 K (Qdq (m_in x (-2147483647:Int) (2147483647:Int)))):Hold (tawp QmL (0+0) Qpn (TQ 0 0 Qpq K) (Qm [(.c TI x)])) :=
 Hold.of (by kernel_rfl) h
theorem Ql5 (x:Int):TCon Try.prog 122 [(.c TI x)] (Qdq (Q6 x)):=by
 refine QP rfl fun hb=>tcg (n:=5) (sg:=Qde.sg) Qt (TOk.cons YY TOk.nil) (by kernel_rfl) (by kernel_rfl) (Qm0 _ x ?_)
 exact R_eq rfl
theorem Qng:Qq Try.prog Qde:=Qv fun x _=>Ql5 x.1
def Qd7 (t:Bool):TRes:=zre (zcb t)
def Qcm:TRow:=Qp 206 [(.c TI)] fun x=>(none,Qd7 (Q6 x.1))
def Qpu:List TRow:=[]
def Qku:TCode :=
 (zsq [(.reg [zmv 2 (zkb false)]),(.reg [zmv 3 0,zbi 4 .geq 3 (zki (-2147483647)),zmv 5 4,.grp 5 true [zmv 6 0,zbi 7 .leq 6 (zki 2147483647)] 8 7,zmv 2 8]),.ret])
def QnG:List (ARv × Md):=[(.t 2,.one .d)]
theorem QnP (x:Int) (h :
 K (Qd7 ((decide (x≥(-2147483647:Int)))&&(decide (x≤(2147483647:Int)))))):Hold (tawp Qpu (0+0) Qku (TQ 0 0 QnG K) (Qm [(.c TI x)])) :=
 Hold.of (by kernel_rfl) h
theorem QkS (x:Int):TCon Try.prog 206 [(.c TI x)] (Qd7 (Q6 x)):=by
 refine QP rfl fun hb=>tcg (n:=9) (sg:=Qcm.sg) Qt TOk.nil (by kernel_rfl) (by kernel_rfl) (QnP _ x ?_)
 exact R_eq rfl
theorem Qop:Qq Try.prog Qcm:=Qv fun x _=>QkS x.1
def Jq (t:Bool):TRes:=zre (zcb t)
def Qeo:TRow:=Qp 190 [(.c (.sl [TI]))] fun x=>(none,Jq (Za x.1))
def QcH:List TRow:=[Qcm]
def Qe5:TCode :=
 (zsq [(.reg [zbi 8 .lss 7 6]),(.cond 8 .skip (.exit 0)),(.block 1 (zsq [(.reg [zia 9 5 7 [TI],zld 10 9 1,zmv 4 10]),(.reg [zmv 11 4,zca 12 206 [11],zno 13 12]),(.cond 13 (zsq [(.reg [zmv 2 (zkb false)]),.ret]) .skip)])),(.reg [zbi 14 .add 7 (zki 1),zmv 7 14])])
def QhV:List (Nat × Md):=zdl [5,6,7]
def QgB:TCode :=
 (zsq [(.reg [zmv 2 (zkb true)]),.ret])
def QpW:TCode :=
 (zsq [(.reg [zmv 2 (zkb false)]),(zsq [(.reg [zmv 5 0,zle 6 5,zmv 7 (zki 0)]),(.block 0 (.loop QhV Qe5))]),QgB])
def QeN:List (ARv × Md):=[(.t 2,.one .d)]
def Qf7:Qg:=TQ 0 0 QeN K
def Qmw:Qg:=Qseq (tawp QcH 0 QgB (Qf7 K)) (Qf7 K)
def Qme:Qg:=Qblk 0 (Qmw K)
def QcS (v:List Int) (x:Int):Prop:=Loop QcH 0 QhV Qe5 (Qme K) ⟨[(5,(zcs [TI] v)),(6,(zci (v.length:Int))),(7,(zci x))],[],0⟩
theorem Qkv (v:List Int) (x:Int) (h :
 (zif (decide (x<(v.length:Int))) (((0:Int)≤x∧Int.toNat x<v.length)∧(zif (!(Q6 (gtd (0:Int) v (Int.toNat x)))) (K (Jq false)) (QcS K v (w64 (x+(1:Int)))))) (K (Jq true)))):QcS K v x :=
 Loop.of (by kernel_rfl) h
theorem Qkl (v:List Int) (h :
 (QcS K v 0)):Hold (tawp QcH (0+0) QpW (TQ 0 0 QeN K) (Qm [(.c (.sl [TI]) v)])) :=
 Hold.of (by kernel_rfl) h
theorem QjN (v:List Int):TCon Try.prog 190 [(.c (.sl [TI]) v)] (Jq (Za v)):=by
 refine QP rfl fun hb=>tcg (n:=15) (sg:=Qeo.sg) Qt (TOk.cons Qop TOk.nil) (by kernel_rfl) (by kernel_rfl) (Qkl _ v ?_)
 have hl_v:v.length≤9223372036854775807:=hb.1.1
 exact QgJ (Q:=fun x=>Jq x=Jq (Za v)) (p:=Q6) (c:=fun x=>!(Q6 x)) 0 hl_v (fun _=>rfl) (fun i h=>Qkv _ v i h) (R_eq (by simp [Za]))
theorem Qn4:Qq Try.prog Qeo:=Qv fun x _=>QjN x.1
end
end Go.Proofs.Ytephkbajoofeoaa.Am

