/- -/
import Derived.Test.YtephkbajoofeoaaWEG8
namespace Go.Proofs.Ytephkbajoofeoaa.Am
open Go Go.RowKit Go.Proofs.Ytephkbajoofeoaa
set_option linter.all false
noncomputable section
variable (K:TRes→Prop)
def Qe3 (t:Bool):TRes:=zre (zcb t)
def JN:TRow:=Ql 102 [(.c TI),(.c TI),(.c TI)] fun x=>(none,Qe3 (m_in x.1 x.2.1 x.2.2.1))
def QjC:TTab:=⟨[],false⟩
def Qo5:TCode :=
 (zsq [(.reg [zmv 6 (zkb false)]),(.reg [zmv 7 0,zmv 8 1,zbi 9 .geq 7 8,zmv 10 9,.grp 10 true [zmv 11 0,zmv 12 2,zbi 13 .leq 11 12] 14 13,zmv 6 14]),.ret])
def QnX:List (ARv × Md):=[(.t 6,.one .d)]
theorem Que (x:Int) (low:Int) (high:Int) (h :
 K (Qe3 ((decide (x≥low))&&(decide (x≤high))))):Hold (tawp QjC (0+0) Qo5 (TQ 0 0 QnX K) (Qh [(.c TI x),(.c TI low),(.c TI high)])) :=
 Hold.of (by kernel_rfl) h
theorem Qqe (x:Int) (low:Int) (high:Int):TCon Try.prog 102 [(.c TI x),(.c TI low),(.c TI high)] (Qe3 (m_in x low high)):=by
 refine Qn rfl fun hb=>tcg (Γ:=QjC) (n:=15) (sg:=JN.sg) Qo TOkL.nil (by kernel_rfl) (by kernel_rfl) (Que _ x low high ?_)
 exact R_eq rfl
theorem Qcm:Qm Try.prog JN:=Qp fun x _=>Qqe x.1 x.2.1 x.2.2.1
def Qft (t:Bool):TRes:=zre (zcb t)
def QdW:TRow:=Ql 122 [(.c TI)] fun x=>(none,Qft (Zg x.1))
def Qjy:TTab:=⟨[JN],false⟩
def QrP:TCode :=
 (zsq [(.reg [zmv 2 (zkb false)]),(.reg [zmv 3 0,zca 4 102 [3,(zki (-2147483647)),(zki 2147483647)],zmv 2 4]),.ret])
def Qr2:List (ARv × Md):=[(.t 2,.one .d)]
theorem Qob (x:Int) (h :
 K (Qft (m_in x (-2147483647:Int) (2147483647:Int)))):Hold (tawp Qjy (0+0) QrP (TQ 0 0 Qr2 K) (Qh [(.c TI x)])) :=
 Hold.of (by kernel_rfl) h
theorem Qme (x:Int):TCon Try.prog 122 [(.c TI x)] (Qft (Zg x)):=by
 refine Qn rfl fun hb=>tcg (Γ:=Qjy) (n:=5) (sg:=QdW.sg) Qo (TOkL.cons Qcm TOkL.nil) (by kernel_rfl) (by kernel_rfl) (Qob _ x ?_)
 exact R_eq rfl
theorem QoE:Qm Try.prog QdW:=Qp fun x _=>Qme x.1
def Qc3 (t:Bool):TRes:=zre (zcb t)
def Qej:TRow:=Ql 206 [(.c TI)] fun x=>(none,Qc3 (Zg x.1))
def QiS:TTab:=⟨[],false⟩
def QnH:TCode :=
 (zsq [(.reg [zmv 2 (zkb false)]),(.reg [zmv 3 0,zbi 4 .geq 3 (zki (-2147483647)),zmv 5 4,.grp 5 true [zmv 6 0,zbi 7 .leq 6 (zki 2147483647)] 8 7,zmv 2 8]),.ret])
def QtL:List (ARv × Md):=[(.t 2,.one .d)]
theorem QmG (x:Int) (h :
 K (Qc3 ((decide (x≥(-2147483647:Int)))&&(decide (x≤(2147483647:Int)))))):Hold (tawp QiS (0+0) QnH (TQ 0 0 QtL K) (Qh [(.c TI x)])) :=
 Hold.of (by kernel_rfl) h
theorem Qo1 (x:Int):TCon Try.prog 206 [(.c TI x)] (Qc3 (Zg x)):=by
 refine Qn rfl fun hb=>tcg (Γ:=QiS) (n:=9) (sg:=Qej.sg) Qo TOkL.nil (by kernel_rfl) (by kernel_rfl) (QmG _ x ?_)
 exact R_eq rfl
theorem QrR:Qm Try.prog Qej:=Qp fun x _=>Qo1 x.1
def Jx (t:Bool):TRes:=zre (zcb t)
def QdY:TRow:=Ql 190 [(.c (.sl [TI]))] fun x=>(none,Jx (Yh x.1))
def QbJ:TTab:=⟨[Qej],false⟩
def Qgr:TCode :=
 (zsq [(.reg [zbi 8 .lss 7 6]),(.cond 8 .skip (.exit 0)),(.block 1 (zsq [(.reg [zia 9 5 7 [TI],zld 10 9 1,zmv 4 10]),(.reg [zmv 11 4,zca 12 206 [11],zno 13 12]),(.cond 13 (zsq [(.reg [zmv 2 (zkb false)]),.ret]) .skip)])),(.reg [zbi 14 .add 7 (zki 1),zmv 7 14])])
def Qls:List (Nat × Md):=zdl [5,6,7]
def QhB:TCode :=
 (zsq [(.reg [zmv 2 (zkb true)]),.ret])
def QpD:TCode :=
 (zsq [(.reg [zmv 2 (zkb false)]),(zsq [(.reg [zmv 5 0,zle 6 5,zmv 7 (zki 0)]),(.block 0 (.loop Qls Qgr))]),QhB])
def QjU:List (ARv × Md):=[(.t 2,.one .d)]
def Qkn:Qc:=TQ 0 0 QjU K
def Qr9:Qc:=Qseq (tawp QbJ 0 QhB (Qkn K)) (Qkn K)
def Qr3:Qc:=Qblk 0 (Qr9 K)
def Qc7 (v:List Int) (x:Int):Prop:=Loop QbJ 0 Qls Qgr (Qr3 K) ⟨[(5,(zcs [TI] v)),(6,(zci (v.length:Int))),(7,(zci x))],[],0⟩
theorem Qou (v:List Int) (x:Int) (h :
 (zif (decide (x<(v.length:Int))) (((0:Int)≤x∧Int.toNat x<v.length)∧(zif (!(Zg (gtd (0:Int) v (Int.toNat x)))) (K (Jx false)) (Qc7 K v (w64 (x+(1:Int)))))) (K (Jx true)))):Qc7 K v x :=
 Loop.of (by kernel_rfl) h
theorem QnA (v:List Int) (h :
 (Qc7 K v 0)):Hold (tawp QbJ (0+0) QpD (TQ 0 0 QjU K) (Qh [(.c (.sl [TI]) v)])) :=
 Hold.of (by kernel_rfl) h
theorem Qpp (v:List Int):TCon Try.prog 190 [(.c (.sl [TI]) v)] (Jx (Yh v)):=by
 refine Qn rfl fun hb=>tcg (Γ:=QbJ) (n:=15) (sg:=QdY.sg) Qo (TOkL.cons QrR TOkL.nil) (by kernel_rfl) (by kernel_rfl) (QnA _ v ?_)
 have hl_v:v.length≤9223372036854775807:=hb.1.1
 exact QjZ (Q:=fun x=>Jx x=Jx (Yh v)) (p:=Zg) (c:=fun x=>!(Zg x)) 0 hl_v (fun _=>rfl) (fun i h=>Qou _ v i h) (R_eq (by simp [Yh]))
theorem Qq7:Qm Try.prog QdY:=Qp fun x _=>Qpp x.1
end
end Go.Proofs.Ytephkbajoofeoaa.Am

