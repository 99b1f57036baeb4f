/- -/
import Derived.Test.YtephkbajoofeoaaYCG8
namespace Go.Proofs.Ytephkbajoofeoaa.Am
open Go Go.RowKit Go.Proofs.Ytephkbajoofeoaa
set_option linter.all false
noncomputable section
variable (K:TRes→Prop)
def Qdj (t:Bool):TRes:=zre (zcb t)
def YF:TRow:=Qr 102 [(.c TI),(.c TI),(.c TI)] fun x=>(none,Qdj (m_in x.1 x.2.1 x.2.2.1))
def Qme:List TRow:=[]
def Qi8:TCode :=
 (zsq [(.reg [zmv 6 (zkb false)]),(.reg [zmv 7 0,zmv 8 1,zbi 9 .geq 7 8,zmv 10 9,.grp 10 true [zmv 11 0,zmv 12 2,zbi 13 .leq 11 12] 14 13,zmv 6 14]),.ret])
def QlR:List (ARv × Md):=[(.t 6,.one .d)]
theorem QlD (x:Int) (low:Int) (high:Int) (h :
 K (Qdj ((decide (x≥low))&&(decide (x≤high))))):Hold (tawp Qme (0+0) Qi8 (TQ 0 0 QlR K) (Ql [(.c TI x),(.c TI low),(.c TI high)])) :=
 Hold.of (by kernel_rfl) h
theorem QiT (x:Int) (low:Int) (high:Int):TCon Try.prog 102 [(.c TI x),(.c TI low),(.c TI high)] (Qdj (m_in x low high)):=by
 refine QY rfl fun hb=>tcg (n:=15) (sg:=YF.sg) Qv TOk.nil (by kernel_rfl) (by kernel_rfl) (QlD _ x low high ?_)
 exact R_eq rfl
theorem JM:Qq Try.prog YF:=Qy fun x _=>QiT x.1 x.2.1 x.2.2.1
def QcZ (t:Bool):TRes:=zre (zcb t)
def QbK:TRow:=Qr 122 [(.c TI)] fun x=>(none,QcZ (QU x.1))
def QkZ:List TRow:=[YF]
def Qjb:TCode :=
 (zsq [(.reg [zmv 2 (zkb false)]),(.reg [zmv 3 0,zca 4 102 [3,(zki (-2147483647)),(zki 2147483647)],zmv 2 4]),.ret])
def QmR:List (ARv × Md):=[(.t 2,.one .d)]
theorem Qkv (x:Int) (h :
 K (QcZ (m_in x (-2147483647:Int) (2147483647:Int)))):Hold (tawp QkZ (0+0) Qjb (TQ 0 0 QmR K) (Ql [(.c TI x)])) :=
 Hold.of (by kernel_rfl) h
theorem QmX (x:Int):TCon Try.prog 122 [(.c TI x)] (QcZ (QU x)):=by
 refine QY rfl fun hb=>tcg (n:=5) (sg:=QbK.sg) Qv (TOk.cons JM TOk.nil) (by kernel_rfl) (by kernel_rfl) (Qkv _ x ?_)
 exact R_eq rfl
theorem Qlu:Qq Try.prog QbK:=Qy fun x _=>QmX x.1
def Qc2 (t:Bool):TRes:=zre (zcb t)
def QbV:TRow:=Qr 206 [(.c TI)] fun x=>(none,Qc2 (QU x.1))
def QmU:List TRow:=[]
def QiV:TCode :=
 (zsq [(.reg [zmv 2 (zkb false)]),(.reg [zmv 3 0,zbi 4 .geq 3 (zki (-2147483647)),zmv 5 4,.grp 5 true [zmv 6 0,zbi 7 .leq 6 (zki 2147483647)] 8 7,zmv 2 8]),.ret])
def QlL:List (ARv × Md):=[(.t 2,.one .d)]
theorem Qnx (x:Int) (h :
 K (Qc2 ((decide (x≥(-2147483647:Int)))&&(decide (x≤(2147483647:Int)))))):Hold (tawp QmU (0+0) QiV (TQ 0 0 QlL K) (Ql [(.c TI x)])) :=
 Hold.of (by kernel_rfl) h
theorem QmI (x:Int):TCon Try.prog 206 [(.c TI x)] (Qc2 (QU x)):=by
 refine QY rfl fun hb=>tcg (n:=9) (sg:=QbV.sg) Qv TOk.nil (by kernel_rfl) (by kernel_rfl) (Qnx _ x ?_)
 exact R_eq rfl
theorem Qjg:Qq Try.prog QbV:=Qy fun x _=>QmI x.1
def Ji (t:Bool):TRes:=zre (zcb t)
def Qdd:TRow:=Qr 190 [(.c (.sl [TI]))] fun x=>(none,Ji (Q8 x.1))
def Qcl:List TRow:=[QbV]
def QhT:TCode :=
 (zsq [(.reg [zbi 8 .lss 7 6]),(.cond 8 .skip (.exit 0)),(.block 1 (zsq [(.reg [zia 9 5 7 [TI],zld 10 9 1,zmv 4 10]),(.reg [zmv 11 4,zca 12 206 [11],zno 13 12]),(.cond 13 (zsq [(.reg [zmv 2 (zkb false)]),.ret]) .skip)])),(.reg [zbi 14 .add 7 (zki 1),zmv 7 14])])
def Qd8:List (Nat × Md):=zdl [5,6,7]
def Qg9:TCode :=
 (zsq [(.reg [zmv 2 (zkb true)]),.ret])
def Qk5:TCode :=
 (zsq [(.reg [zmv 2 (zkb false)]),(zsq [(.reg [zmv 5 0,zle 6 5,zmv 7 (zki 0)]),(.block 0 (.loop Qd8 QhT))]),Qg9])
def Qec:List (ARv × Md):=[(.t 2,.one .d)]
def QeE:Qd:=TQ 0 0 Qec K
def Qmm:Qd:=Qseq (tawp Qcl 0 Qg9 (QeE K)) (QeE K)
def Qml:Qd:=Qblk 0 (Qmm K)
def Qc9 (v:List Int) (x:Int):Prop:=Loop Qcl 0 Qd8 QhT (Qml K) ⟨[(5,(zcs [TI] v)),(6,(zci (v.length:Int))),(7,(zci x))],[],0⟩
theorem Qk9 (v:List Int) (x:Int) (h :
 (zif (decide (x<(v.length:Int))) (((0:Int)≤x∧Int.toNat x<v.length)∧(zif (!(QU (gtd (0:Int) v (Int.toNat x)))) (K (Ji false)) (Qc9 K v (w64 (x+(1:Int)))))) (K (Ji true)))):Qc9 K v x :=
 Loop.of (by kernel_rfl) h
theorem Qli (v:List Int) (h :
 (Qc9 K v 0)):Hold (tawp Qcl (0+0) Qk5 (TQ 0 0 Qec K) (Ql [(.c (.sl [TI]) v)])) :=
 Hold.of (by kernel_rfl) h
theorem Qk3 (v:List Int):TCon Try.prog 190 [(.c (.sl [TI]) v)] (Ji (Q8 v)):=by
 refine QY rfl fun hb=>tcg (n:=15) (sg:=Qdd.sg) Qv (TOk.cons Qjg TOk.nil) (by kernel_rfl) (by kernel_rfl) (Qli _ v ?_)
 have hl_v:v.length≤9223372036854775807:=hb.1.1
 exact QfJ (Q:=fun x=>Ji x=Ji (Q8 v)) (p:=QU) (c:=fun x=>!(QU x)) 0 hl_v (fun _=>rfl) (fun i h=>Qk9 _ v i h) (R_eq (by simp [Q8]))
theorem Qk1:Qq Try.prog Qdd:=Qy fun x _=>Qk3 x.1
end
end Go.Proofs.Ytephkbajoofeoaa.Am

