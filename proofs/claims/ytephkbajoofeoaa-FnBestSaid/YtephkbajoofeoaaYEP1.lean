/- -/
import Derived.Test.YtephkbajoofeoaaYEG8
namespace Go.Proofs.Ytephkbajoofeoaa.Am
open Go Go.RowKit Go.Proofs.Ytephkbajoofeoaa
set_option linter.all false
noncomputable section
variable (K:TRes→Prop)
def QbV (t:Bool):TRes:=zre (zcb t)
def Z9:TRow:=Qp 102 [(.c TI),(.c TI),(.c TI)] fun x=>(none,QbV (m_in x.1 x.2.1 x.2.2.1))
def Qo1:List TRow:=[]
def QlC:TCode :=
 (zsq [(.reg [zmv 6 (zkb false)]),(.reg [zmv 7 0,zmv 8 1,zbi 9 .geq 7 8,zmv 10 9,.grp 10 true [zmv 11 0,zmv 12 2,zbi 13 .leq 11 12] 14 13,zmv 6 14]),.ret])
def Qnn:List (ARv × Md):=[(.t 6,.one .d)]
theorem QlK (x:Int) (low:Int) (high:Int) (h :
 K (QbV ((decide (x≥low))&&(decide (x≤high))))):Hold (tawp Qo1 (0+0) QlC (TQ 0 0 Qnn K) (Qj [(.c TI x),(.c TI low),(.c TI high)])) :=
 Hold.of (by kernel_rfl) h
theorem QpO (x:Int) (low:Int) (high:Int):TCon Try.prog 102 [(.c TI x),(.c TI low),(.c TI high)] (QbV (m_in x low high)):=by
 refine QG rfl fun hb=>tcg (n:=15) (sg:=Z9.sg) Qq TOk.nil (by kernel_rfl) (by kernel_rfl) (QlK _ x low high ?_)
 exact R_eq rfl
theorem YY:Qo Try.prog Z9:=Qs fun x _=>QpO x.1 x.2.1 x.2.2.1
def Qb4 (t:Bool):TRes:=zre (zcb t)
def QbN:TRow:=Qp 122 [(.c TI)] fun x=>(none,Qb4 (QS x.1))
def QpL:List TRow:=[Z9]
def Qkh:TCode :=
 (zsq [(.reg [zmv 2 (zkb false)]),(.reg [zmv 3 0,zca 4 102 [3,(zki (-2147483647)),(zki 2147483647)],zmv 2 4]),.ret])
def QnV:List (ARv × Md):=[(.t 2,.one .d)]
theorem QnY (x:Int) (h :
 K (Qb4 (m_in x (-2147483647:Int) (2147483647:Int)))):Hold (tawp QpL (0+0) Qkh (TQ 0 0 QnV K) (Qj [(.c TI x)])) :=
 Hold.of (by kernel_rfl) h
theorem Qnr (x:Int):TCon Try.prog 122 [(.c TI x)] (Qb4 (QS x)):=by
 refine QG rfl fun hb=>tcg (n:=5) (sg:=QbN.sg) Qq (TOk.cons YY TOk.nil) (by kernel_rfl) (by kernel_rfl) (QnY _ x ?_)
 exact R_eq rfl
theorem Qmm:Qo Try.prog QbN:=Qs fun x _=>Qnr x.1
def QbL (t:Bool):TRes:=zre (zcb t)
def Qd7:TRow:=Qp 206 [(.c TI)] fun x=>(none,QbL (QS x.1))
def Qkr:List TRow:=[]
def Qoj:TCode :=
 (zsq [(.reg [zmv 2 (zkb false)]),(.reg [zmv 3 0,zbi 4 .geq 3 (zki (-2147483647)),zmv 5 4,.grp 5 true [zmv 6 0,zbi 7 .leq 6 (zki 2147483647)] 8 7,zmv 2 8]),.ret])
def QkL:List (ARv × Md):=[(.t 2,.one .d)]
theorem QmI (x:Int) (h :
 K (QbL ((decide (x≥(-2147483647:Int)))&&(decide (x≤(2147483647:Int)))))):Hold (tawp Qkr (0+0) Qoj (TQ 0 0 QkL K) (Qj [(.c TI x)])) :=
 Hold.of (by kernel_rfl) h
theorem Qma (x:Int):TCon Try.prog 206 [(.c TI x)] (QbL (QS x)):=by
 refine QG rfl fun hb=>tcg (n:=9) (sg:=Qd7.sg) Qq TOk.nil (by kernel_rfl) (by kernel_rfl) (QmI _ x ?_)
 exact R_eq rfl
theorem QoS:Qo Try.prog Qd7:=Qs fun x _=>Qma x.1
def Jg (t:Bool):TRes:=zre (zcb t)
def Qdz:TRow:=Qp 190 [(.c (.sl [TI]))] fun x=>(none,Jg (Q4 x.1))
def QcE:List TRow:=[Qd7]
def Qhn:TCode :=
 (zsq [(.reg [zbi 8 .lss 7 6]),(.cond 8 .skip (.exit 0)),(.block 1 (zsq [(.reg [zia 9 5 7 [TI],zld 10 9 1,zmv 4 10]),(.reg [zmv 11 4,zca 12 206 [11],zno 13 12]),(.cond 13 (zsq [(.reg [zmv 2 (zkb false)]),.ret]) .skip)])),(.reg [zbi 14 .add 7 (zki 1),zmv 7 14])])
def QfT:List (Nat × Md):=zdl [5,6,7]
def QiV:TCode :=
 (zsq [(.reg [zmv 2 (zkb true)]),.ret])
def QnC:TCode :=
 (zsq [(.reg [zmv 2 (zkb false)]),(zsq [(.reg [zmv 5 0,zle 6 5,zmv 7 (zki 0)]),(.block 0 (.loop QfT Qhn))]),QiV])
def Qgc:List (ARv × Md):=[(.t 2,.one .d)]
def QhQ:Qd:=TQ 0 0 Qgc K
def Qmi:Qd:=Qseq (tawp QcE 0 QiV (QhQ K)) (QhQ K)
def QkT:Qd:=Qblk 0 (Qmi K)
def Qc5 (v:List Int) (x:Int):Prop:=Loop QcE 0 QfT Qhn (QkT K) ⟨[(5,(zcs [TI] v)),(6,(zci (v.length:Int))),(7,(zci x))],[],0⟩
theorem Qm8 (v:List Int) (x:Int) (h :
 (zif (decide (x<(v.length:Int))) (((0:Int)≤x∧Int.toNat x<v.length)∧(zif (!(QS (gtd (0:Int) v (Int.toNat x)))) (K (Jg false)) (Qc5 K v (w64 (x+(1:Int)))))) (K (Jg true)))):Qc5 K v x :=
 Loop.of (by kernel_rfl) h
theorem Qok (v:List Int) (h :
 (Qc5 K v 0)):Hold (tawp QcE (0+0) QnC (TQ 0 0 Qgc K) (Qj [(.c (.sl [TI]) v)])) :=
 Hold.of (by kernel_rfl) h
theorem Qpb (v:List Int):TCon Try.prog 190 [(.c (.sl [TI]) v)] (Jg (Q4 v)):=by
 refine QG rfl fun hb=>tcg (n:=15) (sg:=Qdz.sg) Qq (TOk.cons QoS TOk.nil) (by kernel_rfl) (by kernel_rfl) (Qok _ v ?_)
 have hl_v:v.length≤9223372036854775807:=hb.1.1
 exact QhA (Q:=fun x=>Jg x=Jg (Q4 v)) (p:=QS) (c:=fun x=>!(QS x)) 0 hl_v (fun _=>rfl) (fun i h=>Qm8 _ v i h) (R_eq (by simp [Q4]))
theorem Qpc:Qo Try.prog Qdz:=Qs fun x _=>Qpb x.1
end
end Go.Proofs.Ytephkbajoofeoaa.Am

