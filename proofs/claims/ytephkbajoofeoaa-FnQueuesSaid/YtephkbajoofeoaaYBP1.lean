/- -/
import Derived.Test.YtephkbajoofeoaaYBG8
namespace Go.Proofs.Ytephkbajoofeoaa.Am
open Go Go.RowKit Go.Proofs.Ytephkbajoofeoaa
set_option linter.all false
noncomputable section
variable (K:TRes→Prop)
def Qbl (t:Bool):TRes:=zre (zcb t)
def YK:TRow:=Qr 102 [(.c TI),(.c TI),(.c TI)] fun x=>(none,Qbl (m_in x.1 x.2.1 x.2.2.1))
def Qi5:List TRow:=[]
def Qhr:TCode :=
 (zsq [(.reg [zmv 6 (zkb false)]),(.reg [zmv 7 0,zmv 8 1,zbi 9 .geq 7 8,zmv 10 9,.grp 10 true [zmv 11 0,zmv 12 2,zbi 13 .leq 11 12] 14 13,zmv 6 14]),.ret])
def QhN:List (ARv × Md):=[(.t 6,.one .d)]
theorem Qib (x:Int) (low:Int) (high:Int) (h :
 K (Qbl ((decide (x≥low))&&(decide (x≤high))))):Hold (tawp Qi5 (0+0) Qhr (TQ 0 0 QhN K) (Ql [(.c TI x),(.c TI low),(.c TI high)])) :=
 Hold.of (by kernel_rfl) h
theorem Qhz (x:Int) (low:Int) (high:Int):TCon Try.prog 102 [(.c TI x),(.c TI low),(.c TI high)] (Qbl (m_in x low high)):=by
 refine QN rfl fun hb=>tcg (n:=15) (sg:=YK.sg) Qv TOk.nil (by kernel_rfl) (by kernel_rfl) (Qib _ x low high ?_)
 exact R_eq rfl
theorem Qau:Qq Try.prog YK:=Qy fun x _=>Qhz x.1 x.2.1 x.2.2.1
def QaK (t:Bool):TRes:=zre (zcb t)
def QaP:TRow:=Qr 122 [(.c TI)] fun x=>(none,QaK (QR x.1))
def Qjy:List TRow:=[YK]
def QjF:TCode :=
 (zsq [(.reg [zmv 2 (zkb false)]),(.reg [zmv 3 0,zca 4 102 [3,(zki (-2147483647)),(zki 2147483647)],zmv 2 4]),.ret])
def Qhb:List (ARv × Md):=[(.t 2,.one .d)]
theorem Qga (x:Int) (h :
 K (QaK (m_in x (-2147483647:Int) (2147483647:Int)))):Hold (tawp Qjy (0+0) QjF (TQ 0 0 Qhb K) (Ql [(.c TI x)])) :=
 Hold.of (by kernel_rfl) h
theorem QgH (x:Int):TCon Try.prog 122 [(.c TI x)] (QaK (QR x)):=by
 refine QN rfl fun hb=>tcg (n:=5) (sg:=QaP.sg) Qv (TOk.cons Qau TOk.nil) (by kernel_rfl) (by kernel_rfl) (Qga _ x ?_)
 exact R_eq rfl
theorem QjR:Qq Try.prog QaP:=Qy fun x _=>QgH x.1
def QaT (t:Bool):TRes:=zre (zcb t)
def Qay:TRow:=Qr 206 [(.c TI)] fun x=>(none,QaT (QR x.1))
def QiP:List TRow:=[]
def QhK:TCode :=
 (zsq [(.reg [zmv 2 (zkb false)]),(.reg [zmv 3 0,zbi 4 .geq 3 (zki (-2147483647)),zmv 5 4,.grp 5 true [zmv 6 0,zbi 7 .leq 6 (zki 2147483647)] 8 7,zmv 2 8]),.ret])
def QkR:List (ARv × Md):=[(.t 2,.one .d)]
theorem Qh4 (x:Int) (h :
 K (QaT ((decide (x≥(-2147483647:Int)))&&(decide (x≤(2147483647:Int)))))):Hold (tawp QiP (0+0) QhK (TQ 0 0 QkR K) (Ql [(.c TI x)])) :=
 Hold.of (by kernel_rfl) h
theorem Qkg (x:Int):TCon Try.prog 206 [(.c TI x)] (QaT (QR x)):=by
 refine QN rfl fun hb=>tcg (n:=9) (sg:=Qay.sg) Qv TOk.nil (by kernel_rfl) (by kernel_rfl) (Qh4 _ x ?_)
 exact R_eq rfl
theorem Qja:Qq Try.prog Qay:=Qy fun x _=>Qkg x.1
def YI (t:Bool):TRes:=zre (zcb t)
def Qb2:TRow:=Qr 190 [(.c (.sl [TI]))] fun x=>(none,YI (Q3 x.1))
def QaG:List TRow:=[Qay]
def Qc6:TCode :=
 (zsq [(.reg [zbi 8 .lss 7 6]),(.cond 8 .skip (.exit 0)),(.block 1 (zsq [(.reg [zia 9 5 7 [TI],zld 10 9 1,zmv 4 10]),(.reg [zmv 11 4,zca 12 206 [11],zno 13 12]),(.cond 13 (zsq [(.reg [zmv 2 (zkb false)]),.ret]) .skip)])),(.reg [zbi 14 .add 7 (zki 1),zmv 7 14])])
def QfC:List (Nat × Md):=zdl [5,6,7]
def QeK:TCode :=
 (zsq [(.reg [zmv 2 (zkb true)]),.ret])
def QjY:TCode :=
 (zsq [(.reg [zmv 2 (zkb false)]),(zsq [(.reg [zmv 5 0,zle 6 5,zmv 7 (zki 0)]),(.block 0 (.loop QfC Qc6))]),QeK])
def Qcw:List (ARv × Md):=[(.t 2,.one .d)]
def QdR:Qi:=TQ 0 0 Qcw K
def Qgy:Qi:=Qseq (tawp QaG 0 QeK (QdR K)) (QdR K)
def QgX:Qi:=Qblk 0 (Qgy K)
def QaW (v:List Int) (x:Int):Prop:=Loop QaG 0 QfC Qc6 (QgX K) ⟨[(5,(zcs [TI] v)),(6,(zci (v.length:Int))),(7,(zci x))],[],0⟩
theorem Qh7 (v:List Int) (x:Int) (h :
 (zif (decide (x<(v.length:Int))) (((0:Int)≤x∧Int.toNat x<v.length)∧(zif (!(QR (gtd (0:Int) v (Int.toNat x)))) (K (YI false)) (QaW K v (w64 (x+(1:Int)))))) (K (YI true)))):QaW K v x :=
 Loop.of (by kernel_rfl) h
theorem QiU (v:List Int) (h :
 (QaW K v 0)):Hold (tawp QaG (0+0) QjY (TQ 0 0 Qcw K) (Ql [(.c (.sl [TI]) v)])) :=
 Hold.of (by kernel_rfl) h
theorem Qf4 (v:List Int):TCon Try.prog 190 [(.c (.sl [TI]) v)] (YI (Q3 v)):=by
 refine QN rfl fun hb=>tcg (n:=15) (sg:=Qb2.sg) Qv (TOk.cons Qja TOk.nil) (by kernel_rfl) (by kernel_rfl) (QiU _ v ?_)
 have hl_v:v.length≤9223372036854775807:=hb.1.1
 exact Qbs (Q:=fun x=>YI x=YI (Q3 v)) (p:=QR) (c:=fun x=>!(QR x)) 0 hl_v (fun _=>rfl) (fun i h=>Qh7 _ v i h) (R_eq (by simp [Q3]))
theorem Qf0:Qq Try.prog Qb2:=Qy fun x _=>Qf4 x.1
def Yw (t:Bool):TRes:=zre (zcb t)
def Y7:TRow:=Qr 31 [(.c (.sl [TI]))] fun x=>(none,Yw (QP x.1))
def Qbu:List TRow:=[QaP,YK]
def Qe3:TCode :=
 (zsq [(zsq [(.reg [zmv 4 3,zmv 5 0,zle 6 5,zbi 7 .lss 4 6]),(.cond 7 .skip (.exit 0))]),(.block 1 (zsq [(.reg [zmv 10 0,zmv 11 3,zia 12 10 11 [TI],zld 13 12 1,zca 14 122 [13],zno 15 14]),(.cond 15 (zsq [(.reg [zmv 2 (zkb false)]),.ret]) .skip)])),(.reg [zmv 8 3,zbi 9 .add 8 (zki 1),zmv 3 9])])
def Qeq:List (Nat × Md):=zdl [0,3]
def QfA:TCode :=
 (zsq [(.reg [zmv 16 0,zle 17 16,zca 18 102 [17,(zki 1),(zki 6)],zmv 2 18]),.ret])
def Qko:TCode :=
 (zsq [(.reg [zmv 2 (zkb false)]),(zsq [(.reg [zmv 3 (zki 0)]),(.block 0 (.loop Qeq Qe3))]),QfA])
def QdN:List (ARv × Md):=[(.t 2,.one .d)]
def Qfc:Qi:=TQ 0 0 QdN K
def QkL:Qi:=Qseq (tawp Qbu 0 QfA (Qfc K)) (Qfc K)
def Qgr:Qi:=Qblk 0 (QkL K)
def Qaz (v:List Int) (i:Int):Prop:=Loop Qbu 0 Qeq Qe3 (Qgr K) ⟨[(0,(zcs [TI] v)),(3,(zci i))],[],0⟩
theorem Qkp (v:List Int) (i:Int) (h :
 (zif (decide (i<(v.length:Int))) (((0:Int)≤i∧Int.toNat i<v.length)∧(zif (!(QR (gtd (0:Int) v (Int.toNat i)))) (K (Yw false)) (Qaz K v (w64 (i+(1:Int)))))) (K (Yw (m_in (v.length:Int) (1:Int) (6:Int)))))):Qaz K v i :=
 Loop.of (by kernel_rfl) h
theorem Qij (v:List Int) (h :
 (Qaz K v 0)):Hold (tawp Qbu (0+0) Qko (TQ 0 0 QdN K) (Ql [(.c (.sl [TI]) v)])) :=
 Hold.of (by kernel_rfl) h
theorem Qjr (v:List Int):TCon Try.prog 31 [(.c (.sl [TI]) v)] (Yw (QP v)):=by
 refine QN rfl fun hb=>tcg (n:=19) (sg:=Y7.sg) Qv (TOk.cons QjR (TOk.cons Qau TOk.nil)) (by kernel_rfl) (by kernel_rfl) (Qij _ v ?_)
 have hl_v:v.length≤9223372036854775807:=hb.1.1
 exact Qbs (Q:=fun x=>Yw x=Yw (QP v)) (p:=QR) (c:=fun x=>!(QR x)) 0 hl_v (fun _=>rfl) (fun i h=>Qkp _ v i h) (R_eq (by grind [QP,Q3]))
theorem Qa6:Qq Try.prog Y7:=Qy fun x _=>Qjr x.1
def QbT (t:Bool):TRes:=zre (zcb t)
def Qbg:TRow:=Qr 185 [(.c (.sl [TI]))] fun x=>(none,QbT (QP x.1))
def Qgx:List TRow:=[Qb2]
def QgD:TCode :=
 (zsq [(.reg [zmv 2 (zkb false)]),(.reg [zmv 3 0,zle 4 3,zbi 5 .geq 4 (zki 1),zmv 6 5,.grp 6 true [zmv 7 0,zle 8 7,zbi 9 .leq 8 (zki 6)] 10 9,zmv 11 10,.grp 11 true [zmv 12 0,zca 13 190 [12]] 14 13,zmv 2 14]),.ret])
def Qkx:List (ARv × Md):=[(.t 2,.one .d)]
theorem Qjc (v:List Int) (h :
 K (QbT (((decide ((v.length:Int)≥(1:Int)))&&(decide ((v.length:Int)≤(6:Int))))&&(Q3 v)))):Hold (tawp Qgx (0+0) QgD (TQ 0 0 Qkx K) (Ql [(.c (.sl [TI]) v)])) :=
 Hold.of (by kernel_rfl) h
theorem Qji (v:List Int):TCon Try.prog 185 [(.c (.sl [TI]) v)] (QbT (QP v)):=by
 refine QN rfl fun hb=>tcg (n:=15) (sg:=Qbg.sg) Qv (TOk.cons Qf0 TOk.nil) (by kernel_rfl) (by kernel_rfl) (Qjc _ v ?_)
 have hl_v:v.length≤9223372036854775807:=hb.1.1
 exact R_eq (by grind [QP,m_in])
theorem QhX:Qq Try.prog Qbg:=Qy fun x _=>Qji x.1
end
end Go.Proofs.Ytephkbajoofeoaa.Am

