/- -/
import Derived.Test.YtephkbajoofeoaaWBG8
namespace Go.Proofs.Ytephkbajoofeoaa.Am
open Go Go.RowKit Go.Proofs.Ytephkbajoofeoaa
set_option linter.all false
noncomputable section
variable (K:TRes→Prop)
def Qcm (t:Bool):TRes:=zre (zcb t)
def JE:TRow:=Qm 102 [(.c TI),(.c TI),(.c TI)] fun x=>(none,Qcm (m_in x.1 x.2.1 x.2.2.1))
def QgO:TTab:=⟨[],false⟩
def Qof:TCode :=
 (zsq [(.reg [zmv 6 (zkb false)]),(.reg [zmv 7 0,zmv 8 1,zbi 9 .geq 7 8,zmv 10 9,.grp 10 true [zmv 11 0,zmv 12 2,zbi 13 .leq 11 12] 14 13,zmv 6 14]),.ret])
def Qjd:List (ARv × Md):=[(.t 6,.one .d)]
theorem Qjr (x:Int) (low:Int) (high:Int) (h :
 K (Qcm ((decide (x≥low))&&(decide (x≤high))))):Hold (tawp QgO (0+0) Qof (TQ 0 0 Qjd K) (Qk [(.c TI x),(.c TI low),(.c TI high)])) :=
 Hold.of (by kernel_rfl) h
theorem QiP (x:Int) (low:Int) (high:Int):TCon Try.prog 102 [(.c TI x),(.c TI low),(.c TI high)] (Qcm (m_in x low high)):=by
 refine Qr rfl fun hb=>tcg (Γ:=QgO) (n:=15) (sg:=JE.sg) Qq TOkL.nil (by kernel_rfl) (by kernel_rfl) (Qjr _ x low high ?_)
 exact R_eq rfl
theorem Qc3:Qn Try.prog JE:=Qs fun x _=>QiP x.1 x.2.1 x.2.2.1
def QbJ (t:Bool):TRes:=zre (zcb t)
def QcZ:TRow:=Qm 122 [(.c TI)] fun x=>(none,QbJ (Zk x.1))
def QfZ:TTab:=⟨[JE],false⟩
def QjV:TCode :=
 (zsq [(.reg [zmv 2 (zkb false)]),(.reg [zmv 3 0,zca 4 102 [3,(zki (-2147483647)),(zki 2147483647)],zmv 2 4]),.ret])
def QlN:List (ARv × Md):=[(.t 2,.one .d)]
theorem QkJ (x:Int) (h :
 K (QbJ (m_in x (-2147483647:Int) (2147483647:Int)))):Hold (tawp QfZ (0+0) QjV (TQ 0 0 QlN K) (Qk [(.c TI x)])) :=
 Hold.of (by kernel_rfl) h
theorem Qk6 (x:Int):TCon Try.prog 122 [(.c TI x)] (QbJ (Zk x)):=by
 refine Qr rfl fun hb=>tcg (Γ:=QfZ) (n:=5) (sg:=QcZ.sg) Qq (TOkL.cons Qc3 TOkL.nil) (by kernel_rfl) (by kernel_rfl) (QkJ _ x ?_)
 exact R_eq rfl
theorem QlJ:Qn Try.prog QcZ:=Qs fun x _=>Qk6 x.1
def QcA (t:Bool):TRes:=zre (zcb t)
def QbQ:TRow:=Qm 206 [(.c TI)] fun x=>(none,QcA (Zk x.1))
def QfC:TTab:=⟨[],false⟩
def Qm9:TCode :=
 (zsq [(.reg [zmv 2 (zkb false)]),(.reg [zmv 3 0,zbi 4 .geq 3 (zki (-2147483647)),zmv 5 4,.grp 5 true [zmv 6 0,zbi 7 .leq 6 (zki 2147483647)] 8 7,zmv 2 8]),.ret])
def QjJ:List (ARv × Md):=[(.t 2,.one .d)]
theorem Qju (x:Int) (h :
 K (QcA ((decide (x≥(-2147483647:Int)))&&(decide (x≤(2147483647:Int)))))):Hold (tawp QfC (0+0) Qm9 (TQ 0 0 QjJ K) (Qk [(.c TI x)])) :=
 Hold.of (by kernel_rfl) h
theorem Qma (x:Int):TCon Try.prog 206 [(.c TI x)] (QcA (Zk x)):=by
 refine Qr rfl fun hb=>tcg (Γ:=QfC) (n:=9) (sg:=QbQ.sg) Qq TOkL.nil (by kernel_rfl) (by kernel_rfl) (Qju _ x ?_)
 exact R_eq rfl
theorem Qm5:Qn Try.prog QbQ:=Qs fun x _=>Qma x.1
def Yw (t:Bool):TRes:=zre (zcb t)
def QbA:TRow:=Qm 190 [(.c (.sl [TI]))] fun x=>(none,Yw (ZS x.1))
def QaK:TTab:=⟨[QbQ],false⟩
def QhG:TCode :=
 (zsq [(.reg [zbi 8 .lss 7 6]),(.cond 8 .skip (.exit 0)),(.block 1 (zsq [(.reg [zia 9 5 7 [TI],zld 10 9 1,zmv 4 10]),(.reg [zmv 11 4,zca 12 206 [11],zno 13 12]),(.cond 13 (zsq [(.reg [zmv 2 (zkb false)]),.ret]) .skip)])),(.reg [zbi 14 .add 7 (zki 1),zmv 7 14])])
def QhU:List (Nat × Md):=zdl [5,6,7]
def QeB:TCode :=
 (zsq [(.reg [zmv 2 (zkb true)]),.ret])
def QiW:TCode :=
 (zsq [(.reg [zmv 2 (zkb false)]),(zsq [(.reg [zmv 5 0,zle 6 5,zmv 7 (zki 0)]),(.block 0 (.loop QhU QhG))]),QeB])
def QgR:List (ARv × Md):=[(.t 2,.one .d)]
def Qgy:Qh:=TQ 0 0 QgR K
def Qna:Qh:=Qseq (tawp QaK 0 QeB (Qgy K)) (Qgy K)
def Qop:Qh:=Qblk 0 (Qna K)
def Qcw (v:List Int) (x:Int):Prop:=Loop QaK 0 QhU QhG (Qop K) ⟨[(5,(zcs [TI] v)),(6,(zci (v.length:Int))),(7,(zci x))],[],0⟩
theorem Qlt (v:List Int) (x:Int) (h :
 (zif (decide (x<(v.length:Int))) (((0:Int)≤x∧Int.toNat x<v.length)∧(zif (!(Zk (gtd (0:Int) v (Int.toNat x)))) (K (Yw false)) (Qcw K v (w64 (x+(1:Int)))))) (K (Yw true)))):Qcw K v x :=
 Loop.of (by kernel_rfl) h
theorem Ql2 (v:List Int) (h :
 (Qcw K v 0)):Hold (tawp QaK (0+0) QiW (TQ 0 0 QgR K) (Qk [(.c (.sl [TI]) v)])) :=
 Hold.of (by kernel_rfl) h
theorem QnP (v:List Int):TCon Try.prog 190 [(.c (.sl [TI]) v)] (Yw (ZS v)):=by
 refine Qr rfl fun hb=>tcg (Γ:=QaK) (n:=15) (sg:=QbA.sg) Qq (TOkL.cons Qm5 TOkL.nil) (by kernel_rfl) (by kernel_rfl) (Ql2 _ v ?_)
 have hl_v:v.length≤9223372036854775807:=hb.1.1
 exact QcJ (Q:=fun x=>Yw x=Yw (ZS v)) (p:=Zk) (c:=fun x=>!(Zk x)) 0 hl_v (fun _=>rfl) (fun i h=>Qlt _ v i h) (R_eq (by simp [ZS]))
theorem QjI:Qn Try.prog QbA:=Qs fun x _=>QnP x.1
def YD (t:Bool):TRes:=zre (zcb t)
def Qbo:TRow:=Qm 31 [(.c (.sl [TI]))] fun x=>(none,YD (Zg x.1))
def JV:TTab:=⟨[QcZ,JE],false⟩
def Qhp:TCode :=
 (zsq [(zsq [(.reg [zmv 4 3,zmv 5 0,zle 6 5,zbi 7 .lss 4 6]),(.cond 7 .skip (.exit 0))]),(.block 1 (zsq [(.reg [zmv 10 0,zmv 11 3,zia 12 10 11 [TI],zld 13 12 1,zca 14 122 [13],zno 15 14]),(.cond 15 (zsq [(.reg [zmv 2 (zkb false)]),.ret]) .skip)])),(.reg [zmv 8 3,zbi 9 .add 8 (zki 1),zmv 3 9])])
def Qhm:List (Nat × Md):=zdl [0,3]
def Qen:TCode :=
 (zsq [(.reg [zmv 16 0,zle 17 16,zca 18 102 [17,(zki 1),(zki 6)],zmv 2 18]),.ret])
def Ql5:TCode :=
 (zsq [(.reg [zmv 2 (zkb false)]),(zsq [(.reg [zmv 3 (zki 0)]),(.block 0 (.loop Qhm Qhp))]),Qen])
def QgE:List (ARv × Md):=[(.t 2,.one .d)]
def Qeh:Qh:=TQ 0 0 QgE K
def Qnb:Qh:=Qseq (tawp JV 0 Qen (Qeh K)) (Qeh K)
def QmC:Qh:=Qblk 0 (Qnb K)
def Qbs (v:List Int) (i:Int):Prop:=Loop JV 0 Qhm Qhp (QmC K) ⟨[(0,(zcs [TI] v)),(3,(zci i))],[],0⟩
theorem QkB (v:List Int) (i:Int) (h :
 (zif (decide (i<(v.length:Int))) (((0:Int)≤i∧Int.toNat i<v.length)∧(zif (!(Zk (gtd (0:Int) v (Int.toNat i)))) (K (YD false)) (Qbs K v (w64 (i+(1:Int)))))) (K (YD (m_in (v.length:Int) (1:Int) (6:Int)))))):Qbs K v i :=
 Loop.of (by kernel_rfl) h
theorem QmB (v:List Int) (h :
 (Qbs K v 0)):Hold (tawp JV (0+0) Ql5 (TQ 0 0 QgE K) (Qk [(.c (.sl [TI]) v)])) :=
 Hold.of (by kernel_rfl) h
theorem QmI (v:List Int):TCon Try.prog 31 [(.c (.sl [TI]) v)] (YD (Zg v)):=by
 refine Qr rfl fun hb=>tcg (Γ:=JV) (n:=19) (sg:=Qbo.sg) Qq (TOkL.cons QlJ (TOkL.cons Qc3 TOkL.nil)) (by kernel_rfl) (by kernel_rfl) (QmB _ v ?_)
 have hl_v:v.length≤9223372036854775807:=hb.1.1
 exact QcJ (Q:=fun x=>YD x=YD (Zg v)) (p:=Zk) (c:=fun x=>!(Zk x)) 0 hl_v (fun _=>rfl) (fun i h=>QkB _ v i h) (R_eq (by grind [Zg,ZS]))
theorem QkF:Qn Try.prog Qbo:=Qs fun x _=>QmI x.1
def QbB (t:Bool):TRes:=zre (zcb t)
def QcN:TRow:=Qm 185 [(.c (.sl [TI]))] fun x=>(none,QbB (Zg x.1))
def QdJ:TTab:=⟨[QbA],false⟩
def QmM:TCode :=
 (zsq [(.reg [zmv 2 (zkb false)]),(.reg [zmv 3 0,zle 4 3,zbi 5 .geq 4 (zki 1),zmv 6 5,.grp 6 true [zmv 7 0,zle 8 7,zbi 9 .leq 8 (zki 6)] 10 9,zmv 11 10,.grp 11 true [zmv 12 0,zca 13 190 [12]] 14 13,zmv 2 14]),.ret])
def QiK:List (ARv × Md):=[(.t 2,.one .d)]
theorem Qng (v:List Int) (h :
 K (QbB (((decide ((v.length:Int)≥(1:Int)))&&(decide ((v.length:Int)≤(6:Int))))&&(ZS v)))):Hold (tawp QdJ (0+0) QmM (TQ 0 0 QiK K) (Qk [(.c (.sl [TI]) v)])) :=
 Hold.of (by kernel_rfl) h
theorem Qm3 (v:List Int):TCon Try.prog 185 [(.c (.sl [TI]) v)] (QbB (Zg v)):=by
 refine Qr rfl fun hb=>tcg (Γ:=QdJ) (n:=15) (sg:=QcN.sg) Qq (TOkL.cons QjI TOkL.nil) (by kernel_rfl) (by kernel_rfl) (Qng _ v ?_)
 have hl_v:v.length≤9223372036854775807:=hb.1.1
 exact R_eq (by grind [Zg,m_in])
theorem Qnj:Qn Try.prog QcN:=Qs fun x _=>Qm3 x.1
end
end Go.Proofs.Ytephkbajoofeoaa.Am

