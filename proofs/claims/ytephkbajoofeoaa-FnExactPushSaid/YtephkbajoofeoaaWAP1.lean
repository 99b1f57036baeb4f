/- -/
import Derived.Test.YtephkbajoofeoaaWAG8
namespace Go.Proofs.Ytephkbajoofeoaa.Am
open Go Go.RowKit Go.Proofs.Ytephkbajoofeoaa
set_option linter.all false
noncomputable section
variable (K:TRes→Prop)
def Qb2 (t:Bool):TRes:=zre (zcb t)
def YQ:TRow:=Qn 102 [(.c TI),(.c TI),(.c TI)] fun x=>(none,Qb2 (m_in x.1 x.2.1 x.2.2.1))
def QgZ:TTab:=⟨[],false⟩
def Qmf:TCode :=
 (zsq [(.reg [zmv 6 (zkb false)]),(.reg [zmv 7 0,zmv 8 1,zbi 9 .geq 7 8,zmv 10 9,.grp 10 true [zmv 11 0,zmv 12 2,zbi 13 .leq 11 12] 14 13,zmv 6 14]),.ret])
def QnO:List (ARv × Md):=[(.t 6,.one .d)]
theorem QmB (x:Int) (low:Int) (high:Int) (h :
 K (Qb2 ((decide (x≥low))&&(decide (x≤high))))):Hold (tawp QgZ (0+0) Qmf (TQ 0 0 QnO K) (Ql [(.c TI x),(.c TI low),(.c TI high)])) :=
 Hold.of (by kernel_rfl) h
theorem QmH (x:Int) (low:Int) (high:Int):TCon Try.prog 102 [(.c TI x),(.c TI low),(.c TI high)] (Qb2 (m_in x low high)):=by
 refine Qp rfl fun hb=>tcg (Γ:=QgZ) (n:=15) (sg:=YQ.sg) Qq TOkL.nil (by kernel_rfl) (by kernel_rfl) (QmB _ x low high ?_)
 exact R_eq rfl
theorem Qa0:Qm Try.prog YQ:=Qt fun x _=>QmH x.1 x.2.1 x.2.2.1
def QbY (t:Bool):TRes:=zre (zcb t)
def Qcc:TRow:=Qn 122 [(.c TI)] fun x=>(none,QbY (Zn x.1))
def Qgk:TTab:=⟨[YQ],false⟩
def QnD:TCode :=
 (zsq [(.reg [zmv 2 (zkb false)]),(.reg [zmv 3 0,zca 4 102 [3,(zki (-2147483647)),(zki 2147483647)],zmv 2 4]),.ret])
def Qly:List (ARv × Md):=[(.t 2,.one .d)]
theorem QkI (x:Int) (h :
 K (QbY (m_in x (-2147483647:Int) (2147483647:Int)))):Hold (tawp Qgk (0+0) QnD (TQ 0 0 Qly K) (Ql [(.c TI x)])) :=
 Hold.of (by kernel_rfl) h
theorem Qj7 (x:Int):TCon Try.prog 122 [(.c TI x)] (QbY (Zn x)):=by
 refine Qp rfl fun hb=>tcg (Γ:=Qgk) (n:=5) (sg:=Qcc.sg) Qq (TOkL.cons Qa0 TOkL.nil) (by kernel_rfl) (by kernel_rfl) (QkI _ x ?_)
 exact R_eq rfl
theorem Qig:Qm Try.prog Qcc:=Qt fun x _=>Qj7 x.1
def Qb5 (t:Bool):TRes:=zre (zcb t)
def QbK:TRow:=Qn 206 [(.c TI)] fun x=>(none,Qb5 (Zn x.1))
def QgU:TTab:=⟨[],false⟩
def Qie:TCode :=
 (zsq [(.reg [zmv 2 (zkb false)]),(.reg [zmv 3 0,zbi 4 .geq 3 (zki (-2147483647)),zmv 5 4,.grp 5 true [zmv 6 0,zbi 7 .leq 6 (zki 2147483647)] 8 7,zmv 2 8]),.ret])
def Qko:List (ARv × Md):=[(.t 2,.one .d)]
theorem Qmk (x:Int) (h :
 K (Qb5 ((decide (x≥(-2147483647:Int)))&&(decide (x≤(2147483647:Int)))))):Hold (tawp QgU (0+0) Qie (TQ 0 0 Qko K) (Ql [(.c TI x)])) :=
 Hold.of (by kernel_rfl) h
theorem QnB (x:Int):TCon Try.prog 206 [(.c TI x)] (Qb5 (Zn x)):=by
 refine Qp rfl fun hb=>tcg (Γ:=QgU) (n:=9) (sg:=QbK.sg) Qq TOkL.nil (by kernel_rfl) (by kernel_rfl) (Qmk _ x ?_)
 exact R_eq rfl
theorem Qm9:Qm Try.prog QbK:=Qt fun x _=>QnB x.1
def YM (t:Bool):TRes:=zre (zcb t)
def Qdb:TRow:=Qn 190 [(.c (.sl [TI]))] fun x=>(none,YM (ZP x.1))
def Qa7:TTab:=⟨[QbK],false⟩
def QgP:TCode :=
 (zsq [(.reg [zbi 8 .lss 7 6]),(.cond 8 .skip (.exit 0)),(.block 1 (zsq [(.reg [zia 9 5 7 [TI],zld 10 9 1,zmv 4 10]),(.reg [zmv 11 4,zca 12 206 [11],zno 13 12]),(.cond 13 (zsq [(.reg [zmv 2 (zkb false)]),.ret]) .skip)])),(.reg [zbi 14 .add 7 (zki 1),zmv 7 14])])
def Qgs:List (Nat × Md):=zdl [5,6,7]
def Qfd:TCode :=
 (zsq [(.reg [zmv 2 (zkb true)]),.ret])
def QkN:TCode :=
 (zsq [(.reg [zmv 2 (zkb false)]),(zsq [(.reg [zmv 5 0,zle 6 5,zmv 7 (zki 0)]),(.block 0 (.loop Qgs QgP))]),Qfd])
def Qe0:List (ARv × Md):=[(.t 2,.one .d)]
def QdF:Qh:=TQ 0 0 Qe0 K
def QkU:Qh:=Qseq (tawp Qa7 0 Qfd (QdF K)) (QdF K)
def Qn4:Qh:=Qblk 0 (QkU K)
def QcR (v:List Int) (x:Int):Prop:=Loop Qa7 0 Qgs QgP (Qn4 K) ⟨[(5,(zcs [TI] v)),(6,(zci (v.length:Int))),(7,(zci x))],[],0⟩
theorem Qmx (v:List Int) (x:Int) (h :
 (zif (decide (x<(v.length:Int))) (((0:Int)≤x∧Int.toNat x<v.length)∧(zif (!(Zn (gtd (0:Int) v (Int.toNat x)))) (K (YM false)) (QcR K v (w64 (x+(1:Int)))))) (K (YM true)))):QcR K v x :=
 Loop.of (by kernel_rfl) h
theorem Qjw (v:List Int) (h :
 (QcR K v 0)):Hold (tawp Qa7 (0+0) QkN (TQ 0 0 Qe0 K) (Ql [(.c (.sl [TI]) v)])) :=
 Hold.of (by kernel_rfl) h
theorem QnM (v:List Int):TCon Try.prog 190 [(.c (.sl [TI]) v)] (YM (ZP v)):=by
 refine Qp rfl fun hb=>tcg (Γ:=Qa7) (n:=15) (sg:=Qdb.sg) Qq (TOkL.cons Qm9 TOkL.nil) (by kernel_rfl) (by kernel_rfl) (Qjw _ v ?_)
 have hl_v:v.length≤9223372036854775807:=hb.1.1
 exact QcH (Q:=fun x=>YM x=YM (ZP v)) (p:=Zn) (c:=fun x=>!(Zn x)) 0 hl_v (fun _=>rfl) (fun i h=>Qmx _ v i h) (R_eq (by simp [ZP]))
theorem QlJ:Qm Try.prog Qdb:=Qt fun x _=>QnM x.1
def YB (t:Bool):TRes:=zre (zcb t)
def Qah:TRow:=Qn 31 [(.c (.sl [TI]))] fun x=>(none,YB (QV x.1))
def QaX:TTab:=⟨[Qcc,YQ],false⟩
def QfG:TCode :=
 (zsq [(zsq [(.reg [zmv 4 3,zmv 5 0,zle 6 5,zbi 7 .lss 4 6]),(.cond 7 .skip (.exit 0))]),(.block 1 (zsq [(.reg [zmv 10 0,zmv 11 3,zia 12 10 11 [TI],zld 13 12 1,zca 14 122 [13],zno 15 14]),(.cond 15 (zsq [(.reg [zmv 2 (zkb false)]),.ret]) .skip)])),(.reg [zmv 8 3,zbi 9 .add 8 (zki 1),zmv 3 9])])
def QhU:List (Nat × Md):=zdl [0,3]
def Qfw:TCode :=
 (zsq [(.reg [zmv 16 0,zle 17 16,zca 18 102 [17,(zki 1),(zki 6)],zmv 2 18]),.ret])
def Qj8:TCode :=
 (zsq [(.reg [zmv 2 (zkb false)]),(zsq [(.reg [zmv 3 (zki 0)]),(.block 0 (.loop QhU QfG))]),Qfw])
def Qh7:List (ARv × Md):=[(.t 2,.one .d)]
def Qe6:Qh:=TQ 0 0 Qh7 K
def QnE:Qh:=Qseq (tawp QaX 0 Qfw (Qe6 K)) (Qe6 K)
def Qin:Qh:=Qblk 0 (QnE K)
def Qb7 (v:List Int) (i:Int):Prop:=Loop QaX 0 QhU QfG (Qin K) ⟨[(0,(zcs [TI] v)),(3,(zci i))],[],0⟩
theorem QnT (v:List Int) (i:Int) (h :
 (zif (decide (i<(v.length:Int))) (((0:Int)≤i∧Int.toNat i<v.length)∧(zif (!(Zn (gtd (0:Int) v (Int.toNat i)))) (K (YB false)) (Qb7 K v (w64 (i+(1:Int)))))) (K (YB (m_in (v.length:Int) (1:Int) (6:Int)))))):Qb7 K v i :=
 Loop.of (by kernel_rfl) h
theorem Ql7 (v:List Int) (h :
 (Qb7 K v 0)):Hold (tawp QaX (0+0) Qj8 (TQ 0 0 Qh7 K) (Ql [(.c (.sl [TI]) v)])) :=
 Hold.of (by kernel_rfl) h
theorem QmR (v:List Int):TCon Try.prog 31 [(.c (.sl [TI]) v)] (YB (QV v)):=by
 refine Qp rfl fun hb=>tcg (Γ:=QaX) (n:=19) (sg:=Qah.sg) Qq (TOkL.cons Qig (TOkL.cons Qa0 TOkL.nil)) (by kernel_rfl) (by kernel_rfl) (Ql7 _ v ?_)
 have hl_v:v.length≤9223372036854775807:=hb.1.1
 exact QcH (Q:=fun x=>YB x=YB (QV v)) (p:=Zn) (c:=fun x=>!(Zn x)) 0 hl_v (fun _=>rfl) (fun i h=>QnT _ v i h) (R_eq (by grind [QV,ZP]))
theorem Qic:Qm Try.prog Qah:=Qt fun x _=>QmR x.1
def QbN (t:Bool):TRes:=zre (zcb t)
def QbA:TRow:=Qn 185 [(.c (.sl [TI]))] fun x=>(none,QbN (QV x.1))
def Qg0:TTab:=⟨[Qdb],false⟩
def QkS:TCode :=
 (zsq [(.reg [zmv 2 (zkb false)]),(.reg [zmv 3 0,zle 4 3,zbi 5 .geq 4 (zki 1),zmv 6 5,.grp 6 true [zmv 7 0,zle 8 7,zbi 9 .leq 8 (zki 6)] 10 9,zmv 11 10,.grp 11 true [zmv 12 0,zca 13 190 [12]] 14 13,zmv 2 14]),.ret])
def Qji:List (ARv × Md):=[(.t 2,.one .d)]
theorem QnV (v:List Int) (h :
 K (QbN (((decide ((v.length:Int)≥(1:Int)))&&(decide ((v.length:Int)≤(6:Int))))&&(ZP v)))):Hold (tawp Qg0 (0+0) QkS (TQ 0 0 Qji K) (Ql [(.c (.sl [TI]) v)])) :=
 Hold.of (by kernel_rfl) h
theorem QjA (v:List Int):TCon Try.prog 185 [(.c (.sl [TI]) v)] (QbN (QV v)):=by
 refine Qp rfl fun hb=>tcg (Γ:=Qg0) (n:=15) (sg:=QbA.sg) Qq (TOkL.cons QlJ TOkL.nil) (by kernel_rfl) (by kernel_rfl) (QnV _ v ?_)
 have hl_v:v.length≤9223372036854775807:=hb.1.1
 exact R_eq (by grind [QV,m_in])
theorem Qml:Qm Try.prog QbA:=Qt fun x _=>QjA x.1
end
end Go.Proofs.Ytephkbajoofeoaa.Am

