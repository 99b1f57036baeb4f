/- -/
import Derived.Test.YtephkbajoofeoaaWAG8
namespace Go.Proofs.Ytephkbajoofeoaa.Am
open Go Go.RowKit Go.Proofs.Ytephkbajoofeoaa
set_option linter.all false
noncomputable section
variable (K:TRes→Prop)
def QcM (t:Bool):TRes:=zre (zcb t)
def YM:TRow:=Qm 102 [(.c TI),(.c TI),(.c TI)] fun x=>(none,QcM (m_in x.1 x.2.1 x.2.2.1))
def Qh0:TTab:=⟨[],false⟩
def QkW:TCode :=
 (zsq [(.reg [zmv 6 (zkb false)]),(.reg [zmv 7 0,zmv 8 1,zbi 9 .geq 7 8,zmv 10 9,.grp 10 true [zmv 11 0,zmv 12 2,zbi 13 .leq 11 12] 14 13,zmv 6 14]),.ret])
def Qni:List (ARv × Md):=[(.t 6,.one .d)]
theorem Qnv (x:Int) (low:Int) (high:Int) (h :
 K (QcM ((decide (x≥low))&&(decide (x≤high))))):Hold (tawp Qh0 (0+0) QkW (TQ 0 0 Qni K) (Qk [(.c TI x),(.c TI low),(.c TI high)])) :=
 Hold.of (by kernel_rfl) h
theorem Qjo (x:Int) (low:Int) (high:Int):TCon Try.prog 102 [(.c TI x),(.c TI low),(.c TI high)] (QcM (m_in x low high)):=by
 refine Qp rfl fun hb=>tcg (Γ:=Qh0) (n:=15) (sg:=YM.sg) Qr TOkL.nil (by kernel_rfl) (by kernel_rfl) (Qnv _ x low high ?_)
 exact R_eq rfl
theorem QaW:Qo Try.prog YM:=Qu fun x _=>Qjo x.1 x.2.1 x.2.2.1
def Qbv (t:Bool):TRes:=zre (zcb t)
def Qc9:TRow:=Qm 122 [(.c TI)] fun x=>(none,Qbv (Zn x.1))
def QhI:TTab:=⟨[YM],false⟩
def QiU:TCode :=
 (zsq [(.reg [zmv 2 (zkb false)]),(.reg [zmv 3 0,zca 4 102 [3,(zki (-2147483647)),(zki 2147483647)],zmv 2 4]),.ret])
def QmO:List (ARv × Md):=[(.t 2,.one .d)]
theorem Qm8 (x:Int) (h :
 K (Qbv (m_in x (-2147483647:Int) (2147483647:Int)))):Hold (tawp QhI (0+0) QiU (TQ 0 0 QmO K) (Qk [(.c TI x)])) :=
 Hold.of (by kernel_rfl) h
theorem Qi1 (x:Int):TCon Try.prog 122 [(.c TI x)] (Qbv (Zn x)):=by
 refine Qp rfl fun hb=>tcg (Γ:=QhI) (n:=5) (sg:=Qc9.sg) Qr (TOkL.cons QaW TOkL.nil) (by kernel_rfl) (by kernel_rfl) (Qm8 _ x ?_)
 exact R_eq rfl
theorem QnV:Qo Try.prog Qc9:=Qu fun x _=>Qi1 x.1
def QbR (t:Bool):TRes:=zre (zcb t)
def Qb1:TRow:=Qm 206 [(.c TI)] fun x=>(none,QbR (Zn x.1))
def Qf9:TTab:=⟨[],false⟩
def Qjk:TCode :=
 (zsq [(.reg [zmv 2 (zkb false)]),(.reg [zmv 3 0,zbi 4 .geq 3 (zki (-2147483647)),zmv 5 4,.grp 5 true [zmv 6 0,zbi 7 .leq 6 (zki 2147483647)] 8 7,zmv 2 8]),.ret])
def Qj3:List (ARv × Md):=[(.t 2,.one .d)]
theorem QjM (x:Int) (h :
 K (QbR ((decide (x≥(-2147483647:Int)))&&(decide (x≤(2147483647:Int)))))):Hold (tawp Qf9 (0+0) Qjk (TQ 0 0 Qj3 K) (Qk [(.c TI x)])) :=
 Hold.of (by kernel_rfl) h
theorem Qkg (x:Int):TCon Try.prog 206 [(.c TI x)] (QbR (Zn x)):=by
 refine Qp rfl fun hb=>tcg (Γ:=Qf9) (n:=9) (sg:=Qb1.sg) Qr TOkL.nil (by kernel_rfl) (by kernel_rfl) (QjM _ x ?_)
 exact R_eq rfl
theorem Qik:Qo Try.prog Qb1:=Qu fun x _=>Qkg x.1
def YK (t:Bool):TRes:=zre (zcb t)
def QcC:TRow:=Qm 190 [(.c (.sl [TI]))] fun x=>(none,YK (ZP x.1))
def JS:TTab:=⟨[Qb1],false⟩
def QhR:TCode :=
 (zsq [(.reg [zbi 8 .lss 7 6]),(.cond 8 .skip (.exit 0)),(.block 1 (zsq [(.reg [zia 9 5 7 [TI],zld 10 9 1,zmv 4 10]),(.reg [zmv 11 4,zca 12 206 [11],zno 13 12]),(.cond 13 (zsq [(.reg [zmv 2 (zkb false)]),.ret]) .skip)])),(.reg [zbi 14 .add 7 (zki 1),zmv 7 14])])
def QhY:List (Nat × Md):=zdl [5,6,7]
def QeM:TCode :=
 (zsq [(.reg [zmv 2 (zkb true)]),.ret])
def Qno:TCode :=
 (zsq [(.reg [zmv 2 (zkb false)]),(zsq [(.reg [zmv 5 0,zle 6 5,zmv 7 (zki 0)]),(.block 0 (.loop QhY QhR))]),QeM])
def QeR:List (ARv × Md):=[(.t 2,.one .d)]
def QgK:Qi:=TQ 0 0 QeR K
def Qk1:Qi:=Qseq (tawp JS 0 QeM (QgK K)) (QgK K)
def QiL:Qi:=Qblk 0 (Qk1 K)
def QcR (v:List Int) (x:Int):Prop:=Loop JS 0 QhY QhR (QiL K) ⟨[(5,(zcs [TI] v)),(6,(zci (v.length:Int))),(7,(zci x))],[],0⟩
theorem Qls (v:List Int) (x:Int) (h :
 (zif (decide (x<(v.length:Int))) (((0:Int)≤x∧Int.toNat x<v.length)∧(zif (!(Zn (gtd (0:Int) v (Int.toNat x)))) (K (YK false)) (QcR K v (w64 (x+(1:Int)))))) (K (YK true)))):QcR K v x :=
 Loop.of (by kernel_rfl) h
theorem Qnz (v:List Int) (h :
 (QcR K v 0)):Hold (tawp JS (0+0) Qno (TQ 0 0 QeR K) (Qk [(.c (.sl [TI]) v)])) :=
 Hold.of (by kernel_rfl) h
theorem QkG (v:List Int):TCon Try.prog 190 [(.c (.sl [TI]) v)] (YK (ZP v)):=by
 refine Qp rfl fun hb=>tcg (Γ:=JS) (n:=15) (sg:=QcC.sg) Qr (TOkL.cons Qik TOkL.nil) (by kernel_rfl) (by kernel_rfl) (Qnz _ v ?_)
 have hl_v:v.length≤9223372036854775807:=hb.1.1
 exact QbA (Q:=fun x=>YK x=YK (ZP v)) (p:=Zn) (c:=fun x=>!(Zn x)) 0 hl_v (fun _=>rfl) (fun i h=>Qls _ v i h) (R_eq (by simp [ZP]))
theorem Qlf:Qo Try.prog QcC:=Qu fun x _=>QkG x.1
def Yw (t:Bool):TRes:=zre (zcb t)
def Qaz:TRow:=Qm 31 [(.c (.sl [TI]))] fun x=>(none,Yw (Q6 x.1))
def QaU:TTab:=⟨[Qc9,YM],false⟩
def QdX:TCode :=
 (zsq [(zsq [(.reg [zmv 4 3,zmv 5 0,zle 6 5,zbi 7 .lss 4 6]),(.cond 7 .skip (.exit 0))]),(.block 1 (zsq [(.reg [zmv 10 0,zmv 11 3,zia 12 10 11 [TI],zld 13 12 1,zca 14 122 [13],zno 15 14]),(.cond 15 (zsq [(.reg [zmv 2 (zkb false)]),.ret]) .skip)])),(.reg [zmv 8 3,zbi 9 .add 8 (zki 1),zmv 3 9])])
def QfJ:List (Nat × Md):=zdl [0,3]
def QgH:TCode :=
 (zsq [(.reg [zmv 16 0,zle 17 16,zca 18 102 [17,(zki 1),(zki 6)],zmv 2 18]),.ret])
def Qnd:TCode :=
 (zsq [(.reg [zmv 2 (zkb false)]),(zsq [(.reg [zmv 3 (zki 0)]),(.block 0 (.loop QfJ QdX))]),QgH])
def QgB:List (ARv × Md):=[(.t 2,.one .d)]
def QdC:Qi:=TQ 0 0 QgB K
def Qnw:Qi:=Qseq (tawp QaU 0 QgH (QdC K)) (QdC K)
def Qj6:Qi:=Qblk 0 (Qnw K)
def QbQ (v:List Int) (i:Int):Prop:=Loop QaU 0 QfJ QdX (Qj6 K) ⟨[(0,(zcs [TI] v)),(3,(zci i))],[],0⟩
theorem QkX (v:List Int) (i:Int) (h :
 (zif (decide (i<(v.length:Int))) (((0:Int)≤i∧Int.toNat i<v.length)∧(zif (!(Zn (gtd (0:Int) v (Int.toNat i)))) (K (Yw false)) (QbQ K v (w64 (i+(1:Int)))))) (K (Yw (m_in (v.length:Int) (1:Int) (6:Int)))))):QbQ K v i :=
 Loop.of (by kernel_rfl) h
theorem Qky (v:List Int) (h :
 (QbQ K v 0)):Hold (tawp QaU (0+0) Qnd (TQ 0 0 QgB K) (Qk [(.c (.sl [TI]) v)])) :=
 Hold.of (by kernel_rfl) h
theorem Qju (v:List Int):TCon Try.prog 31 [(.c (.sl [TI]) v)] (Yw (Q6 v)):=by
 refine Qp rfl fun hb=>tcg (Γ:=QaU) (n:=19) (sg:=Qaz.sg) Qr (TOkL.cons QnV (TOkL.cons QaW TOkL.nil)) (by kernel_rfl) (by kernel_rfl) (Qky _ v ?_)
 have hl_v:v.length≤9223372036854775807:=hb.1.1
 exact QbA (Q:=fun x=>Yw x=Yw (Q6 v)) (p:=Zn) (c:=fun x=>!(Zn x)) 0 hl_v (fun _=>rfl) (fun i h=>QkX _ v i h) (R_eq (by grind [Q6,ZP]))
theorem Qed:Qo Try.prog Qaz:=Qu fun x _=>Qju x.1
def Qc8 (t:Bool):TRes:=zre (zcb t)
def Qbu:TRow:=Qm 185 [(.c (.sl [TI]))] fun x=>(none,Qc8 (Q6 x.1))
def QdO:TTab:=⟨[QcC],false⟩
def QkD:TCode :=
 (zsq [(.reg [zmv 2 (zkb false)]),(.reg [zmv 3 0,zle 4 3,zbi 5 .geq 4 (zki 1),zmv 6 5,.grp 6 true [zmv 7 0,zle 8 7,zbi 9 .leq 8 (zki 6)] 10 9,zmv 11 10,.grp 11 true [zmv 12 0,zca 13 190 [12]] 14 13,zmv 2 14]),.ret])
def QlZ:List (ARv × Md):=[(.t 2,.one .d)]
theorem Ql6 (v:List Int) (h :
 K (Qc8 (((decide ((v.length:Int)≥(1:Int)))&&(decide ((v.length:Int)≤(6:Int))))&&(ZP v)))):Hold (tawp QdO (0+0) QkD (TQ 0 0 QlZ K) (Qk [(.c (.sl [TI]) v)])) :=
 Hold.of (by kernel_rfl) h
theorem Qms (v:List Int):TCon Try.prog 185 [(.c (.sl [TI]) v)] (Qc8 (Q6 v)):=by
 refine Qp rfl fun hb=>tcg (Γ:=QdO) (n:=15) (sg:=Qbu.sg) Qr (TOkL.cons Qlf TOkL.nil) (by kernel_rfl) (by kernel_rfl) (Ql6 _ v ?_)
 have hl_v:v.length≤9223372036854775807:=hb.1.1
 exact R_eq (by grind [Q6,m_in])
theorem QmI:Qo Try.prog Qbu:=Qu fun x _=>Qms x.1
end
end Go.Proofs.Ytephkbajoofeoaa.Am

