/- -/
import Derived.Test.YtephkbajoofeoaaWDG8
namespace Go.Proofs.Ytephkbajoofeoaa.Am
open Go Go.RowKit Go.Proofs.Ytephkbajoofeoaa
set_option linter.all false
noncomputable section
variable (K:TRes→Prop)
def Qd4 (t:Bool):TRes:=zre (zcb t)
def Zx:TRow:=Qj 102 [(.c TI),(.c TI),(.c TI)] fun x=>(none,Qd4 (m_in x.1 x.2.1 x.2.2.1))
def QgO:TTab:=⟨[],false⟩
def Qmb:TCode :=
 (zsq [(.reg [zmv 6 (zkb false)]),(.reg [zmv 7 0,zmv 8 1,zbi 9 .geq 7 8,zmv 10 9,.grp 10 true [zmv 11 0,zmv 12 2,zbi 13 .leq 11 12] 14 13,zmv 6 14]),.ret])
def Ql2:List (ARv × Md):=[(.t 6,.one .d)]
theorem QoB (x:Int) (low:Int) (high:Int) (h :
 K (Qd4 ((decide (x≥low))&&(decide (x≤high))))):Hold (tawp QgO (0+0) Qmb (TQ 0 0 Ql2 K) (Qh [(.c TI x),(.c TI low),(.c TI high)])) :=
 Hold.of (by kernel_rfl) h
theorem QpX (x:Int) (low:Int) (high:Int):TCon Try.prog 102 [(.c TI x),(.c TI low),(.c TI high)] (Qd4 (m_in x low high)):=by
 refine Ql rfl fun hb=>tcg (Γ:=QgO) (n:=15) (sg:=Zx.sg) Qm TOkL.nil (by kernel_rfl) (by kernel_rfl) (QoB _ x low high ?_)
 exact R_eq rfl
theorem Yp:Qi Try.prog Zx:=Qn fun x _=>QpX x.1 x.2.1 x.2.2.1
def QdT (t:Bool):TRes:=zre (zcb t)
def QcM:TRow:=Qj 122 [(.c TI)] fun x=>(none,QdT (Zd x.1))
def QhH:TTab:=⟨[Zx],false⟩
def QrC:TCode :=
 (zsq [(.reg [zmv 2 (zkb false)]),(.reg [zmv 3 0,zca 4 102 [3,(zki (-2147483647)),(zki 2147483647)],zmv 2 4]),.ret])
def Qpv:List (ARv × Md):=[(.t 2,.one .d)]
theorem QrO (x:Int) (h :
 K (QdT (m_in x (-2147483647:Int) (2147483647:Int)))):Hold (tawp QhH (0+0) QrC (TQ 0 0 Qpv K) (Qh [(.c TI x)])) :=
 Hold.of (by kernel_rfl) h
theorem QnJ (x:Int):TCon Try.prog 122 [(.c TI x)] (QdT (Zd x)):=by
 refine Ql rfl fun hb=>tcg (Γ:=QhH) (n:=5) (sg:=QcM.sg) Qm (TOkL.cons Yp TOkL.nil) (by kernel_rfl) (by kernel_rfl) (QrO _ x ?_)
 exact R_eq rfl
theorem QqD:Qi Try.prog QcM:=Qn fun x _=>QnJ x.1
def Qc1 (t:Bool):TRes:=zre (zcb t)
def QeA:TRow:=Qj 206 [(.c TI)] fun x=>(none,Qc1 (Zd x.1))
def Qjd:TTab:=⟨[],false⟩
def QmP:TCode :=
 (zsq [(.reg [zmv 2 (zkb false)]),(.reg [zmv 3 0,zbi 4 .geq 3 (zki (-2147483647)),zmv 5 4,.grp 5 true [zmv 6 0,zbi 7 .leq 6 (zki 2147483647)] 8 7,zmv 2 8]),.ret])
def QlZ:List (ARv × Md):=[(.t 2,.one .d)]
theorem QnR (x:Int) (h :
 K (Qc1 ((decide (x≥(-2147483647:Int)))&&(decide (x≤(2147483647:Int)))))):Hold (tawp Qjd (0+0) QmP (TQ 0 0 QlZ K) (Qh [(.c TI x)])) :=
 Hold.of (by kernel_rfl) h
theorem Qpp (x:Int):TCon Try.prog 206 [(.c TI x)] (Qc1 (Zd x)):=by
 refine Ql rfl fun hb=>tcg (Γ:=Qjd) (n:=9) (sg:=QeA.sg) Qm TOkL.nil (by kernel_rfl) (by kernel_rfl) (QnR _ x ?_)
 exact R_eq rfl
theorem Qsz:Qi Try.prog QeA:=Qn fun x _=>Qpp x.1
def JE (t:Bool):TRes:=zre (zcb t)
def QdJ:TRow:=Qj 190 [(.c (.sl [TI]))] fun x=>(none,JE (ZR x.1))
def QaX:TTab:=⟨[QeA],false⟩
def Qgp:TCode :=
 (zsq [(.reg [zbi 8 .lss 7 6]),(.cond 8 .skip (.exit 0)),(.block 1 (zsq [(.reg [zia 9 5 7 [TI],zld 10 9 1,zmv 4 10]),(.reg [zmv 11 4,zca 12 206 [11],zno 13 12]),(.cond 13 (zsq [(.reg [zmv 2 (zkb false)]),.ret]) .skip)])),(.reg [zbi 14 .add 7 (zki 1),zmv 7 14])])
def QfI:List (Nat × Md):=zdl [5,6,7]
def QhX:TCode :=
 (zsq [(.reg [zmv 2 (zkb true)]),.ret])
def Qm8:TCode :=
 (zsq [(.reg [zmv 2 (zkb false)]),(zsq [(.reg [zmv 5 0,zle 6 5,zmv 7 (zki 0)]),(.block 0 (.loop QfI Qgp))]),QhX])
def Qlg:List (ARv × Md):=[(.t 2,.one .d)]
def Qkk:Qc:=TQ 0 0 Qlg K
def Qnl:Qc:=Qseq (tawp QaX 0 QhX (Qkk K)) (Qkk K)
def Qn9:Qc:=Qblk 0 (Qnl K)
def QeU (v:List Int) (x:Int):Prop:=Loop QaX 0 QfI Qgp (Qn9 K) ⟨[(5,(zcs [TI] v)),(6,(zci (v.length:Int))),(7,(zci x))],[],0⟩
theorem QnM (v:List Int) (x:Int) (h :
 (zif (decide (x<(v.length:Int))) (((0:Int)≤x∧Int.toNat x<v.length)∧(zif (!(Zd (gtd (0:Int) v (Int.toNat x)))) (K (JE false)) (QeU K v (w64 (x+(1:Int)))))) (K (JE true)))):QeU K v x :=
 Loop.of (by kernel_rfl) h
theorem QmQ (v:List Int) (h :
 (QeU K v 0)):Hold (tawp QaX (0+0) Qm8 (TQ 0 0 Qlg K) (Qh [(.c (.sl [TI]) v)])) :=
 Hold.of (by kernel_rfl) h
theorem Qqd (v:List Int):TCon Try.prog 190 [(.c (.sl [TI]) v)] (JE (ZR v)):=by
 refine Ql rfl fun hb=>tcg (Γ:=QaX) (n:=15) (sg:=QdJ.sg) Qm (TOkL.cons Qsz TOkL.nil) (by kernel_rfl) (by kernel_rfl) (QmQ _ v ?_)
 have hl_v:v.length≤9223372036854775807:=hb.1.1
 exact Qjo (Q:=fun x=>JE x=JE (ZR v)) (p:=Zd) (c:=fun x=>!(Zd x)) 0 hl_v (fun _=>rfl) (fun i h=>QnM _ v i h) (R_eq (by simp [ZR]))
theorem Qoa:Qi Try.prog QdJ:=Qn fun x _=>Qqd x.1
end
end Go.Proofs.Ytephkbajoofeoaa.Am

