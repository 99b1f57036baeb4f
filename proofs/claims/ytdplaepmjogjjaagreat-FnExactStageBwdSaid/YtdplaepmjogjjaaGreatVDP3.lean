/- -/
import Derived.Test.YtdplaepmjogjjaaGreatVDG8
namespace Go.Proofs.YtdplaepmjogjjaaGreat.Am
open Go Go.RowKit Go.Proofs.YtdplaepmjogjjaaGreat
set_option linter.all false
noncomputable section
variable (K:TRes→Prop)
def QaF (t:Int):TRes:=zre (zci t)
def QjX:TRow:=Qg 62 [(.c (.sl Ql)),(.c TI)] fun x=>(none,QaF (Qr x.1 x.2.1))
def QfC:TTab:=⟨[],false⟩
def Qoj:TCode :=
 (zsq [(zsq [(.reg [zmv 6 5,zmv 7 0,zle 8 7,zbi 9 .lss 6 8]),(.cond 9 .skip (.exit 0))]),(.block 1 (zsq [(.reg [zmv 12 0,zmv 13 5,zia 14 12 13 Ql,zfa 15 14 0,zld 16 15 1,zmv 17 1,zbi 18 .eql 16 17]),(.cond 18 (zsq [(.reg [zmv 19 5,zmv 4 19]),.ret]) .skip)])),(.reg [zmv 10 5,zbi 11 .add 10 (zki 1),zmv 5 11])])
def Qsp:List (Nat × Md):=zdl [0,1,5]
def Qun:TCode :=
 (zsq [(.reg [zmv 4 (zki (-1))]),.ret])
def QGD:TCode :=
 (zsq [(.reg [zmv 4 (zki 0)]),(zsq [(.reg [zmv 5 (zki 0)]),(.block 0 (.loop Qsp Qoj))]),Qun])
def QpM:List (ARv × Md):=[(.t 4,.one .d)]
def Qvd:Qb:=TQ 0 0 QpM K
def QIq:Qb:=Qseq (tawp QfC 0 Qun (Qvd K)) (Qvd K)
def QCu:Qb:=Qblk 0 (QIq K)
def Qgv (l:List Qe) (m:Int) (i:Int):Prop:=Loop QfC 0 Qsp Qoj (QCu K) ⟨[(0,(zcs Ql l)),(1,(zci m)),(5,(zci i))],[],0⟩
theorem QlO (l:List Qe) (m:Int) (i:Int) (h :
 (zif (decide (i<(l.length:Int))) (((0:Int)≤i∧Int.toNat i<l.length)∧(zif (((gtd Qw l (Int.toNat i)).1)==m) (K (QaF i)) (Qgv K l m (w64 (i+(1:Int)))))) (K (QaF (-1:Int))))):Qgv K l m i :=
 Loop.of (by kernel_rfl) h
theorem QC3 (l:List Qe) (m:Int) (h :
 (Qgv K l m 0)):Hold (tawp QfC (0+0) QGD (TQ 0 0 QpM K) (Qd [(.c (.sl Ql) l),(.c TI m)])) :=
 Hold.of (by kernel_rfl) h
theorem QDK (l:List Qe) (m:Int):TCon Tryz.prog 62 [(.c (.sl Ql) l),(.c TI m)] (QaF (Qr l m)):=by
 refine Qh rfl fun hb=>tcg (Γ:=QfC) (n:=20) (sg:=QjX.sg) Qi TOkL.nil (by kernel_rfl) (by kernel_rfl) (QC3 _ l m ?_)
 have hl_l:l.length≤9223372036854775807:=hb.1.1
 refine Za l (fun r k=>Yw r m k=Qr l m→Qgv (fun r'=>r'=QaF (Qr l m)) l m k) ?_ ?_ rfl
 ·intro he
  refine QlO (fun r'=>r'=QaF (Qr l m)) l m _ ⟨fun h=>by simp at h,fun _=>?_⟩
  grind [Yw]
 ·intro k x r hk hlt hg ih he
  refine QlO (fun r'=>r'=QaF (Qr l m)) l m _ ⟨fun _=>?_,fun h=>by simp at h;omega⟩
  rw [Int.toNat_natCast,hg,Qx (by omega) (by omega)]
  grind [Yw]
theorem QFN:Qf Tryz.prog QjX:=Qj fun x _=>QDK x.1 x.2.1
def QaB (t:Int):TRes:=zre (zci t)
def Qkn:TRow:=Qg 71 [(.c (.sl Ql)),(.c TI)] fun x=>(none,QaB (Qr x.1 x.2.1))
def QeA:TTab:=⟨[],false⟩
def Qn8:TCode :=
 (zsq [(.reg [zbi 10 .lss 9 8]),(.cond 10 .skip (.exit 0)),(.block 1 (zsq [(.reg [zmv 11 9,zia 12 7 9 Ql,zLd 13 12 2,zop 6 (.new 108 (z0s Ql)),zmv 5 11,zst 6 13 2]),(.reg [zfa 14 6 0,zld 15 14 1,zmv 16 1,zbi 17 .eql 15 16]),(.cond 17 (zsq [(.reg [zmv 18 5,zmv 4 18]),.ret]) .skip)])),(.reg [zbi 19 .add 9 (zki 1),zmv 9 19])])
def Qqi:List (Nat × Md):=zdl [1,7,8,9]
def Qos:TCode :=
 (zsq [(.reg [zmv 4 (zki (-1))]),.ret])
def QwH:TCode :=
 (zsq [(.reg [zmv 4 (zki 0)]),(zsq [(.reg [zmv 7 0,zle 8 7,zmv 9 (zki 0)]),(.block 0 (.loop Qqi Qn8))]),Qos])
def Qlw:List (ARv × Md):=[(.t 4,.one .d)]
def QtG:Qb:=TQ 0 0 Qlw K
def QKf:Qb:=Qseq (tawp QeA 0 Qos (QtG K)) (QtG K)
def QCM:Qb:=Qblk 0 (QKf K)
def Qe1 (l:List Qe) (m:Int) (x:Int):Prop:=Loop QeA 0 Qqi Qn8 (QCM K) ⟨[(1,(zci m)),(7,(zcs Ql l)),(8,(zci (l.length:Int))),(9,(zci x))],[],0⟩
theorem Qob (l:List Qe) (m:Int) (x:Int) (h :
 (zif (decide (x<(l.length:Int))) (((0:Int)≤x∧Int.toNat x<l.length)∧(zif (((gtd Qw l (Int.toNat x)).1)==m) (K (QaB x)) (Qe1 K l m (w64 (x+(1:Int)))))) (K (QaB (-1:Int))))):Qe1 K l m x :=
 Loop.of (by kernel_rfl) h
theorem QAA (l:List Qe) (m:Int) (h :
 (Qe1 K l m 0)):Hold (tawp QeA (0+0) QwH (TQ 0 0 Qlw K) (Qd [(.c (.sl Ql) l),(.c TI m)])) :=
 Hold.of (by kernel_rfl) h
theorem Qwm (l:List Qe) (m:Int):TCon Tryz.prog 71 [(.c (.sl Ql) l),(.c TI m)] (QaB (Qr l m)):=by
 refine Qh rfl fun hb=>tcg (Γ:=QeA) (n:=20) (sg:=Qkn.sg) Qi TOkL.nil (by kernel_rfl) (by kernel_rfl) (QAA _ l m ?_)
 have hl_l:l.length≤9223372036854775807:=hb.1.1
 refine Za l (fun r k=>Yw r m k=Qr l m→Qe1 (fun r'=>r'=QaB (Qr l m)) l m k) ?_ ?_ rfl
 ·intro he
  refine Qob (fun r'=>r'=QaB (Qr l m)) l m _ ⟨fun h=>by simp at h,fun _=>?_⟩
  grind [Yw]
 ·intro k x r hk hlt hg ih he
  refine Qob (fun r'=>r'=QaB (Qr l m)) l m _ ⟨fun _=>?_,fun h=>by simp at h;omega⟩
  rw [Int.toNat_natCast,hg,Qx (by omega) (by omega)]
  grind [Yw]
theorem Qw9:Qf Tryz.prog Qkn:=Qj fun x _=>Qwm x.1 x.2.1
end
end Go.Proofs.YtdplaepmjogjjaaGreat.Am

