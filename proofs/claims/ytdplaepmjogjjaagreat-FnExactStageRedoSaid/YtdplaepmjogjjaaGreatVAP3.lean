/- -/
import Derived.Test.YtdplaepmjogjjaaGreatVAG8
namespace Go.Proofs.YtdplaepmjogjjaaGreat.Am
open Go Go.RowKit Go.Proofs.YtdplaepmjogjjaaGreat
set_option linter.all false
noncomputable section
variable (K:TRes→Prop)
def Qak (t:Int):TRes:=zre (zci t)
def QgR:TRow:=Qh 62 [(.c (.sl Ql)),(.c TI)] fun x=>(none,Qak (QR x.1 x.2.1))
def QeQ:TTab:=⟨[],false⟩
def Qk1:TCode :=
 (zsq [(zsq [(.reg [zmv 6 5,zmv 7 0,zle 8 7,zbi 9 .lss 6 8]),(.cond 9 .skip (.exit 0))]),(.block 1 (zsq [(.reg [zmv 12 0,zmv 13 5,zia 14 12 13 Ql,zfa 15 14 0,zld 16 15 1,zmv 17 1,zbi 18 .eql 16 17]),(.cond 18 (zsq [(.reg [zmv 19 5,zmv 4 19]),.ret]) .skip)])),(.reg [zmv 10 5,zbi 11 .add 10 (zki 1),zmv 5 11])])
def QmI:List (Nat × Md):=zdl [0,1,5]
def QoV:TCode :=
 (zsq [(.reg [zmv 4 (zki (-1))]),.ret])
def QBA:TCode :=
 (zsq [(.reg [zmv 4 (zki 0)]),(zsq [(.reg [zmv 5 (zki 0)]),(.block 0 (.loop QmI Qk1))]),QoV])
def Qq9:List (ARv × Md):=[(.t 4,.one .d)]
def Qny:Qb:=TQ 0 0 Qq9 K
def Qv5:Qb:=Qseq (tawp QeQ 0 QoV (Qny K)) (Qny K)
def Qt5:Qb:=Qblk 0 (Qv5 K)
def Qek (l:List Qd) (m:Int) (i:Int):Prop:=Loop QeQ 0 QmI Qk1 (Qt5 K) ⟨[(0,(zcs Ql l)),(1,(zci m)),(5,(zci i))],[],0⟩
theorem QlP (l:List Qd) (m:Int) (i:Int) (h :
 (zif (decide (i<(l.length:Int))) (((0:Int)≤i∧Int.toNat i<l.length)∧(zif (((gtd Qu l (Int.toNat i)).1)==m) (K (Qak i)) (Qek K l m (w64 (i+(1:Int)))))) (K (Qak (-1:Int))))):Qek K l m i :=
 Loop.of (by kernel_rfl) h
theorem Qv8 (l:List Qd) (m:Int) (h :
 (Qek K l m 0)):Hold (tawp QeQ (0+0) QBA (TQ 0 0 Qq9 K) (Qf [(.c (.sl Ql) l),(.c TI m)])) :=
 Hold.of (by kernel_rfl) h
theorem QxT (l:List Qd) (m:Int):TCon Tryz.prog 62 [(.c (.sl Ql) l),(.c TI m)] (Qak (QR l m)):=by
 refine Qj rfl fun hb=>tcg (Γ:=QeQ) (n:=20) (sg:=QgR.sg) Qi TOkL.nil (by kernel_rfl) (by kernel_rfl) (Qv8 _ l m ?_)
 have hl_l:l.length≤9223372036854775807:=hb.1.1
 refine Zj l (fun r k=>Yk r m k=QR l m→Qek (fun r'=>r'=Qak (QR l m)) l m k) ?_ ?_ rfl
 ·intro he
  refine QlP (fun r'=>r'=Qak (QR l m)) l m _ ⟨fun h=>by simp at h,fun _=>?_⟩
  grind [Yk]
 ·intro k x r hk hlt hg ih he
  refine QlP (fun r'=>r'=Qak (QR l m)) l m _ ⟨fun _=>?_,fun h=>by simp at h;omega⟩
  rw [Int.toNat_natCast,hg,Qv (by omega) (by omega)]
  grind [Yk]
theorem QCF:Qg Tryz.prog QgR:=Qk fun x _=>QxT x.1 x.2.1
def QaC (t:Int):TRes:=zre (zci t)
def QjG:TRow:=Qh 71 [(.c (.sl Ql)),(.c TI)] fun x=>(none,QaC (QR x.1 x.2.1))
def Qd2:TTab:=⟨[],false⟩
def QlD:TCode :=
 (zsq [(.reg [zbi 10 .lss 9 8]),(.cond 10 .skip (.exit 0)),(.block 1 (zsq [(.reg [zmv 11 9,zia 12 7 9 Ql,zLd 13 12 2,zop 6 (.new 108 (z0s Ql)),zmv 5 11,zst 6 13 2]),(.reg [zfa 14 6 0,zld 15 14 1,zmv 16 1,zbi 17 .eql 15 16]),(.cond 17 (zsq [(.reg [zmv 18 5,zmv 4 18]),.ret]) .skip)])),(.reg [zbi 19 .add 9 (zki 1),zmv 9 19])])
def QrC:List (Nat × Md):=zdl [1,7,8,9]
def Qtb:TCode :=
 (zsq [(.reg [zmv 4 (zki (-1))]),.ret])
def QDd:TCode :=
 (zsq [(.reg [zmv 4 (zki 0)]),(zsq [(.reg [zmv 7 0,zle 8 7,zmv 9 (zki 0)]),(.block 0 (.loop QrC QlD))]),Qtb])
def Qsh:List (ARv × Md):=[(.t 4,.one .d)]
def QrX:Qb:=TQ 0 0 Qsh K
def QFQ:Qb:=Qseq (tawp Qd2 0 Qtb (QrX K)) (QrX K)
def Qyr:Qb:=Qblk 0 (QFQ K)
def QcY (l:List Qd) (m:Int) (x:Int):Prop:=Loop Qd2 0 QrC QlD (Qyr K) ⟨[(1,(zci m)),(7,(zcs Ql l)),(8,(zci (l.length:Int))),(9,(zci x))],[],0⟩
theorem Qov (l:List Qd) (m:Int) (x:Int) (h :
 (zif (decide (x<(l.length:Int))) (((0:Int)≤x∧Int.toNat x<l.length)∧(zif (((gtd Qu l (Int.toNat x)).1)==m) (K (QaC x)) (QcY K l m (w64 (x+(1:Int)))))) (K (QaC (-1:Int))))):QcY K l m x :=
 Loop.of (by kernel_rfl) h
theorem QGV (l:List Qd) (m:Int) (h :
 (QcY K l m 0)):Hold (tawp Qd2 (0+0) QDd (TQ 0 0 Qsh K) (Qf [(.c (.sl Ql) l),(.c TI m)])) :=
 Hold.of (by kernel_rfl) h
theorem QvS (l:List Qd) (m:Int):TCon Tryz.prog 71 [(.c (.sl Ql) l),(.c TI m)] (QaC (QR l m)):=by
 refine Qj rfl fun hb=>tcg (Γ:=Qd2) (n:=20) (sg:=QjG.sg) Qi TOkL.nil (by kernel_rfl) (by kernel_rfl) (QGV _ l m ?_)
 have hl_l:l.length≤9223372036854775807:=hb.1.1
 refine Zj l (fun r k=>Yk r m k=QR l m→QcY (fun r'=>r'=QaC (QR l m)) l m k) ?_ ?_ rfl
 ·intro he
  refine Qov (fun r'=>r'=QaC (QR l m)) l m _ ⟨fun h=>by simp at h,fun _=>?_⟩
  grind [Yk]
 ·intro k x r hk hlt hg ih he
  refine Qov (fun r'=>r'=QaC (QR l m)) l m _ ⟨fun _=>?_,fun h=>by simp at h;omega⟩
  rw [Int.toNat_natCast,hg,Qv (by omega) (by omega)]
  grind [Yk]
theorem Qup:Qg Tryz.prog QjG:=Qk fun x _=>QvS x.1 x.2.1
end
end Go.Proofs.YtdplaepmjogjjaaGreat.Am

