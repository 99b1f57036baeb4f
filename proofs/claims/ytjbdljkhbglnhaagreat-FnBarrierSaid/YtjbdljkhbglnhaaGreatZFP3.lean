/- -/
import Derived.Test.YtjbdljkhbglnhaaGreatZFG8
namespace Go.Proofs.YtjbdljkhbglnhaaGreat.Am
open Go Go.RowKit Go.Proofs.YtjbdljkhbglnhaaGreat
set_option linter.all false
noncomputable section
variable (K:TRes→Prop)
def QcO (t:Int):TRes:=zre (zci t)
def Qgc:TRow:=Qh 43 [(.c (.sl QZ)),(.c TI)] fun x=>(none,QcO (QO x.1 x.2.1))
def Qn2:List TRow:=[]
def QAI:TCode :=
 (zsq [(zsq [(.reg [zmv 6 5,zmv 7 0,zle 8 7,zbi 9 .lss 6 8]),(.cond 9 .skip (.exit 0))]),(.block 1 (zsq [(.reg [zmv 12 0,zmv 13 5,zia 14 12 13 QZ,zfa 15 14 0,zld 16 15 1,zmv 17 1,zbi 18 .eql 16 17]),(.cond 18 (zsq [(.reg [zmv 19 5,zmv 4 19]),.ret]) .skip)])),(.reg [zmv 10 5,zbi 11 .add 10 (zki 1),zmv 5 11])])
def QCt:List (Nat × Md):=zdl [0,1,5]
def QtD:TCode :=
 (zsq [(.reg [zmv 4 (zki (-1))]),.ret])
def QOD:TCode :=
 (zsq [(.reg [zmv 4 (zki 0)]),(zsq [(.reg [zmv 5 (zki 0)]),(.block 0 (.loop QCt QAI))]),QtD])
def QxH:List (ARv × Md):=[(.t 4,.one .d)]
def Qum:Qb:=TQ 0 0 QxH K
def QOj:Qb:=Qseq (tawp Qn2 0 QtD (Qum K)) (Qum K)
def Q1I:Qb:=Qblk 0 (QOj K)
def Qj6 (l:List ZI) (m:Int) (i:Int):Prop:=Loop Qn2 0 QCt QAI (Q1I K) ⟨[(0,(zcs QZ l)),(1,(zci m)),(5,(zci i))],[],0⟩
theorem QwS (l:List ZI) (m:Int) (i:Int) (h :
 (zif (decide (i<(l.length:Int))) (((0:Int)≤i∧Int.toNat i<l.length)∧(zif (((gtd Zu l (Int.toNat i)).1)==m) (K (QcO i)) (Qj6 K l m (w64 (i+(1:Int)))))) (K (QcO (-1:Int))))):Qj6 K l m i :=
 Loop.of (by kernel_rfl) h
theorem Q2k (l:List ZI) (m:Int) (h :
 (Qj6 K l m 0)):Hold (tawp Qn2 (0+0) QOD (TQ 0 0 QxH K) (Qf [(.c (.sl QZ) l),(.c TI m)])) :=
 Hold.of (by kernel_rfl) h
theorem QPH (l:List ZI) (m:Int):TCon Tryz.prog 43 [(.c (.sl QZ) l),(.c TI m)] (QcO (QO l m)):=by
 refine Qo rfl fun hb=>tcg (n:=20) (sg:=Qgc.sg) Qj TOk.nil (by kernel_rfl) (by kernel_rfl) (Q2k _ l m ?_)
 have hl_l:l.length≤9223372036854775807:=hb.1.1
 refine Zk l (fun r k=>JC r m k=QO l m→Qj6 (fun r'=>r'=QcO (QO l m)) l m k) ?_ ?_ rfl
 ·intro he
  refine QwS (fun r'=>r'=QcO (QO l m)) l m _ ⟨fun h=>by simp at h,fun _=>?_⟩
  grind [JC]
 ·intro k x r hk hlt hg ih he
  refine QwS (fun r'=>r'=QcO (QO l m)) l m _ ⟨fun _=>?_,fun h=>by simp at h;omega⟩
  rw [Int.toNat_natCast,hg,Qq (by omega) (by omega)]
  grind [JC]
theorem Qrs:Qg Tryz.prog Qgc:=Qk fun x _=>QPH x.1 x.2.1
def QcM (t:Int):TRes:=zre (zci t)
def Qgl:TRow:=Qh 116 [(.c (.sl QZ)),(.c TI)] fun x=>(none,QcM (QO x.1 x.2.1))
def QrX:List TRow:=[]
def QFl:TCode :=
 (zsq [(.reg [zbi 10 .lss 9 8]),(.cond 10 .skip (.exit 0)),(.block 1 (zsq [(.reg [zmv 11 9,zia 12 7 9 QZ,zLd 13 12 2,zop 6 (.new 76 (z0s QZ)),zmv 5 11,zst 6 13 2]),(.reg [zfa 14 6 0,zld 15 14 1,zmv 16 1,zbi 17 .eql 15 16]),(.cond 17 (zsq [(.reg [zmv 18 5,zmv 4 18]),.ret]) .skip)])),(.reg [zbi 19 .add 9 (zki 1),zmv 9 19])])
def QE8:List (Nat × Md):=zdl [1,7,8,9]
def QBh:TCode :=
 (zsq [(.reg [zmv 4 (zki (-1))]),.ret])
def QO9:TCode :=
 (zsq [(.reg [zmv 4 (zki 0)]),(zsq [(.reg [zmv 7 0,zle 8 7,zmv 9 (zki 0)]),(.block 0 (.loop QE8 QFl))]),QBh])
def Qyu:List (ARv × Md):=[(.t 4,.one .d)]
def QFm:Qb:=TQ 0 0 Qyu K
def QWW:Qb:=Qseq (tawp QrX 0 QBh (QFm K)) (QFm K)
def QMq:Qb:=Qblk 0 (QWW K)
def Qhy (l:List ZI) (m:Int) (x:Int):Prop:=Loop QrX 0 QE8 QFl (QMq K) ⟨[(1,(zci m)),(7,(zcs QZ l)),(8,(zci (l.length:Int))),(9,(zci x))],[],0⟩
theorem QxO (l:List ZI) (m:Int) (x:Int) (h :
 (zif (decide (x<(l.length:Int))) (((0:Int)≤x∧Int.toNat x<l.length)∧(zif (((gtd Zu l (Int.toNat x)).1)==m) (K (QcM x)) (Qhy K l m (w64 (x+(1:Int)))))) (K (QcM (-1:Int))))):Qhy K l m x :=
 Loop.of (by kernel_rfl) h
theorem QHj (l:List ZI) (m:Int) (h :
 (Qhy K l m 0)):Hold (tawp QrX (0+0) QO9 (TQ 0 0 Qyu K) (Qf [(.c (.sl QZ) l),(.c TI m)])) :=
 Hold.of (by kernel_rfl) h
theorem QN7 (l:List ZI) (m:Int):TCon Tryz.prog 116 [(.c (.sl QZ) l),(.c TI m)] (QcM (QO l m)):=by
 refine Qo rfl fun hb=>tcg (n:=20) (sg:=Qgl.sg) Qj TOk.nil (by kernel_rfl) (by kernel_rfl) (QHj _ l m ?_)
 have hl_l:l.length≤9223372036854775807:=hb.1.1
 refine Zk l (fun r k=>JC r m k=QO l m→Qhy (fun r'=>r'=QcM (QO l m)) l m k) ?_ ?_ rfl
 ·intro he
  refine QxO (fun r'=>r'=QcM (QO l m)) l m _ ⟨fun h=>by simp at h,fun _=>?_⟩
  grind [JC]
 ·intro k x r hk hlt hg ih he
  refine QxO (fun r'=>r'=QcM (QO l m)) l m _ ⟨fun _=>?_,fun h=>by simp at h;omega⟩
  rw [Int.toNat_natCast,hg,Qq (by omega) (by omega)]
  grind [JC]
theorem Qqo:Qg Tryz.prog Qgl:=Qk fun x _=>QN7 x.1 x.2.1
end
end Go.Proofs.YtjbdljkhbglnhaaGreat.Am

