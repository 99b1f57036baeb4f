/- -/
import Derived.Test.YtjbdljkhbglnhaaGreatZDG8
namespace Go.Proofs.YtjbdljkhbglnhaaGreat.Am
open Go Go.RowKit Go.Proofs.YtjbdljkhbglnhaaGreat
set_option linter.all false
noncomputable section
variable (K:TRes→Prop)
def QcW (t:Int):TRes:=zre (zci t)
def Qgx:TRow:=Qj 43 [(.c (.sl QX)),(.c TI)] fun x=>(none,QcW (QL x.1 x.2.1))
def Qlh:List TRow:=[]
def Qyo:TCode :=
 (zsq [(zsq [(.reg [zmv 6 5,zmv 7 0,zle 8 7,zbi 9 .lss 6 8]),(.cond 9 .skip (.exit 0))]),(.block 1 (zsq [(.reg [zmv 12 0,zmv 13 5,zia 14 12 13 QX,zfa 15 14 0,zld 16 15 1,zmv 17 1,zbi 18 .eql 16 17]),(.cond 18 (zsq [(.reg [zmv 19 5,zmv 4 19]),.ret]) .skip)])),(.reg [zmv 10 5,zbi 11 .add 10 (zki 1),zmv 5 11])])
def Qye:List (Nat × Md):=zdl [0,1,5]
def QrN:TCode :=
 (zsq [(.reg [zmv 4 (zki (-1))]),.ret])
def QSI:TCode :=
 (zsq [(.reg [zmv 4 (zki 0)]),(zsq [(.reg [zmv 5 (zki 0)]),(.block 0 (.loop Qye Qyo))]),QrN])
def QDi:List (ARv × Md):=[(.t 4,.one .d)]
def Qs8:Qb:=TQ 0 0 QDi K
def QIZ:Qb:=Qseq (tawp Qlh 0 QrN (Qs8 K)) (Qs8 K)
def QQn:Qb:=Qblk 0 (QIZ K)
def Qje (l:List ZF) (m:Int) (i:Int):Prop:=Loop Qlh 0 Qye Qyo (QQn K) ⟨[(0,(zcs QX l)),(1,(zci m)),(5,(zci i))],[],0⟩
theorem QCE (l:List ZF) (m:Int) (i:Int) (h :
 (zif (decide (i<(l.length:Int))) (((0:Int)≤i∧Int.toNat i<l.length)∧(zif (((gtd Zs l (Int.toNat i)).1)==m) (K (QcW i)) (Qje K l m (w64 (i+(1:Int)))))) (K (QcW (-1:Int))))):Qje K l m i :=
 Loop.of (by kernel_rfl) h
theorem QM7 (l:List ZF) (m:Int) (h :
 (Qje K l m 0)):Hold (tawp Qlh (0+0) QSI (TQ 0 0 QDi K) (Qh [(.c (.sl QX) l),(.c TI m)])) :=
 Hold.of (by kernel_rfl) h
theorem QYz (l:List ZF) (m:Int):TCon Tryz.prog 43 [(.c (.sl QX) l),(.c TI m)] (QcW (QL l m)):=by
 refine Qo rfl fun hb=>tcg (n:=20) (sg:=Qgx.sg) Ql TOk.nil (by kernel_rfl) (by kernel_rfl) (QM7 _ l m ?_)
 have hl_l:l.length≤9223372036854775807:=hb.1.1
 refine Zj l (fun r k=>Jx r m k=QL l m→Qje (fun r'=>r'=QcW (QL l m)) l m k) ?_ ?_ rfl
 ·intro he
  refine QCE (fun r'=>r'=QcW (QL l m)) l m _ ⟨fun h=>by simp at h,fun _=>?_⟩
  grind [Jx]
 ·intro k x r hk hlt hg ih he
  refine QCE (fun r'=>r'=QcW (QL l m)) l m _ ⟨fun _=>?_,fun h=>by simp at h;omega⟩
  rw [Int.toNat_natCast,hg,Qt (by omega) (by omega)]
  grind [Jx]
theorem QlN:Qi Tryz.prog Qgx:=Qm fun x _=>QYz x.1 x.2.1
def Qdj (t:Int):TRes:=zre (zci t)
def Qf9:TRow:=Qj 116 [(.c (.sl QX)),(.c TI)] fun x=>(none,Qdj (QL x.1 x.2.1))
def Qns:List TRow:=[]
def Qwz:TCode :=
 (zsq [(.reg [zbi 10 .lss 9 8]),(.cond 10 .skip (.exit 0)),(.block 1 (zsq [(.reg [zmv 11 9,zia 12 7 9 QX,zLd 13 12 2,zop 6 (.new 76 (z0s QX)),zmv 5 11,zst 6 13 2]),(.reg [zfa 14 6 0,zld 15 14 1,zmv 16 1,zbi 17 .eql 15 16]),(.cond 17 (zsq [(.reg [zmv 18 5,zmv 4 18]),.ret]) .skip)])),(.reg [zbi 19 .add 9 (zki 1),zmv 9 19])])
def Qwa:List (Nat × Md):=zdl [1,7,8,9]
def QD2:TCode :=
 (zsq [(.reg [zmv 4 (zki (-1))]),.ret])
def QJA:TCode :=
 (zsq [(.reg [zmv 4 (zki 0)]),(zsq [(.reg [zmv 7 0,zle 8 7,zmv 9 (zki 0)]),(.block 0 (.loop Qwa Qwz))]),QD2])
def QuF:List (ARv × Md):=[(.t 4,.one .d)]
def Qw8:Qb:=TQ 0 0 QuF K
def QLD:Qb:=Qseq (tawp Qns 0 QD2 (Qw8 K)) (Qw8 K)
def QNl:Qb:=Qblk 0 (QLD K)
def Qku (l:List ZF) (m:Int) (x:Int):Prop:=Loop Qns 0 Qwa Qwz (QNl K) ⟨[(1,(zci m)),(7,(zcs QX l)),(8,(zci (l.length:Int))),(9,(zci x))],[],0⟩
theorem Qtb (l:List ZF) (m:Int) (x:Int) (h :
 (zif (decide (x<(l.length:Int))) (((0:Int)≤x∧Int.toNat x<l.length)∧(zif (((gtd Zs l (Int.toNat x)).1)==m) (K (Qdj x)) (Qku K l m (w64 (x+(1:Int)))))) (K (Qdj (-1:Int))))):Qku K l m x :=
 Loop.of (by kernel_rfl) h
theorem QXd (l:List ZF) (m:Int) (h :
 (Qku K l m 0)):Hold (tawp Qns (0+0) QJA (TQ 0 0 QuF K) (Qh [(.c (.sl QX) l),(.c TI m)])) :=
 Hold.of (by kernel_rfl) h
theorem QPk (l:List ZF) (m:Int):TCon Tryz.prog 116 [(.c (.sl QX) l),(.c TI m)] (Qdj (QL l m)):=by
 refine Qo rfl fun hb=>tcg (n:=20) (sg:=Qf9.sg) Ql TOk.nil (by kernel_rfl) (by kernel_rfl) (QXd _ l m ?_)
 have hl_l:l.length≤9223372036854775807:=hb.1.1
 refine Zj l (fun r k=>Jx r m k=QL l m→Qku (fun r'=>r'=Qdj (QL l m)) l m k) ?_ ?_ rfl
 ·intro he
  refine Qtb (fun r'=>r'=Qdj (QL l m)) l m _ ⟨fun h=>by simp at h,fun _=>?_⟩
  grind [Jx]
 ·intro k x r hk hlt hg ih he
  refine Qtb (fun r'=>r'=Qdj (QL l m)) l m _ ⟨fun _=>?_,fun h=>by simp at h;omega⟩
  rw [Int.toNat_natCast,hg,Qt (by omega) (by omega)]
  grind [Jx]
theorem QlY:Qi Tryz.prog Qf9:=Qm fun x _=>QPk x.1 x.2.1
end
end Go.Proofs.YtjbdljkhbglnhaaGreat.Am

