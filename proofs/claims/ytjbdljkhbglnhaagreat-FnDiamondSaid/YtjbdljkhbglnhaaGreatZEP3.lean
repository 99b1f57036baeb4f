/- -/
import Derived.Test.YtjbdljkhbglnhaaGreatZEG8
namespace Go.Proofs.YtjbdljkhbglnhaaGreat.Am
open Go Go.RowKit Go.Proofs.YtjbdljkhbglnhaaGreat
set_option linter.all false
noncomputable section
variable (K:TRes→Prop)
def Qdv (t:Int):TRes:=zre (zci t)
def Qgb:TRow:=Qk 43 [(.c (.sl QX)),(.c TI)] fun x=>(none,Qdv (QL x.1 x.2.1))
def Qpp:List TRow:=[]
def Qzw:TCode :=
 (zsq [(zsq [(.reg [zmv 6 5,zmv 7 0,zle 8 7,zbi 9 .lss 6 8]),(.cond 9 .skip (.exit 0))]),(.block 1 (zsq [(.reg [zmv 12 0,zmv 13 5,zia 14 12 13 QX,zfa 15 14 0,zld 16 15 1,zmv 17 1,zbi 18 .eql 16 17]),(.cond 18 (zsq [(.reg [zmv 19 5,zmv 4 19]),.ret]) .skip)])),(.reg [zmv 10 5,zbi 11 .add 10 (zki 1),zmv 5 11])])
def QBR:List (Nat × Md):=zdl [0,1,5]
def Qx2:TCode :=
 (zsq [(.reg [zmv 4 (zki (-1))]),.ret])
def QOl:TCode :=
 (zsq [(.reg [zmv 4 (zki 0)]),(zsq [(.reg [zmv 5 (zki 0)]),(.block 0 (.loop QBR Qzw))]),Qx2])
def QrZ:List (ARv × Md):=[(.t 4,.one .d)]
def Qxw:Qb:=TQ 0 0 QrZ K
def QWq:Qb:=Qseq (tawp Qpp 0 Qx2 (Qxw K)) (Qxw K)
def QUd:Qb:=Qblk 0 (QWq K)
def Qhj (l:List ZG) (m:Int) (i:Int):Prop:=Loop Qpp 0 QBR Qzw (QUd K) ⟨[(0,(zcs QX l)),(1,(zci m)),(5,(zci i))],[],0⟩
theorem Qy0 (l:List ZG) (m:Int) (i:Int) (h :
 (zif (decide (i<(l.length:Int))) (((0:Int)≤i∧Int.toNat i<l.length)∧(zif (((gtd Zu l (Int.toNat i)).1)==m) (K (Qdv i)) (Qhj K l m (w64 (i+(1:Int)))))) (K (Qdv (-1:Int))))):Qhj K l m i :=
 Loop.of (by kernel_rfl) h
theorem QMd (l:List ZG) (m:Int) (h :
 (Qhj K l m 0)):Hold (tawp Qpp (0+0) QOl (TQ 0 0 QrZ K) (Qg [(.c (.sl QX) l),(.c TI m)])) :=
 Hold.of (by kernel_rfl) h
theorem QXo (l:List ZG) (m:Int):TCon Tryz.prog 43 [(.c (.sl QX) l),(.c TI m)] (Qdv (QL l m)):=by
 refine Qo rfl fun hb=>tcg (n:=20) (sg:=Qgb.sg) Qm TOk.nil (by kernel_rfl) (by kernel_rfl) (QMd _ l m ?_)
 have hl_l:l.length≤9223372036854775807:=hb.1.1
 refine Zp l (fun r k=>Jw r m k=QL l m→Qhj (fun r'=>r'=Qdv (QL l m)) l m k) ?_ ?_ rfl
 ·intro he
  refine Qy0 (fun r'=>r'=Qdv (QL l m)) l m _ ⟨fun h=>by simp at h,fun _=>?_⟩
  grind [Jw]
 ·intro k x r hk hlt hg ih he
  refine Qy0 (fun r'=>r'=Qdv (QL l m)) l m _ ⟨fun _=>?_,fun h=>by simp at h;omega⟩
  rw [Int.toNat_natCast,hg,Qr (by omega) (by omega)]
  grind [Jw]
theorem Qmr:Qj Tryz.prog Qgb:=Qn fun x _=>QXo x.1 x.2.1
def Qdl (t:Int):TRes:=zre (zci t)
def Qgr:TRow:=Qk 116 [(.c (.sl QX)),(.c TI)] fun x=>(none,Qdl (QL x.1 x.2.1))
def Ql4:List TRow:=[]
def QEv:TCode :=
 (zsq [(.reg [zbi 10 .lss 9 8]),(.cond 10 .skip (.exit 0)),(.block 1 (zsq [(.reg [zmv 11 9,zia 12 7 9 QX,zLd 13 12 2,zop 6 (.new 76 (z0s QX)),zmv 5 11,zst 6 13 2]),(.reg [zfa 14 6 0,zld 15 14 1,zmv 16 1,zbi 17 .eql 15 16]),(.cond 17 (zsq [(.reg [zmv 18 5,zmv 4 18]),.ret]) .skip)])),(.reg [zbi 19 .add 9 (zki 1),zmv 9 19])])
def Qt8:List (Nat × Md):=zdl [1,7,8,9]
def Quc:TCode :=
 (zsq [(.reg [zmv 4 (zki (-1))]),.ret])
def QWr:TCode :=
 (zsq [(.reg [zmv 4 (zki 0)]),(zsq [(.reg [zmv 7 0,zle 8 7,zmv 9 (zki 0)]),(.block 0 (.loop Qt8 QEv))]),Quc])
def QBw:List (ARv × Md):=[(.t 4,.one .d)]
def Qx0:Qb:=TQ 0 0 QBw K
def QPf:Qb:=Qseq (tawp Ql4 0 Quc (Qx0 K)) (Qx0 K)
def QJK:Qb:=Qblk 0 (QPf K)
def Qi4 (l:List ZG) (m:Int) (x:Int):Prop:=Loop Ql4 0 Qt8 QEv (QJK K) ⟨[(1,(zci m)),(7,(zcs QX l)),(8,(zci (l.length:Int))),(9,(zci x))],[],0⟩
theorem QwT (l:List ZG) (m:Int) (x:Int) (h :
 (zif (decide (x<(l.length:Int))) (((0:Int)≤x∧Int.toNat x<l.length)∧(zif (((gtd Zu l (Int.toNat x)).1)==m) (K (Qdl x)) (Qi4 K l m (w64 (x+(1:Int)))))) (K (Qdl (-1:Int))))):Qi4 K l m x :=
 Loop.of (by kernel_rfl) h
theorem QMa (l:List ZG) (m:Int) (h :
 (Qi4 K l m 0)):Hold (tawp Ql4 (0+0) QWr (TQ 0 0 QBw K) (Qg [(.c (.sl QX) l),(.c TI m)])) :=
 Hold.of (by kernel_rfl) h
theorem QWD (l:List ZG) (m:Int):TCon Tryz.prog 116 [(.c (.sl QX) l),(.c TI m)] (Qdl (QL l m)):=by
 refine Qo rfl fun hb=>tcg (n:=20) (sg:=Qgr.sg) Qm TOk.nil (by kernel_rfl) (by kernel_rfl) (QMa _ l m ?_)
 have hl_l:l.length≤9223372036854775807:=hb.1.1
 refine Zp l (fun r k=>Jw r m k=QL l m→Qi4 (fun r'=>r'=Qdl (QL l m)) l m k) ?_ ?_ rfl
 ·intro he
  refine QwT (fun r'=>r'=Qdl (QL l m)) l m _ ⟨fun h=>by simp at h,fun _=>?_⟩
  grind [Jw]
 ·intro k x r hk hlt hg ih he
  refine QwT (fun r'=>r'=Qdl (QL l m)) l m _ ⟨fun _=>?_,fun h=>by simp at h;omega⟩
  rw [Int.toNat_natCast,hg,Qr (by omega) (by omega)]
  grind [Jw]
theorem QkQ:Qj Tryz.prog Qgr:=Qn fun x _=>QWD x.1 x.2.1
end
end Go.Proofs.YtjbdljkhbglnhaaGreat.Am

