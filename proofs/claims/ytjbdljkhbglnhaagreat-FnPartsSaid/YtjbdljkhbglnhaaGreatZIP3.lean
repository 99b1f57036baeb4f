/- -/
import Derived.Test.YtjbdljkhbglnhaaGreatZIG8
namespace Go.Proofs.YtjbdljkhbglnhaaGreat.Am
open Go Go.RowKit Go.Proofs.YtjbdljkhbglnhaaGreat
set_option linter.all false
noncomputable section
variable (K:TRes→Prop)
def Qc1 (t:Int):TRes:=zre (zci t)
def Qfw:TRow:=Qk 43 [(.c (.sl QW)),(.c TI)] fun x=>(none,Qc1 (QL x.1 x.2.1))
def QnY:List TRow:=[]
def QBu:TCode :=
 (zsq [(zsq [(.reg [zmv 6 5,zmv 7 0,zle 8 7,zbi 9 .lss 6 8]),(.cond 9 .skip (.exit 0))]),(.block 1 (zsq [(.reg [zmv 12 0,zmv 13 5,zia 14 12 13 QW,zfa 15 14 0,zld 16 15 1,zmv 17 1,zbi 18 .eql 16 17]),(.cond 18 (zsq [(.reg [zmv 19 5,zmv 4 19]),.ret]) .skip)])),(.reg [zmv 10 5,zbi 11 .add 10 (zki 1),zmv 5 11])])
def Qs6:List (Nat × Md):=zdl [0,1,5]
def QCa:TCode :=
 (zsq [(.reg [zmv 4 (zki (-1))]),.ret])
def QP9:TCode :=
 (zsq [(.reg [zmv 4 (zki 0)]),(zsq [(.reg [zmv 5 (zki 0)]),(.block 0 (.loop Qs6 QBu))]),QCa])
def Qxi:List (ARv × Md):=[(.t 4,.one .d)]
def Qy4:Qb:=TQ 0 0 Qxi K
def QFX:Qb:=Qseq (tawp QnY 0 QCa (Qy4 K)) (Qy4 K)
def QML:Qb:=Qblk 0 (QFX K)
def QgR (l:List ZD) (m:Int) (i:Int):Prop:=Loop QnY 0 Qs6 QBu (QML K) ⟨[(0,(zcs QW l)),(1,(zci m)),(5,(zci i))],[],0⟩
theorem QvP (l:List ZD) (m:Int) (i:Int) (h :
 (zif (decide (i<(l.length:Int))) (((0:Int)≤i∧Int.toNat i<l.length)∧(zif (((gtd Zp l (Int.toNat i)).1)==m) (K (Qc1 i)) (QgR K l m (w64 (i+(1:Int)))))) (K (Qc1 (-1:Int))))):QgR K l m i :=
 Loop.of (by kernel_rfl) h
theorem QJV (l:List ZD) (m:Int) (h :
 (QgR K l m 0)):Hold (tawp QnY (0+0) QP9 (TQ 0 0 Qxi K) (Qi [(.c (.sl QW) l),(.c TI m)])) :=
 Hold.of (by kernel_rfl) h
theorem QUU (l:List ZD) (m:Int):TCon Tryz.prog 43 [(.c (.sl QW) l),(.c TI m)] (Qc1 (QL l m)):=by
 refine Qo rfl fun hb=>tcg (n:=20) (sg:=Qfw.sg) Qm TOk.nil (by kernel_rfl) (by kernel_rfl) (QJV _ l m ?_)
 have hl_l:l.length≤9223372036854775807:=hb.1.1
 refine Zj l (fun r k=>Jz r m k=QL l m→QgR (fun r'=>r'=Qc1 (QL l m)) l m k) ?_ ?_ rfl
 ·intro he
  refine QvP (fun r'=>r'=Qc1 (QL l m)) l m _ ⟨fun h=>by simp at h,fun _=>?_⟩
  grind [Jz]
 ·intro k x r hk hlt hg ih he
  refine QvP (fun r'=>r'=Qc1 (QL l m)) l m _ ⟨fun _=>?_,fun h=>by simp at h;omega⟩
  rw [Int.toNat_natCast,hg,Qp (by omega) (by omega)]
  grind [Jz]
theorem Ql2:Ql Tryz.prog Qfw:=Qn fun x _=>QUU x.1 x.2.1
def Qdi (t:Int):TRes:=zre (zci t)
def QfB:TRow:=Qk 116 [(.c (.sl QW)),(.c TI)] fun x=>(none,Qdi (QL x.1 x.2.1))
def QoF:List TRow:=[]
def QB0:TCode :=
 (zsq [(.reg [zbi 10 .lss 9 8]),(.cond 10 .skip (.exit 0)),(.block 1 (zsq [(.reg [zmv 11 9,zia 12 7 9 QW,zLd 13 12 2,zop 6 (.new 76 (z0s QW)),zmv 5 11,zst 6 13 2]),(.reg [zfa 14 6 0,zld 15 14 1,zmv 16 1,zbi 17 .eql 15 16]),(.cond 17 (zsq [(.reg [zmv 18 5,zmv 4 18]),.ret]) .skip)])),(.reg [zbi 19 .add 9 (zki 1),zmv 9 19])])
def Qwa:List (Nat × Md):=zdl [1,7,8,9]
def Qwn:TCode :=
 (zsq [(.reg [zmv 4 (zki (-1))]),.ret])
def QPN:TCode :=
 (zsq [(.reg [zmv 4 (zki 0)]),(zsq [(.reg [zmv 7 0,zle 8 7,zmv 9 (zki 0)]),(.block 0 (.loop Qwa QB0))]),Qwn])
def QxJ:List (ARv × Md):=[(.t 4,.one .d)]
def Qxn:Qb:=TQ 0 0 QxJ K
def QPJ:Qb:=Qseq (tawp QoF 0 Qwn (Qxn K)) (Qxn K)
def QLi:Qb:=Qblk 0 (QPJ K)
def Qkg (l:List ZD) (m:Int) (x:Int):Prop:=Loop QoF 0 Qwa QB0 (QLi K) ⟨[(1,(zci m)),(7,(zcs QW l)),(8,(zci (l.length:Int))),(9,(zci x))],[],0⟩
theorem QyQ (l:List ZD) (m:Int) (x:Int) (h :
 (zif (decide (x<(l.length:Int))) (((0:Int)≤x∧Int.toNat x<l.length)∧(zif (((gtd Zp l (Int.toNat x)).1)==m) (K (Qdi x)) (Qkg K l m (w64 (x+(1:Int)))))) (K (Qdi (-1:Int))))):Qkg K l m x :=
 Loop.of (by kernel_rfl) h
theorem QJq (l:List ZD) (m:Int) (h :
 (Qkg K l m 0)):Hold (tawp QoF (0+0) QPN (TQ 0 0 QxJ K) (Qi [(.c (.sl QW) l),(.c TI m)])) :=
 Hold.of (by kernel_rfl) h
theorem QKL (l:List ZD) (m:Int):TCon Tryz.prog 116 [(.c (.sl QW) l),(.c TI m)] (Qdi (QL l m)):=by
 refine Qo rfl fun hb=>tcg (n:=20) (sg:=QfB.sg) Qm TOk.nil (by kernel_rfl) (by kernel_rfl) (QJq _ l m ?_)
 have hl_l:l.length≤9223372036854775807:=hb.1.1
 refine Zj l (fun r k=>Jz r m k=QL l m→Qkg (fun r'=>r'=Qdi (QL l m)) l m k) ?_ ?_ rfl
 ·intro he
  refine QyQ (fun r'=>r'=Qdi (QL l m)) l m _ ⟨fun h=>by simp at h,fun _=>?_⟩
  grind [Jz]
 ·intro k x r hk hlt hg ih he
  refine QyQ (fun r'=>r'=Qdi (QL l m)) l m _ ⟨fun _=>?_,fun h=>by simp at h;omega⟩
  rw [Int.toNat_natCast,hg,Qp (by omega) (by omega)]
  grind [Jz]
theorem Qm1:Ql Tryz.prog QfB:=Qn fun x _=>QKL x.1 x.2.1
end
end Go.Proofs.YtjbdljkhbglnhaaGreat.Am

