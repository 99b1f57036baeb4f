/- -/
import Derived.Test.YtjbdljkhbglnhaaGreatZGG8
namespace Go.Proofs.YtjbdljkhbglnhaaGreat.Am
open Go Go.RowKit Go.Proofs.YtjbdljkhbglnhaaGreat
set_option linter.all false
noncomputable section
variable (K:TRes→Prop)
def Qc1 (t:Int):TRes:=zre (zci t)
def Qfq:TRow:=Qi 116 [(.c (.sl ZA)),(.c TI)] fun x=>(none,Qc1 (QT x.1 x.2.1))
def QlG:List TRow:=[]
def Qol:TCode :=
 (zsq [(.reg [zbi 10 .lss 9 8]),(.cond 10 .skip (.exit 0)),(.block 1 (zsq [(.reg [zmv 11 9,zia 12 7 9 ZA,zLd 13 12 2,zop 6 (.new 76 (z0s ZA)),zmv 5 11,zst 6 13 2]),(.reg [zfa 14 6 0,zld 15 14 1,zmv 16 1,zbi 17 .eql 15 16]),(.cond 17 (zsq [(.reg [zmv 18 5,zmv 4 18]),.ret]) .skip)])),(.reg [zbi 19 .add 9 (zki 1),zmv 9 19])])
def Qr3:List (Nat × Md):=zdl [1,7,8,9]
def Qqq:TCode :=
 (zsq [(.reg [zmv 4 (zki (-1))]),.ret])
def QCx:TCode :=
 (zsq [(.reg [zmv 4 (zki 0)]),(zsq [(.reg [zmv 7 0,zle 8 7,zmv 9 (zki 0)]),(.block 0 (.loop Qr3 Qol))]),Qqq])
def Qv4:List (ARv × Md):=[(.t 4,.one .d)]
def Qrl:Qb:=TQ 0 0 Qv4 K
def QNL:Qb:=Qseq (tawp QlG 0 Qqq (Qrl K)) (Qrl K)
def QGO:Qb:=Qblk 0 (QNL K)
def QhA (l:List Yj) (m:Int) (x:Int):Prop:=Loop QlG 0 Qr3 Qol (QGO K) ⟨[(1,(zci m)),(7,(zcs ZA l)),(8,(zci (l.length:Int))),(9,(zci x))],[],0⟩
theorem QpG (l:List Yj) (m:Int) (x:Int) (h :
 (zif (decide (x<(l.length:Int))) (((0:Int)≤x∧Int.toNat x<l.length)∧(zif (((gtd ZR l (Int.toNat x)).1)==m) (K (Qc1 x)) (QhA K l m (w64 (x+(1:Int)))))) (K (Qc1 (-1:Int))))):QhA K l m x :=
 Loop.of (by kernel_rfl) h
theorem QHN (l:List Yj) (m:Int) (h :
 (QhA K l m 0)):Hold (tawp QlG (0+0) QCx (TQ 0 0 Qv4 K) (Qf [(.c (.sl ZA) l),(.c TI m)])) :=
 Hold.of (by kernel_rfl) h
theorem QIJ (l:List Yj) (m:Int):TCon Tryz.prog 116 [(.c (.sl ZA) l),(.c TI m)] (Qc1 (QT l m)):=by
 refine Qr rfl fun hb=>tcg (n:=20) (sg:=Qfq.sg) Qk TOk.nil (by kernel_rfl) (by kernel_rfl) (QHN _ l m ?_)
 have hl_l:l.length≤9223372036854775807:=hb.1.1
 refine Zz l (fun r k=>JP r m k=QT l m→QhA (fun r'=>r'=Qc1 (QT l m)) l m k) ?_ ?_ rfl
 ·intro he
  refine QpG (fun r'=>r'=Qc1 (QT l m)) l m _ ⟨fun h=>by simp at h,fun _=>?_⟩
  grind [JP]
 ·intro k x r hk hlt hg ih he
  refine QpG (fun r'=>r'=Qc1 (QT l m)) l m _ ⟨fun _=>?_,fun h=>by simp at h;omega⟩
  rw [Int.toNat_natCast,hg,Qp (by omega) (by omega)]
  grind [JP]
theorem Qmo:Qj Tryz.prog Qfq:=Ql fun x _=>QIJ x.1 x.2.1
end
end Go.Proofs.YtjbdljkhbglnhaaGreat.Am

