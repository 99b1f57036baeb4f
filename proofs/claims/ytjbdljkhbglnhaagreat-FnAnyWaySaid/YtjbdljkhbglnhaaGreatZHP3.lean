/- -/
import Derived.Test.YtjbdljkhbglnhaaGreatZHG8
namespace Go.Proofs.YtjbdljkhbglnhaaGreat.Am
open Go Go.RowKit Go.Proofs.YtjbdljkhbglnhaaGreat
set_option linter.all false
noncomputable section
variable (K:TRes→Prop)
def QcV (t:Int):TRes:=zre (zci t)
def QeB:TRow:=Qg 116 [(.c (.sl ZA)),(.c TI)] fun x=>(none,QcV (QR x.1 x.2.1))
def Qji:List TRow:=[]
def Qzv:TCode :=
 (zsq [(.reg [zbi 10 .lss 9 8]),(.cond 10 .skip (.exit 0)),(.block 1 (zsq [(.reg [zmv 11 9,zia 12 7 9 ZA,zLd 13 12 2,zop 6 (.new 76 (z0s ZA)),zmv 5 11,zst 6 13 2]),(.reg [zfa 14 6 0,zld 15 14 1,zmv 16 1,zbi 17 .eql 15 16]),(.cond 17 (zsq [(.reg [zmv 18 5,zmv 4 18]),.ret]) .skip)])),(.reg [zbi 19 .add 9 (zki 1),zmv 9 19])])
def Que:List (Nat × Md):=zdl [1,7,8,9]
def Qqc:TCode :=
 (zsq [(.reg [zmv 4 (zki (-1))]),.ret])
def QOr:TCode :=
 (zsq [(.reg [zmv 4 (zki 0)]),(zsq [(.reg [zmv 7 0,zle 8 7,zmv 9 (zki 0)]),(.block 0 (.loop Que Qzv))]),Qqc])
def Qsv:List (ARv × Md):=[(.t 4,.one .d)]
def Qvt:Qb:=TQ 0 0 Qsv K
def QMg:Qb:=Qseq (tawp Qji 0 Qqc (Qvt K)) (Qvt K)
def QRx:Qb:=Qblk 0 (QMg K)
def QgU (l:List Yi) (m:Int) (x:Int):Prop:=Loop Qji 0 Que Qzv (QRx K) ⟨[(1,(zci m)),(7,(zcs ZA l)),(8,(zci (l.length:Int))),(9,(zci x))],[],0⟩
theorem Qoy (l:List Yi) (m:Int) (x:Int) (h :
 (zif (decide (x<(l.length:Int))) (((0:Int)≤x∧Int.toNat x<l.length)∧(zif (((gtd YC l (Int.toNat x)).1)==m) (K (QcV x)) (QgU K l m (w64 (x+(1:Int)))))) (K (QcV (-1:Int))))):QgU K l m x :=
 Loop.of (by kernel_rfl) h
theorem QAp (l:List Yi) (m:Int) (h :
 (QgU K l m 0)):Hold (tawp Qji (0+0) QOr (TQ 0 0 Qsv K) (Qf [(.c (.sl ZA) l),(.c TI m)])) :=
 Hold.of (by kernel_rfl) h
theorem QKd (l:List Yi) (m:Int):TCon Tryz.prog 116 [(.c (.sl ZA) l),(.c TI m)] (QcV (QR l m)):=by
 refine Qq rfl fun hb=>tcg (n:=20) (sg:=QeB.sg) Qj TOk.nil (by kernel_rfl) (by kernel_rfl) (QAp _ l m ?_)
 have hl_l:l.length≤9223372036854775807:=hb.1.1
 refine ZL l (fun r k=>J4 r m k=QR l m→QgU (fun r'=>r'=QcV (QR l m)) l m k) ?_ ?_ rfl
 ·intro he
  refine Qoy (fun r'=>r'=QcV (QR l m)) l m _ ⟨fun h=>by simp at h,fun _=>?_⟩
  grind [J4]
 ·intro k x r hk hlt hg ih he
  refine Qoy (fun r'=>r'=QcV (QR l m)) l m _ ⟨fun _=>?_,fun h=>by simp at h;omega⟩
  rw [Int.toNat_natCast,hg,Qo (by omega) (by omega)]
  grind [J4]
theorem QmC:Qh Tryz.prog QeB:=Qk fun x _=>QKd x.1 x.2.1
end
end Go.Proofs.YtjbdljkhbglnhaaGreat.Am

