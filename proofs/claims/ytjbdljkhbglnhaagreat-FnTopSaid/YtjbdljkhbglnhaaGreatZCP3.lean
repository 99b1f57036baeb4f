/- -/
import Derived.Test.YtjbdljkhbglnhaaGreatZCG8
namespace Go.Proofs.YtjbdljkhbglnhaaGreat.Am
open Go Go.RowKit Go.Proofs.YtjbdljkhbglnhaaGreat
set_option linter.all false
noncomputable section
variable (K:TRes→Prop)
def Qc4 (t:Int):TRes:=zre (zci t)
def QfF:TRow:=Qf 116 [(.c (.sl ZM)),(.c TI)] fun x=>(none,Qc4 (QX x.1 x.2.1))
def QlV:List TRow:=[]
def QBf:TCode :=
 (zsq [(.reg [zbi 10 .lss 9 8]),(.cond 10 .skip (.exit 0)),(.block 1 (zsq [(.reg [zmv 11 9,zia 12 7 9 ZM,zLd 13 12 2,zop 6 (.new 76 (z0s ZM)),zmv 5 11,zst 6 13 2]),(.reg [zfa 14 6 0,zld 15 14 1,zmv 16 1,zbi 17 .eql 15 16]),(.cond 17 (zsq [(.reg [zmv 18 5,zmv 4 18]),.ret]) .skip)])),(.reg [zbi 19 .add 9 (zki 1),zmv 9 19])])
def QAM:List (Nat × Md):=zdl [1,7,8,9]
def QAU:TCode :=
 (zsq [(.reg [zmv 4 (zki (-1))]),.ret])
def QWD:TCode :=
 (zsq [(.reg [zmv 4 (zki 0)]),(zsq [(.reg [zmv 7 0,zle 8 7,zmv 9 (zki 0)]),(.block 0 (.loop QAM QBf))]),QAU])
def Qzn:List (ARv × Md):=[(.t 4,.one .d)]
def QDM:Qb:=TQ 0 0 Qzn K
def QSE:Qb:=Qseq (tawp QlV 0 QAU (QDM K)) (QDM K)
def QG7:Qb:=Qblk 0 (QSE K)
def QgN (l:List Ys) (m:Int) (x:Int):Prop:=Loop QlV 0 QAM QBf (QG7 K) ⟨[(1,(zci m)),(7,(zcs ZM l)),(8,(zci (l.length:Int))),(9,(zci x))],[],0⟩
theorem QAZ (l:List Ys) (m:Int) (x:Int) (h :
 (zif (decide (x<(l.length:Int))) (((0:Int)≤x∧Int.toNat x<l.length)∧(zif (((gtd YO l (Int.toNat x)).1)==m) (K (Qc4 x)) (QgN K l m (w64 (x+(1:Int)))))) (K (Qc4 (-1:Int))))):QgN K l m x :=
 Loop.of (by kernel_rfl) h
theorem QJM (l:List Ys) (m:Int) (h :
 (QgN K l m 0)):Hold (tawp QlV (0+0) QWD (TQ 0 0 Qzn K) (Qd [(.c (.sl ZM) l),(.c TI m)])) :=
 Hold.of (by kernel_rfl) h
theorem QUt (l:List Ys) (m:Int):TCon Tryz.prog 116 [(.c (.sl ZM) l),(.c TI m)] (Qc4 (QX l m)):=by
 refine Qj rfl fun hb=>tcg (n:=20) (sg:=QfF.sg) Qg TOk.nil (by kernel_rfl) (by kernel_rfl) (QJM _ l m ?_)
 have hl_l:l.length≤9223372036854775807:=hb.1.1
 refine Zp l (fun r k=>J3 r m k=QX l m→QgN (fun r'=>r'=Qc4 (QX l m)) l m k) ?_ ?_ rfl
 ·intro he
  refine QAZ (fun r'=>r'=Qc4 (QX l m)) l m _ ⟨fun h=>by simp at h,fun _=>?_⟩
  grind [J3]
 ·intro k x r hk hlt hg ih he
  refine QAZ (fun r'=>r'=Qc4 (QX l m)) l m _ ⟨fun _=>?_,fun h=>by simp at h;omega⟩
  rw [Int.toNat_natCast,hg,Qq (by omega) (by omega)]
  grind [J3]
theorem Qol:Qe Tryz.prog QfF:=Qh fun x _=>QUt x.1 x.2.1
end
end Go.Proofs.YtjbdljkhbglnhaaGreat.Am

