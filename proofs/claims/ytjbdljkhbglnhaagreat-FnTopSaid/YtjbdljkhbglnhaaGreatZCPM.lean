/- -/
import Derived.Test.YtjbdljkhbglnhaaGreatZCP5
import Derived.Test.YtjbdljkhbglnhaaGreatZCPL
import Derived.Test.YtjbdljkhbglnhaaGreatZCG9
namespace Go.Proofs.YtjbdljkhbglnhaaGreat.Am
open Go Go.RowKit Go.Proofs.YtjbdljkhbglnhaaGreat
set_option linter.all false
noncomputable section
variable (K:TRes→Prop)
def Qea (t:Int):TRes:=zre (zci t)
def QkZ:TRow:=Qf 20 [(.a QV),(.c TI)] fun x=>(none,Qea (Qaz x.1 x.2.1))
def QqJ:List TRow:=[QoO,Qpo]
def QC5:TCode :=
 (zsq [(zsq [(.reg [zmv 7 6,zLd 8 2 6,zca 9 81 [8],zbi 10 .lss 7 9,zmv 11 10,.grp 11 true [zmv 12 6,zfa 13 2 3,zld 14 13 1,zle 15 14,zbi 16 .lss 12 15] 17 16]),(.cond 17 .skip (.exit 0))]),(.block 1 (.draw [zmv 20 5,zfa 21 2 2,zld 22 21 1,zLd 23 2 6,zca 24 81 [23],zmv 25 6,zmv 26 1,zfa 27 2 3,zld 28 27 1,zmv 29 6,zia 30 28 29 [.bool],zld 31 30 1,zca 32 82 [22,24,25,26,31],zle 33 32,zbi 34 .add 20 33,zmv 5 34] [(1,4),(2,4),(4,7),(4,8),(4,10),(4,11)])),(.reg [zmv 18 6,zbi 19 .add 18 (zki 1),zmv 6 19])])
def QrN:List (Nat × Md):=[(1,.one .d),(2,.b (zds 6)),(5,.one .d),(6,.one .d)]
def QBz:TCode :=
 (zsq [(.reg [zmv 35 5,zmv 4 35]),.ret])
def QPb:TCode :=
 (zsq [(.reg [zop 2 (.box 30 0 6),zmv 4 (zki 0)]),(.reg [zmv 5 (zki 0)]),(zsq [(.reg [zmv 6 (zki 0)]),(.block 0 (.loop QrN QC5))]),QBz])
def Quh:List (ARv × Md):=[(.t 4,.one .d)]
def Qxe:Qb:=TQ 0 0 Quh K
def QQN:Qb:=Qseq (tawp QqJ 0 QBz (Qxe K)) (Qxe K)
def QVA:Qb:=Qblk 0 (QQN K)
def QkD (c:Qo) (micro:Int) (n:Int) (s:Int):Prop:=Loop QqJ 0 QrN QC5 (QVA K) ⟨[(1,(zci micro)),(2,(.p 0 0 0)),(5,(zci n)),(6,(zci s))],[(0,(.box (Tup.cells QV c)))],1⟩
theorem QyE (c:Qo) (micro:Int) (n:Int) (s:Int) (h :
 (zif ((decide (s<(QO c)))&&(decide (s<((c.2.2.2.1).length:Int)))) (((0:Int)≤s∧Int.toNat s<(c.2.2.2.1).length)∧(QkD K c micro (w64 (n+(((ZE c.2.2.1 (QO c) s micro (gtd (false:Bool) c.2.2.2.1 (Int.toNat s))).length:Nat):Int))) (w64 (s+(1:Int))))) (K (Qea n)))):QkD K c micro n s :=
 Loop.of (by kernel_rfl) h
theorem QLN (c:Qo) (micro:Int) (h :
 (QkD K c micro 0 0)):Hold (tawp QqJ (0+0) QPb (TQ 0 0 Quh K) (Qd [(.a (Tup.cells QV c)),(.c TI micro)])) :=
 Hold.of (by kernel_rfl) h
theorem QRD (c:Qo) (micro:Int):TCon Tryz.prog 20 [(.a (Tup.cells QV c)),(.c TI micro)] (Qea (Qaz c micro)):=by
 refine Qj rfl fun hb=>tcg (n:=36) (sg:=QkZ.sg) Qg (TOk.cons QOd (TOk.cons QYj TOk.nil)) (by kernel_rfl) (by kernel_rfl) (QLN _ c micro ?_)
 have hl_c_0:(c.1).length≤9223372036854775807:=hb.1.1.1
 have hl_c_1:(c.2.1).length≤9223372036854775807:=hb.1.2.1.1
 have hl_c_3:(c.2.2.2.1).length≤9223372036854775807:=hb.1.2.2.2.1.1
 have hl_c_4:(c.2.2.2.2.1).length≤9223372036854775807:=hb.1.2.2.2.2.1.1
 have hl_c_5:(c.2.2.2.2.2).length≤9223372036854775807:=hb.1.2.2.2.2.2.1.1
 have hs:=QbW (c:=c)
 refine Jb (min c.2.2.2.1.length (QO c).toNat) (fun k=>QkD (fun r'=>r'=Qea (Qaz c micro)) c micro (Qbh c micro k) k) ?_ ?_
 ·refine QyE (fun r'=>r'=Qea (Qaz c micro)) c micro _ _ ⟨fun h=>by simp at h;omega,fun _=>R_eq rfl⟩
 ·intro k hk ih
  have h1:=Qx1 c micro k
  have h2:=QhC c.2.2.1 (QO c) k micro (gtd false c.2.2.2.1 k)
  refine QyE (fun r'=>r'=Qea (Qaz c micro)) c micro _ _ ⟨fun _=>?_,fun h=>by simp at h;omega⟩
  rw [Int.toNat_natCast,sc1 (by omega),Qq (by omega) (by omega)]
  exact ⟨⟨by omega,by omega⟩,ih⟩
theorem QH2:Qe Tryz.prog QkZ:=Qh fun x _=>QRD x.1 x.2.1
end
end Go.Proofs.YtjbdljkhbglnhaaGreat.Am

