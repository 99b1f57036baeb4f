/- -/
import Derived.Test.YtjbdljkhbglnhaaGreatZAP5
import Derived.Test.YtjbdljkhbglnhaaGreatZAPL
import Derived.Test.YtjbdljkhbglnhaaGreatZAG9
namespace Go.Proofs.YtjbdljkhbglnhaaGreat.Am
open Go Go.RowKit Go.Proofs.YtjbdljkhbglnhaaGreat
set_option linter.all false
noncomputable section
variable (K:TRes→Prop)
def Qd7 (t:Int):TRes:=zre (zci t)
def Qjf:TRow:=Qj 60 [(.a QU),(.c TI)] fun x=>(none,Qd7 (Qab x.1 x.2.1))
def Qng:List TRow:=[Qcj,Qis]
def QAr:TCode :=
 (zsq [(zsq [(.reg [zmv 7 6,zfa 8 2 3,zld 9 8 1,zle 10 9,zbi 11 .lss 7 10,zmv 12 11,.grp 12 true [zmv 13 6,zLd 14 2 6,zca 15 59 [14],zbi 16 .lss 13 15] 17 16]),(.cond 17 .skip (.exit 0))]),(.block 1 (.draw [zmv 20 5,zfa 21 2 2,zld 22 21 1,zLd 23 2 6,zca 24 59 [23],zmv 25 6,zmv 26 1,zfa 27 2 3,zld 28 27 1,zmv 29 6,zia 30 28 29 [.bool],zld 31 30 1,zca 32 72 [22,24,25,26,31],zle 33 32,zbi 34 .add 20 33,zmv 5 34] [(1,4),(2,4),(4,7),(4,8),(4,10),(4,11)])),(.reg [zmv 18 6,zbi 19 .add 18 (zki 1),zmv 6 19])])
def Qzf:List (Nat × Md):=[(1,.one .d),(2,.b (zds 6)),(5,.one .d),(6,.one .d)]
def Qw3:TCode :=
 (zsq [(.reg [zmv 35 5,zmv 4 35]),.ret])
def QOE:TCode :=
 (zsq [(.reg [zop 2 (.box 30 0 6),zmv 4 (zki 0)]),(.reg [zmv 5 (zki 0)]),(zsq [(.reg [zmv 6 (zki 0)]),(.block 0 (.loop Qzf QAr))]),Qw3])
def QzH:List (ARv × Md):=[(.t 4,.one .d)]
def Qsv:Qb:=TQ 0 0 QzH K
def QLZ:Qb:=Qseq (tawp Qng 0 Qw3 (Qsv K)) (Qsv K)
def QB0:Qb:=Qblk 0 (QLZ K)
def Qgj (c:Qo) (micro:Int) (n:Int) (s:Int):Prop:=Loop Qng 0 Qzf QAr (QB0 K) ⟨[(1,(zci micro)),(2,(.p 0 0 0)),(5,(zci n)),(6,(zci s))],[(0,(.box (Tup.cells QU c)))],1⟩
theorem Qzj (c:Qo) (micro:Int) (n:Int) (s:Int) (h :
 (zif ((decide (s<((c.2.2.2.1).length:Int)))&&(decide (s<(QK c)))) (((0:Int)≤s∧Int.toNat s<(c.2.2.2.1).length)∧(Qgj K c micro (w64 (n+(((ZW c.2.2.1 (QK c) s micro (gtd (false:Bool) c.2.2.2.1 (Int.toNat s))).length:Nat):Int))) (w64 (s+(1:Int))))) (K (Qd7 n)))):Qgj K c micro n s :=
 Loop.of (by kernel_rfl) h
theorem QPR (c:Qo) (micro:Int) (h :
 (Qgj K c micro 0 0)):Hold (tawp Qng (0+0) QOE (TQ 0 0 QzH K) (Qf [(.a (Tup.cells QU c)),(.c TI micro)])) :=
 Hold.of (by kernel_rfl) h
theorem QI5 (c:Qo) (micro:Int):TCon Tryz.prog 60 [(.a (Tup.cells QU c)),(.c TI micro)] (Qd7 (Qab c micro)):=by
 refine Qq rfl fun hb=>tcg (n:=36) (sg:=Qjf.sg) Ql (TOk.cons Qed (TOk.cons Qor TOk.nil)) (by kernel_rfl) (by kernel_rfl) (QPR _ c micro ?_)
 have hl_c_0:(c.1).length≤9223372036854775807:=hb.1.1.1
 have hl_c_1:(c.2.1).length≤9223372036854775807:=hb.1.2.1.1
 have hl_c_3:(c.2.2.2.1).length≤9223372036854775807:=hb.1.2.2.2.1.1
 have hl_c_4:(c.2.2.2.2.1).length≤9223372036854775807:=hb.1.2.2.2.2.1.1
 have hl_c_5:(c.2.2.2.2.2).length≤9223372036854775807:=hb.1.2.2.2.2.2.1.1
 have hs:=QbK (c:=c)
 refine QaG (min c.2.2.2.1.length (QK c).toNat) (fun k=>Qgj (fun r'=>r'=Qd7 (Qab c micro)) c micro (Qbj c micro k) k) ?_ ?_
 ·refine Qzj (fun r'=>r'=Qd7 (Qab c micro)) c micro _ _ ⟨fun h=>by simp at h;omega,fun _=>R_eq rfl⟩
 ·intro k hk ih
  have h1:=Qti c micro k
  have h2:=QiP c.2.2.1 (QK c) k micro (gtd false c.2.2.2.1 k)
  refine Qzj (fun r'=>r'=Qd7 (Qab c micro)) c micro _ _ ⟨fun _=>?_,fun h=>by simp at h;omega⟩
  rw [Int.toNat_natCast,sc1 (by omega),Qp (by omega) (by omega)]
  exact ⟨⟨by omega,by omega⟩,ih⟩
theorem QPe:Qi Tryz.prog Qjf:=Qm fun x _=>QI5 x.1 x.2.1
end
end Go.Proofs.YtjbdljkhbglnhaaGreat.Am

