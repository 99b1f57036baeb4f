/- -/
import Derived.Test.YtephkbajoofeoaaYGPL
import Derived.Test.YtephkbajoofeoaaYGPE
import Derived.Test.YtephkbajoofeoaaYGP1
import Derived.Test.YtephkbajoofeoaaYGP5
import Derived.Test.YtephkbajoofeoaaYGG9
namespace Go.Proofs.Ytephkbajoofeoaa.Am
open Go Go.RowKit Go.Proofs.Ytephkbajoofeoaa
set_option linter.all false
noncomputable section
variable (K:TRes→Prop)
def YO (t:Int):TRes:=zre (zci t)
def Qb9:TRow:=Qj 80 [(.a Qq),(.c TI)] fun x=>(none,YO (Zj x.1 x.2.1))
def QaZ:List TRow:=[Qa8,QcL]
def QfI:TCode :=
 (zsq [(zsq [(.reg [zmv 7 6,zfa 8 2 3,zld 9 8 1,zle 10 9,zbi 11 .lss 7 10,zmv 12 11,.grp 12 true [zmv 13 6,zLd 14 2 6,zca 15 141 [14],zbi 16 .lss 13 15] 17 16]),(.cond 17 .skip (.exit 0))]),(.block 1 (.draw [zmv 20 5,zfa 21 2 2,zld 22 21 1,zLd 23 2 6,zca 24 141 [23],zmv 25 6,zmv 26 1,zfa 27 2 3,zld 28 27 1,zmv 29 6,zia 30 28 29 [.bool],zld 31 30 1,zca 32 18 [22,24,25,26,31],zle 33 32,zbi 34 .add 20 33,zmv 5 34] [(1,4),(2,4),(4,7),(4,8),(4,10),(4,11)])),(.reg [zmv 18 6,zbi 19 .add 18 (zki 1),zmv 6 19])])
def Qec:List (Nat × Md):=[(1,.one .d),(2,.b (zds 6)),(5,.one .d),(6,.one .d)]
def Qg6:TCode :=
 (zsq [(.reg [zmv 35 5,zmv 4 35]),.ret])
def Qhp:TCode :=
 (zsq [(.reg [zop 2 (.box 103 0 6),zmv 4 (zki 0)]),(.reg [zmv 5 (zki 0)]),(zsq [(.reg [zmv 6 (zki 0)]),(.block 0 (.loop Qec QfI))]),Qg6])
def Qdc:List (ARv × Md):=[(.t 4,.one .d)]
def QdI:Qd:=TQ 0 0 Qdc K
def QhY:Qd:=Qseq (tawp QaZ 0 Qg6 (QdI K)) (QdI K)
def Qj2:Qd:=Qblk 0 (QhY K)
def Jz (c:Qg) (micro:Int) (n:Int) (s:Int):Prop:=Loop QaZ 0 Qec QfI (Qj2 K) ⟨[(1,(zci micro)),(2,(.p 0 0 0)),(5,(zci n)),(6,(zci s))],[(0,(.box (Tup.cells Qq c)))],1⟩
theorem Qe2 (c:Qg) (micro:Int) (n:Int) (s:Int) (h :
 (zif ((decide (s<((c.2.2.2.1).length:Int)))&&(decide (s<(QH c)))) (((0:Int)≤s∧Int.toNat s<(c.2.2.2.1).length)∧(Jz K c micro (w64 (n+(((Qw c.2.2.1 (QH c) s micro (gtd (false:Bool) c.2.2.2.1 (Int.toNat s))).length:Nat):Int))) (w64 (s+(1:Int))))) (K (YO n)))):Jz K c micro n s :=
 Loop.of (by kernel_rfl) h
theorem QjX (c:Qg) (micro:Int) (h :
 (Jz K c micro 0 0)):Hold (tawp QaZ (0+0) Qhp (TQ 0 0 Qdc K) (Qh [(.a (Tup.cells Qq c)),(.c TI micro)])) :=
 Hold.of (by kernel_rfl) h
theorem QhS (c:Qg) (micro:Int):TCon Try.prog 80 [(.a (Tup.cells Qq c)),(.c TI micro)] (YO (Zj c micro)):=by
 refine Ql rfl fun hb=>tcg (n:=36) (sg:=Qb9.sg) Qm (TOk.cons QiC (TOk.cons QjZ TOk.nil)) (by kernel_rfl) (by kernel_rfl) (QjX _ c micro ?_)
 have hl_c_0:(c.1).length≤9223372036854775807:=hb.1.1.1
 have hl_c_1:(c.2.1).length≤9223372036854775807:=hb.1.2.1.1
 have hl_c_3:(c.2.2.2.1).length≤9223372036854775807:=hb.1.2.2.2.1.1
 have hl_c_4:(c.2.2.2.2.1).length≤9223372036854775807:=hb.1.2.2.2.2.1.1
 have hl_c_5:(c.2.2.2.2.2).length≤9223372036854775807:=hb.1.2.2.2.2.2.1.1
 have hs:=Qd1 (c:=c)
 refine YB (min c.2.2.2.1.length (QH c).toNat) (fun k=>Jz (fun r'=>r'=YO (Zj c micro)) c micro (ZY c micro k) k) ?_ ?_
 ·refine Qe2 (fun r'=>r'=YO (Zj c micro)) c micro _ _ ⟨fun h=>by simp at h;omega,fun _=>R_eq rfl⟩
 ·intro k hk ih
  have h1:=QbI c micro k
  have h2:=Qc3 c.2.2.1 (QH c) k micro (gtd false c.2.2.2.1 k)
  refine Qe2 (fun r'=>r'=YO (Zj c micro)) c micro _ _ ⟨fun _=>?_,fun h=>by simp at h;omega⟩
  rw [Int.toNat_natCast,sc1 (by omega),Qz (by omega) (by omega)]
  exact ⟨⟨by omega,by omega⟩,ih⟩
theorem Qik:Qi Try.prog Qb9:=Qn fun x _=>QhS x.1 x.2.1
def YL (t:Int):TRes:=zre (zci t)
def Qce:TRow:=Qj 78 [(.a Qq),(.c TI)] fun x=>(none,YL (Zj x.1 x.2.1))
def QbY:List TRow:=[QaI,QaV]
def Qfk:TCode :=
 (zsq [(zsq [(.reg [zmv 7 6,zLd 8 2 6,zca 9 148 [8],zbi 10 .lss 7 9,zmv 11 10,.grp 11 true [zmv 12 6,zfa 13 2 3,zld 14 13 1,zle 15 14,zbi 16 .lss 12 15] 17 16]),(.cond 17 .skip (.exit 0))]),(.block 1 (.draw [zmv 20 5,zfa 21 2 2,zld 22 21 1,zLd 23 2 6,zca 24 148 [23],zmv 25 6,zmv 26 1,zfa 27 2 3,zld 28 27 1,zmv 29 6,zia 30 28 29 [.bool],zld 31 30 1,zca 32 17 [22,24,25,26,31],zle 33 32,zbi 34 .add 20 33,zmv 5 34] [(1,4),(2,4),(4,7),(4,8),(4,10),(4,11)])),(.reg [zmv 18 6,zbi 19 .add 18 (zki 1),zmv 6 19])])
def Qgj:List (Nat × Md):=[(1,.one .d),(2,.b (zds 6)),(5,.one .d),(6,.one .d)]
def Qdz:TCode :=
 (zsq [(.reg [zmv 35 5,zmv 4 35]),.ret])
def Qlf:TCode :=
 (zsq [(.reg [zop 2 (.box 103 0 6),zmv 4 (zki 0)]),(.reg [zmv 5 (zki 0)]),(zsq [(.reg [zmv 6 (zki 0)]),(.block 0 (.loop Qgj Qfk))]),Qdz])
def Qd4:List (ARv × Md):=[(.t 4,.one .d)]
def QfY:Qd:=TQ 0 0 Qd4 K
def Qkm:Qd:=Qseq (tawp QbY 0 Qdz (QfY K)) (QfY K)
def QkB:Qd:=Qblk 0 (Qkm K)
def Qag (c:Qg) (micro:Int) (n:Int) (s:Int):Prop:=Loop QbY 0 Qgj Qfk (QkB K) ⟨[(1,(zci micro)),(2,(.p 0 0 0)),(5,(zci n)),(6,(zci s))],[(0,(.box (Tup.cells Qq c)))],1⟩
theorem QdM (c:Qg) (micro:Int) (n:Int) (s:Int) (h :
 (zif ((decide (s<(QH c)))&&(decide (s<((c.2.2.2.1).length:Int)))) (((0:Int)≤s∧Int.toNat s<(c.2.2.2.1).length)∧(Qag K c micro (w64 (n+(((Qw c.2.2.1 (QH c) s micro (gtd (false:Bool) c.2.2.2.1 (Int.toNat s))).length:Nat):Int))) (w64 (s+(1:Int))))) (K (YL n)))):Qag K c micro n s :=
 Loop.of (by kernel_rfl) h
theorem QkN (c:Qg) (micro:Int) (h :
 (Qag K c micro 0 0)):Hold (tawp QbY (0+0) Qlf (TQ 0 0 Qd4 K) (Qh [(.a (Tup.cells Qq c)),(.c TI micro)])) :=
 Hold.of (by kernel_rfl) h
theorem QkR (c:Qg) (micro:Int):TCon Try.prog 78 [(.a (Tup.cells Qq c)),(.c TI micro)] (YL (Zj c micro)):=by
 refine Ql rfl fun hb=>tcg (n:=36) (sg:=Qce.sg) Qm (TOk.cons QhB (TOk.cons QmF TOk.nil)) (by kernel_rfl) (by kernel_rfl) (QkN _ c micro ?_)
 have hl_c_0:(c.1).length≤9223372036854775807:=hb.1.1.1
 have hl_c_1:(c.2.1).length≤9223372036854775807:=hb.1.2.1.1
 have hl_c_3:(c.2.2.2.1).length≤9223372036854775807:=hb.1.2.2.2.1.1
 have hl_c_4:(c.2.2.2.2.1).length≤9223372036854775807:=hb.1.2.2.2.2.1.1
 have hl_c_5:(c.2.2.2.2.2).length≤9223372036854775807:=hb.1.2.2.2.2.2.1.1
 have hs:=Qd1 (c:=c)
 refine YB (min c.2.2.2.1.length (QH c).toNat) (fun k=>Qag (fun r'=>r'=YL (Zj c micro)) c micro (ZY c micro k) k) ?_ ?_
 ·refine QdM (fun r'=>r'=YL (Zj c micro)) c micro _ _ ⟨fun h=>by simp at h;omega,fun _=>R_eq rfl⟩
 ·intro k hk ih
  have h1:=QbI c micro k
  have h2:=Qc3 c.2.2.1 (QH c) k micro (gtd false c.2.2.2.1 k)
  refine QdM (fun r'=>r'=YL (Zj c micro)) c micro _ _ ⟨fun _=>?_,fun h=>by simp at h;omega⟩
  rw [Int.toNat_natCast,sc1 (by omega),Qz (by omega) (by omega)]
  exact ⟨⟨by omega,by omega⟩,ih⟩
theorem Qhy:Qi Try.prog Qce:=Qn fun x _=>QkR x.1 x.2.1
end
end Go.Proofs.Ytephkbajoofeoaa.Am

