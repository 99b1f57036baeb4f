/- -/
import Derived.Test.YtjbdljkhbglnhaaGreatZBPQ
import Derived.Test.YtjbdljkhbglnhaaGreatZBP7
import Derived.Test.YtjbdljkhbglnhaaGreatZBG8
import Derived.Test.YtjbdljkhbglnhaaGreatZBPJ
import Derived.Test.YtjbdljkhbglnhaaGreatZBPA
import Derived.Test.YtjbdljkhbglnhaaGreatZBGE
namespace Go.Proofs.YtjbdljkhbglnhaaGreat.Am
open Go Go.RowKit Go.Proofs.YtjbdljkhbglnhaaGreat
set_option linter.all false
set_option maxHeartbeats 2000000
noncomputable section
variable (K:TRes→Prop)
def Qdx (t:(List Int)):TRes:=zra (zcs [TI] t)
def Ql0:TRow:=Qi 49 [(.a QX)] fun x=>(some (QC (α:=Qn) x.1),Qdx (Y9 x.1))
def QlZ:List TRow:=[]
def Qyx:TCode :=
 (zsq [(.reg [zbi 11 .lss 10 9]),(.cond 11 .skip (.exit 0)),(.block 1 (zsq [(.reg [zia 12 8 10 Qv,zLd 13 12 14,zop 5 (.new 63 (z0s Qv)),zst 5 13 14]),(.reg [zmv 14 3,zfa 15 5 5,zld 16 15 1,zle 17 16,zop 18 (.bsl 3 [TI] [17]),zop 19 (.app 14 18 3 [TI]),zmv 3 19])])),(.reg [zbi 20 .add 10 (zki 1),zmv 10 20])])
def Qyc:List (Nat × Md):=[(3,.one .f),(8,.one .d),(9,.one .d),(10,.one .d)]
def Qun:TCode :=
 (zsq [(.reg [zmv 21 3,zmv 2 21]),.ret])
def QJB:TCode :=
 (zsq [(.reg [zop 1 (.box 37 0 4),zmv 2 (.k (.n [TI]))]),(.reg [zop 6 (.bsl 3 [TI] []),zmv 3 6]),(zsq [(.reg [zfa 7 1 1,zld 8 7 1,zle 9 8,zmv 10 (zki 0)]),(.block 0 (.loop Qyc Qyx))]),Qun])
def Qwi:List (ARv × Md):=[(.t 2,.one .d)]
def QsO:Qb:=TQ 0 0 Qwi K
def QCy:Qb:=Qseq (tawp QlZ 0 Qun (QsO K)) (QsO K)
def QMb:Qb:=Qblk 0 (QCy K)
def Qgk (p:Qn) (x:Int) (l:List Int):Prop:=Loop QlZ 0 Qyc Qyx (QMb K) ⟨[(3,(.r [TI] 0 0 l.length)),(8,(zcs Qv p.2.1)),(9,(zci ((p.2.1).length:Int))),(10,(zci x))],[(0,(.sl 3 [TI] true l))],1⟩
theorem QvG (p:Qn) (x:Int) (l:List Int) (h :
 (zif (decide (x<((p.2.1).length:Int))) (((0:Int)≤x∧Int.toNat x<(p.2.1).length)∧(((l.length=l.length∨l.length+1≤l.length)∧l.length+1≤big)∧(Qgk K p (w64 (x+(1:Int))) (List.take (l.length+1) ((List.take l.length l)++([(((gtd QW p.2.1 (Int.toNat x)).2.2.2.2.2.1).length:Int)])))))) (K (Qdx (List.take l.length (List.drop 0 l)))))):Qgk K p x l :=
 Loop.of (by kernel_rfl) h
theorem QET (p:Qn) (h :
 (Qgk K p 0 ([]:List Int))):Hold (tawp QlZ (0+0) QJB (TQ 0 0 Qwi K) (Qf [(.a (Tup.cells QX p))])) :=
 Hold.of (by kernel_rfl) h
theorem QzF (p:Qn) (hp:QC (α:=Qn) p):TCon Tryz.prog 49 [(.a (Tup.cells QX p))] (Qdx (Y9 p)):=by
 refine Qr rfl fun hb=>tcg (n:=22) (sg:=Ql0.sg) Qk TOk.nil (by kernel_rfl) (by kernel_rfl) (QET _ p ?_)
 have hl_p_0:(p.1).length≤9223372036854775807:=hb.1.1.1
 have hl_p_1:(p.2.1).length≤9223372036854775807:=hb.1.2.1.1
 have hl_p_2:(p.2.2.1).length≤9223372036854775807:=hb.1.2.2.1.1
 have hl_p_3:(p.2.2.2).length≤9223372036854775807:=hb.1.2.2.2.1.1
 have hp':Sz.sz p≤2147483648:=hp
 have hs:Sz.sz p=Sz.sz p.1+Sz.sz p.2.1+Sz.sz p.2.2.1+Sz.sz p.2.2.2:=QdO p
 have hl:=QaS p.2.1
 refine Zt p.2.1 (fun r k=>∀ v:List Int,v.length=k→v++r.map (fun s=>((Qh s).length:Int))=(Y9 p)→Qgk (fun r'=>r'=Qdx (Y9 p)) p (k:Int) v) ?_ ?_ [] rfl rfl
 ·intro v hv he
  refine QvG (fun r'=>r'=Qdx (Y9 p)) p _ _ ⟨fun h=>by simp at h,fun _=>R_eq ?_⟩
  rw [QdP,← he];simp
 ·intro k x r hk hlt hg ih v hv he
  refine QvG (fun r'=>r'=Qdx (Y9 p)) p _ _ ⟨fun _=>?_,fun h=>by simp at h;omega⟩
  rw [Int.toNat_natCast,hg,sc1 (by omega),Zn]
  exact ⟨⟨by omega,hlt⟩,room (by omega),ih _ (by simp;omega) (by rw [← he];simp)⟩
theorem QPN:Qj Tryz.prog Ql0:=Qm fun x h=>QzF x.1 h
end
end Go.Proofs.YtjbdljkhbglnhaaGreat.Am

