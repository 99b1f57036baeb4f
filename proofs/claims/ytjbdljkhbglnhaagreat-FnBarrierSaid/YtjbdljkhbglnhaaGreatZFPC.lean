/- -/
import Derived.Test.YtjbdljkhbglnhaaGreatZFP3
import Derived.Test.YtjbdljkhbglnhaaGreatZFP2
namespace Go.Proofs.YtjbdljkhbglnhaaGreat.Am
open Go Go.RowKit Go.Proofs.YtjbdljkhbglnhaaGreat
set_option linter.all false
noncomputable section
variable (K:TRes→Prop)
def QeN (t:Int):TRes:=zre (zci t)
def Qow:TRow:=Qh 63 [(.a QE)] fun x=>(none,QeN (QaL x.1))
def Qn1:List TRow:=[]
def QsE:TCode :=
 (zsq [(.reg [zbi 10 .lss 9 8]),(.cond 10 .skip (.exit 0)),(.block 1 (zsq [(.reg [zia 11 7 9 Qi,zLd 12 11 14,zop 5 (.new 63 (z0s Qi)),zst 5 12 14]),(.reg [zfa 13 5 0,zld 14 13 1,zfa 15 5 1,zld 16 15 1,zle 17 16,zbi 18 .geq 14 17]),(.cond 18 (.reg [zmv 19 3,zbi 20 .add 19 (zki 1),zmv 3 20]) .skip)])),(.reg [zbi 21 .add 9 (zki 1),zmv 9 21])])
def QEu:List (Nat × Md):=zdl [3,7,8,9]
def QCu:TCode :=
 (zsq [(.reg [zmv 22 3,zmv 2 22]),.ret])
def QPK:TCode :=
 (zsq [(.reg [zop 1 (.box 37 0 4),zmv 2 (zki 0)]),(.reg [zmv 3 (zki 0)]),(zsq [(.reg [zfa 6 1 1,zld 7 6 1,zle 8 7,zmv 9 (zki 0)]),(.block 0 (.loop QEu QsE))]),QCu])
def QEr:List (ARv × Md):=[(.t 2,.one .d)]
def Qv1:Qb:=TQ 0 0 QEr K
def QLW:Qb:=Qseq (tawp Qn1 0 QCu (Qv1 K)) (Qv1 K)
def QXB:Qb:=Qblk 0 (QLW K)
def Qgb (p:Qe) (n:Int) (x:Int):Prop:=Loop Qn1 0 QEu QsE (QXB K) ⟨[(3,(zci n)),(7,(zcs Qi p.2.1)),(8,(zci ((p.2.1).length:Int))),(9,(zci x))],[],0⟩
theorem Quc (p:Qe) (n:Int) (x:Int) (h :
 (zif (decide (x<((p.2.1).length:Int))) (((0:Int)≤x∧Int.toNat x<(p.2.1).length)∧(zif (decide (((gtd QM p.2.1 (Int.toNat x)).1)≥(((gtd QM p.2.1 (Int.toNat x)).2.1).length:Int))) (Qgb K p (w64 (n+(1:Int))) (w64 (x+(1:Int)))) (Qgb K p n (w64 (x+(1:Int)))))) (K (QeN n)))):Qgb K p n x :=
 Loop.of (by kernel_rfl) h
theorem QQA (p:Qe) (h :
 (Qgb K p 0 0)):Hold (tawp Qn1 (0+0) QPK (TQ 0 0 QEr K) (Qf [(.a (Tup.cells QE p))])) :=
 Hold.of (by kernel_rfl) h
theorem QPZ (p:Qe):TCon Tryz.prog 63 [(.a (Tup.cells QE p))] (QeN (QaL p)):=by
 refine Qo rfl fun hb=>tcg (n:=23) (sg:=Qow.sg) Qj TOk.nil (by kernel_rfl) (by kernel_rfl) (QQA _ p ?_)
 have hl_p_0:(p.1).length≤9223372036854775807:=hb.1.1.1
 have hl_p_1:(p.2.1).length≤9223372036854775807:=hb.1.2.1.1
 have hl_p_2:(p.2.2.1).length≤9223372036854775807:=hb.1.2.2.1.1
 have hl_p_3:(p.2.2.2).length≤9223372036854775807:=hb.1.2.2.2.1.1
 refine Zk p.2.1 (fun r k=>∀ y:Int,w64 (y+(r.map fun s=>if QaR s then (1:Int) else 0).sum)=(QaL p)→Qgb (fun r'=>r'=QeN (QaL p)) p (w64 y) k) ?_ ?_ 0 (by simp [QaL])
 ·intro y he
  refine Quc (fun r'=>r'=QeN (QaL p)) p _ _ ⟨fun h=>by simp at h,fun _=>R_eq ?_⟩
  simpa using he
 ·intro k x r hk hlt hg ih y he
  refine Quc (fun r'=>r'=QeN (QaL p)) p _ _ ⟨fun _=>?_,fun h=>by simp at h;omega⟩
  rw [Int.toNat_natCast,hg,Qq (x:=(k:Int)+1) (by omega) (by omega),QfC]
  rw [List.map_cons,List.sum_cons] at he
  refine ⟨⟨by omega,hlt⟩,fun h=>ih _ ?_,fun h=>ih _ ?_⟩
  ·have:QaR x=true:=by simpa [QaR] using h
   rw [this] at he
   rw [← he,Int.add_assoc];rfl
  ·have:QaR x=false:=by simpa [QaR] using h
   rw [this] at he
   simpa using he
theorem QQI:Qg Tryz.prog Qow:=Qk fun x _=>QPZ x.1
end
end Go.Proofs.YtjbdljkhbglnhaaGreat.Am

