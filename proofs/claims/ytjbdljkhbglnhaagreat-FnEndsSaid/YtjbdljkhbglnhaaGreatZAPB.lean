/- -/
import Derived.Test.YtjbdljkhbglnhaaGreatZAG8
namespace Go.Proofs.YtjbdljkhbglnhaaGreat.Am
open Go Go.RowKit Go.Proofs.YtjbdljkhbglnhaaGreat
set_option linter.all false
noncomputable section
variable (K:TRes→Prop)
def Qd0 (t:Int):TRes:=zre (zci t)
def Qnt:TRow:=Qj 36 [(.a QQ)] fun x=>(some (QdS x.1),Qd0 (Yq x.1))
def Qnk:List TRow:=[]
def QyL:TCode :=
 (zsq [(zsq [(.reg [zmv 5 4,zfa 6 1 1,zld 7 6 1,zle 8 7,zbi 9 .lss 5 8]),(.cond 9 .skip (.exit 0))]),(.block 1 (.draw [zmv 12 3,zfa 13 1 1,zld 14 13 1,zmv 15 4,zia 16 14 15 Qs,zfa 17 16 1,zld 18 17 1,zle 19 18,zfa 20 1 1,zld 21 20 1,zmv 22 4,zia 23 21 22 Qs,zfa 24 23 0,zld 25 24 1,zop 26 (.mm true (zki 0) 25),zbi 27 .sub 19 26,zop 28 (.mm true (zki 0) 27),zbi 29 .add 12 28,zmv 3 29] [])),(.reg [zmv 10 4,zbi 11 .add 10 (zki 1),zmv 4 11])])
def Qs9:List (Nat × Md):=[(1,.b (zds 4)),(3,.one .d),(4,.one .d)]
def QoF:TCode :=
 (zsq [(.reg [zmv 30 3,zmv 2 30]),.ret])
def QLf:TCode :=
 (zsq [(.reg [zop 1 (.box 37 0 4),zmv 2 (zki 0)]),(.reg [zmv 3 (zki 0)]),(zsq [(.reg [zmv 4 (zki 0)]),(.block 0 (.loop Qs9 QyL))]),QoF])
def Qu4:List (ARv × Md):=[(.t 2,.one .d)]
def Qsz:Qb:=TQ 0 0 Qu4 K
def QNF:Qb:=Qseq (tawp Qnk 0 QoF (Qsz K)) (Qsz K)
def QAv:Qb:=Qblk 0 (QNF K)
def QgK (p:Qd) (n:Int) (s:Int):Prop:=Loop Qnk 0 Qs9 QyL (QAv K) ⟨[(1,(.p 0 0 0)),(3,(zci n)),(4,(zci s))],[(0,(.box (Tup.cells QQ p)))],1⟩
theorem QzL (p:Qd) (n:Int) (s:Int) (h :
 (zif (decide (s<((p.2.1).length:Int))) ((((0:Int)≤s∧Int.toNat s<(p.2.1).length)∧((0:Int)≤s∧Int.toNat s<(p.2.1).length))∧(QgK K p (w64 (n+(if (0:Int)<(w64 ((((gtd QL p.2.1 (Int.toNat s)).2.1).length:Int)-(if (0:Int)<((gtd QL p.2.1 (Int.toNat s)).1) then ((gtd QL p.2.1 (Int.toNat s)).1) else (0:Int)))) then (w64 ((((gtd QL p.2.1 (Int.toNat s)).2.1).length:Int)-(if (0:Int)<((gtd QL p.2.1 (Int.toNat s)).1) then ((gtd QL p.2.1 (Int.toNat s)).1) else (0:Int)))) else (0:Int)))) (w64 (s+(1:Int))))) (K (Qd0 n)))):QgK K p n s :=
 Loop.of (by kernel_rfl) h
theorem QRs (p:Qd) (h :
 (QgK K p 0 0)):Hold (tawp Qnk (0+0) QLf (TQ 0 0 Qu4 K) (Qf [(.a (Tup.cells QQ p))])) :=
 Hold.of (by kernel_rfl) h
theorem QQ2 (p:Qd) (hp:QdS p):TCon Tryz.prog 36 [(.a (Tup.cells QQ p))] (Qd0 (Yq p)):=by
 refine Qq rfl fun hb=>tcg (n:=31) (sg:=Qnt.sg) Ql TOk.nil (by kernel_rfl) (by kernel_rfl) (QRs _ p ?_)
 have hl_p_0:(p.1).length≤9223372036854775807:=hb.1.1.1
 have hl_p_1:(p.2.1).length≤9223372036854775807:=hb.1.2.1.1
 have hl_p_2:(p.2.2.1).length≤9223372036854775807:=hb.1.2.2.1.1
 have hl_p_3:(p.2.2.2).length≤9223372036854775807:=hb.1.2.2.2.1.1
 refine Zj p.2.1 (fun r k=>∀ y:Int,w64 (y+(r.map Jj).sum)=(Yq p)→QgK (fun r'=>r'=Qd0 (Yq p)) p (w64 y) k) ?_ ?_ 0 (by simp [Yq])
 ·intro y he
  refine QzL (fun r'=>r'=Qd0 (Yq p)) p _ _ ⟨fun h=>by simp at h,fun _=>R_eq ?_⟩
  simpa using he
 ·intro k x r hk hlt hg ih y he
  have hmem:x∈p.2.1:=List.mem_of_mem_drop (i:=k) (by rw [hk];exact List.mem_cons_self)
  have hbx:x.2.1.length≤9223372036854775807:=(hb.1.2.1.2 x hmem).2.1.1
  refine QzL (fun r'=>r'=Qd0 (Yq p)) p _ _ ⟨fun _=>?_,fun h=>by simp at h;omega⟩
  rw [Int.toNat_natCast,hg,Qp (x:=(k:Int)+1) (by omega) (by omega),QNn (hp x hmem) hbx,Yy]
  refine ⟨⟨⟨by omega,hlt⟩,by omega,hlt⟩,ih _ ?_⟩
  rw [← he,List.map_cons,List.sum_cons,Int.add_assoc]
theorem QHP:Qi Tryz.prog Qnt:=Qm fun x h=>QQ2 x.1 h
def Qdz (t:Int):TRes:=zre (zci t)
def QhJ:TRow:=Qj 39 [(.a QQ)] fun x=>(none,Qdz (Yq x.1))
def QlP:List TRow:=[]
def Qux:TCode :=
 (zsq [(.reg [zbi 10 .lss 9 8]),(.cond 10 .skip (.exit 0)),(.block 1 (zsq [(.reg [zia 11 7 9 Qs,zLd 12 11 14,zop 5 (.new 63 (z0s Qs)),zst 5 12 14]),(.reg [zmv 13 3,zfa 14 5 1,zld 15 14 1,zle 16 15,zfa 17 5 0,zld 18 17 1,zop 19 (.mm true 18 (zki 0)),zfa 20 5 1,zld 21 20 1,zle 22 21,zop 23 (.mm false 19 22),zbi 24 .sub 16 23,zbi 25 .add 13 24,zmv 3 25])])),(.reg [zbi 26 .add 9 (zki 1),zmv 9 26])])
def QwY:List (Nat × Md):=zdl [3,7,8,9]
def QzT:TCode :=
 (zsq [(.reg [zmv 27 3,zmv 2 27]),.ret])
def QHJ:TCode :=
 (zsq [(.reg [zop 1 (.box 37 0 4),zmv 2 (zki 0)]),(.reg [zmv 3 (zki 0)]),(zsq [(.reg [zfa 6 1 1,zld 7 6 1,zle 8 7,zmv 9 (zki 0)]),(.block 0 (.loop QwY Qux))]),QzT])
def Qo1:List (ARv × Md):=[(.t 2,.one .d)]
def QvC:Qb:=TQ 0 0 Qo1 K
def QQH:Qb:=Qseq (tawp QlP 0 QzT (QvC K)) (QvC K)
def QDV:Qb:=Qblk 0 (QQH K)
def QiU (p:Qd) (n:Int) (x:Int):Prop:=Loop QlP 0 QwY Qux (QDV K) ⟨[(3,(zci n)),(7,(zcs Qs p.2.1)),(8,(zci ((p.2.1).length:Int))),(9,(zci x))],[],0⟩
theorem QvW (p:Qd) (n:Int) (x:Int) (h :
 (zif (decide (x<((p.2.1).length:Int))) (((0:Int)≤x∧Int.toNat x<(p.2.1).length)∧(QiU K p (w64 (n+(w64 ((((gtd QL p.2.1 (Int.toNat x)).2.1).length:Int)-(if (((gtd QL p.2.1 (Int.toNat x)).2.1).length:Int)<(if ((gtd QL p.2.1 (Int.toNat x)).1)<(0:Int) then (0:Int) else ((gtd QL p.2.1 (Int.toNat x)).1)) then (((gtd QL p.2.1 (Int.toNat x)).2.1).length:Int) else (if ((gtd QL p.2.1 (Int.toNat x)).1)<(0:Int) then (0:Int) else ((gtd QL p.2.1 (Int.toNat x)).1))))))) (w64 (x+(1:Int))))) (K (Qdz n)))):QiU K p n x :=
 Loop.of (by kernel_rfl) h
theorem QGw (p:Qd) (h :
 (QiU K p 0 0)):Hold (tawp QlP (0+0) QHJ (TQ 0 0 Qo1 K) (Qf [(.a (Tup.cells QQ p))])) :=
 Hold.of (by kernel_rfl) h
theorem QJh (p:Qd):TCon Tryz.prog 39 [(.a (Tup.cells QQ p))] (Qdz (Yq p)):=by
 refine Qq rfl fun hb=>tcg (n:=28) (sg:=QhJ.sg) Ql TOk.nil (by kernel_rfl) (by kernel_rfl) (QGw _ p ?_)
 have hl_p_0:(p.1).length≤9223372036854775807:=hb.1.1.1
 have hl_p_1:(p.2.1).length≤9223372036854775807:=hb.1.2.1.1
 have hl_p_2:(p.2.2.1).length≤9223372036854775807:=hb.1.2.2.1.1
 have hl_p_3:(p.2.2.2).length≤9223372036854775807:=hb.1.2.2.2.1.1
 refine Zj p.2.1 (fun r k=>∀ y:Int,w64 (y+(r.map Jj).sum)=(Yq p)→QiU (fun r'=>r'=Qdz (Yq p)) p (w64 y) k) ?_ ?_ 0 (by simp [Yq])
 ·intro y he
  refine QvW (fun r'=>r'=Qdz (Yq p)) p _ _ ⟨fun h=>by simp at h,fun _=>R_eq ?_⟩
  simpa using he
 ·intro k x r hk hlt hg ih y he
  have hmem:x∈p.2.1:=List.mem_of_mem_drop (i:=k) (by rw [hk];exact List.mem_cons_self)
  have hbx:x.2.1.length≤9223372036854775807:=(hb.1.2.1.2 x hmem).2.1.1
  refine QvW (fun r'=>r'=Qdz (Yq p)) p _ _ ⟨fun _=>?_,fun h=>by simp at h;omega⟩
  rw [Int.toNat_natCast,hg,Qp (x:=(k:Int)+1) (by omega) (by omega),QEC hbx,Yy]
  refine ⟨⟨by omega,hlt⟩,ih _ ?_⟩
  rw [← he,List.map_cons,List.sum_cons,Int.add_assoc]
theorem QwA:Qi Tryz.prog QhJ:=Qm fun x _=>QJh x.1
def Qkc (t:Bool):TRes:=zre (zcb t)
def QkL:TRow:=Qj 23 [(.a QQ)] fun x=>(none,Qkc (Qat x.1))
def QQs:List TRow:=[QhJ]
def QLU:TCode :=
 (zsq [(.reg [zop 1 (.box 37 0 4),zmv 2 (zkb false)]),(.reg [zfa 3 1 1,zld 4 3 1,zle 5 4,zbi 6 .gtr 5 (zki 0),zmv 7 6,.grp 7 true [zLd 8 1 4,zca 9 39 [8],zbi 10 .eql 9 (zki 0)] 11 10,zmv 2 11]),.ret])
def QE5:List (ARv × Md):=[(.t 2,.one .d)]
theorem QF8 (p:Qd) (h :
 K (Qkc ((decide (((p.2.1).length:Int)>(0:Int)))&&((Yq p)==(0:Int))))):Hold (tawp QQs (0+0) QLU (TQ 0 0 QE5 K) (Qf [(.a (Tup.cells QQ p))])) :=
 Hold.of (by kernel_rfl) h
theorem QO1 (p:Qd):TCon Tryz.prog 23 [(.a (Tup.cells QQ p))] (Qkc (Qat p)):=by
 refine Qq rfl fun hb=>tcg (n:=12) (sg:=QkL.sg) Ql (TOk.cons QwA TOk.nil) (by kernel_rfl) (by kernel_rfl) (QF8 _ p ?_)
 have hl_p_0:(p.1).length≤9223372036854775807:=hb.1.1.1
 have hl_p_1:(p.2.1).length≤9223372036854775807:=hb.1.2.1.1
 have hl_p_2:(p.2.2.1).length≤9223372036854775807:=hb.1.2.2.1.1
 have hl_p_3:(p.2.2.2).length≤9223372036854775807:=hb.1.2.2.2.1.1
 exact R_eq (by simp [Qat])
theorem QDk:Qi Tryz.prog QkL:=Qm fun x _=>QO1 x.1
end
end Go.Proofs.YtjbdljkhbglnhaaGreat.Am

