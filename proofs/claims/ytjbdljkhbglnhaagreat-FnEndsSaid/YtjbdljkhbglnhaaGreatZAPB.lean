/- -/
import Derived.Test.YtjbdljkhbglnhaaGreatZAG8
namespace Go.Proofs.YtjbdljkhbglnhaaGreat.Am
open Go Go.RowKit Go.Proofs.YtjbdljkhbglnhaaGreat
set_option linter.all false
noncomputable section
variable (K:TRes→Prop)
def QdR (t:Int):TRes:=zre (zci t)
def Qod:TRow:=Qh 36 [(.a QQ)] fun x=>(some (Qc7 x.1),QdR (Yt x.1))
def Qkt:List TRow:=[]
def QqE:TCode :=
 (zsq [(zsq [(.reg [zmv 5 4,zfa 6 1 1,zld 7 6 1,zle 8 7,zbi 9 .lss 5 8]),(.cond 9 .skip (.exit 0))]),(.block 1 (.draw [zmv 12 3,zfa 13 1 1,zld 14 13 1,zmv 15 4,zia 16 14 15 Qt,zfa 17 16 1,zld 18 17 1,zle 19 18,zfa 20 1 1,zld 21 20 1,zmv 22 4,zia 23 21 22 Qt,zfa 24 23 0,zld 25 24 1,zop 26 (.mm true (zki 0) 25),zbi 27 .sub 19 26,zop 28 (.mm true (zki 0) 27),zbi 29 .add 12 28,zmv 3 29] [])),(.reg [zmv 10 4,zbi 11 .add 10 (zki 1),zmv 4 11])])
def Qpp:List (Nat × Md):=[(1,.b (zds 4)),(3,.one .d),(4,.one .d)]
def Qz9:TCode :=
 (zsq [(.reg [zmv 30 3,zmv 2 30]),.ret])
def QAR:TCode :=
 (zsq [(.reg [zop 1 (.box 37 0 4),zmv 2 (zki 0)]),(.reg [zmv 3 (zki 0)]),(zsq [(.reg [zmv 4 (zki 0)]),(.block 0 (.loop Qpp QqE))]),Qz9])
def Qq7:List (ARv × Md):=[(.t 2,.one .d)]
def Qzx:Qb:=TQ 0 0 Qq7 K
def QNp:Qb:=Qseq (tawp Qkt 0 Qz9 (Qzx K)) (Qzx K)
def QP6:Qb:=Qblk 0 (QNp K)
def QiH (p:Qd) (n:Int) (s:Int):Prop:=Loop Qkt 0 Qpp QqE (QP6 K) ⟨[(1,(.p 0 0 0)),(3,(zci n)),(4,(zci s))],[(0,(.box (Tup.cells QQ p)))],1⟩
theorem Qtl (p:Qd) (n:Int) (s:Int) (h :
(zif (decide (s<((p.2.1).length:Int))) ((((0:Int)≤s∧Int.toNat s<(p.2.1).length)∧((0:Int)≤s∧Int.toNat s<(p.2.1).length))∧(QiH K p (w64 (n+(if (0:Int)<(w64 ((((gtd QL p.2.1 (Int.toNat s)).2.1).length:Int)-(if (0:Int)<((gtd QL p.2.1 (Int.toNat s)).1) then ((gtd QL p.2.1 (Int.toNat s)).1) else (0:Int)))) then (w64 ((((gtd QL p.2.1 (Int.toNat s)).2.1).length:Int)-(if (0:Int)<((gtd QL p.2.1 (Int.toNat s)).1) then ((gtd QL p.2.1 (Int.toNat s)).1) else (0:Int)))) else (0:Int)))) (w64 (s+(1:Int))))) (K (QdR n)))):QiH K p n s :=
 Loop.of (by kernel_rfl) h
theorem QCI (p:Qd) (h :
(QiH K p 0 0)):Hold (tawp Qkt (0+0) QAR (TQ 0 0 Qq7 K) (Qf [(.a (Tup.cells QQ p))])) :=
 Hold.of (by kernel_rfl) h
theorem QI8 (p:Qd) (hp:Qc7 p):TCon Tryz.prog 36 [(.a (Tup.cells QQ p))] (QdR (Yt p)):=by
 refine Qq rfl fun hb=>tcg (n:=31) (sg:=Qod.sg) Ql TOk.nil (by kernel_rfl) (by kernel_rfl) (QCI _ p ?_)
 have hl_p_0:(p.1).length≤9223372036854775807:=hb.1.1.1
 have hl_p_1:(p.2.1).length≤9223372036854775807:=hb.1.2.1.1
 have hl_p_2:(p.2.2.1).length≤9223372036854775807:=hb.1.2.2.1.1
 have hl_p_3:(p.2.2.2).length≤9223372036854775807:=hb.1.2.2.2.1.1
 refine Zi p.2.1 (fun r k=>∀ y:Int,w64 (y+(r.map Ji).sum)=(Yt p)→QiH (fun r'=>r'=QdR (Yt p)) p (w64 y) k) ?_ ?_ 0 (by simp [Yt])
 ·intro y he
  refine Qtl (fun r'=>r'=QdR (Yt p)) p _ _ ⟨fun h=>by simp at h,fun _=>R_eq ?_⟩
  simpa using he
 ·intro k x r hk hlt hg ih y he
  have hmem:x∈p.2.1:=List.mem_of_mem_drop (i:=k) (by rw [hk];exact List.mem_cons_self)
  have hbx:x.2.1.length≤9223372036854775807:=(hb.1.2.1.2 x hmem).2.1.1
  refine Qtl (fun r'=>r'=QdR (Yt p)) p _ _ ⟨fun _=>?_,fun h=>by simp at h;omega⟩
  rw [Int.toNat_natCast,hg,Qp (x:=(k:Int)+1) (by omega) (by omega),QEK (hp x hmem) hbx,Yw]
  refine ⟨⟨⟨by omega,hlt⟩,by omega,hlt⟩,ih _ ?_⟩
  rw [← he,List.map_cons,List.sum_cons,Int.add_assoc]
theorem QKi:Qi Tryz.prog Qod:=Qm fun x h=>QI8 x.1 h
def Qdk (t:Int):TRes:=zre (zci t)
def Qg5:TRow:=Qh 39 [(.a QQ)] fun x=>(none,Qdk (Yt x.1))
def QjQ:List TRow:=[]
def Qyd:TCode :=
 (zsq [(.reg [zbi 10 .lss 9 8]),(.cond 10 .skip (.exit 0)),(.block 1 (zsq [(.reg [zia 11 7 9 Qt,zLd 12 11 14,zop 5 (.new 63 (z0s Qt)),zst 5 12 14]),(.reg [zmv 13 3,zfa 14 5 1,zld 15 14 1,zle 16 15,zfa 17 5 0,zld 18 17 1,zop 19 (.mm true 18 (zki 0)),zfa 20 5 1,zld 21 20 1,zle 22 21,zop 23 (.mm false 19 22),zbi 24 .sub 16 23,zbi 25 .add 13 24,zmv 3 25])])),(.reg [zbi 26 .add 9 (zki 1),zmv 9 26])])
def Qt7:List (Nat × Md):=zdl [3,7,8,9]
def Qux:TCode :=
 (zsq [(.reg [zmv 27 3,zmv 2 27]),.ret])
def QF2:TCode :=
 (zsq [(.reg [zop 1 (.box 37 0 4),zmv 2 (zki 0)]),(.reg [zmv 3 (zki 0)]),(zsq [(.reg [zfa 6 1 1,zld 7 6 1,zle 8 7,zmv 9 (zki 0)]),(.block 0 (.loop Qt7 Qyd))]),Qux])
def Qtm:List (ARv × Md):=[(.t 2,.one .d)]
def Qu4:Qb:=TQ 0 0 Qtm K
def QEb:Qb:=Qseq (tawp QjQ 0 Qux (Qu4 K)) (Qu4 K)
def QNw:Qb:=Qblk 0 (QEb K)
def Qi7 (p:Qd) (n:Int) (x:Int):Prop:=Loop QjQ 0 Qt7 Qyd (QNw K) ⟨[(3,(zci n)),(7,(zcs Qt p.2.1)),(8,(zci ((p.2.1).length:Int))),(9,(zci x))],[],0⟩
theorem Qug (p:Qd) (n:Int) (x:Int) (h :
(zif (decide (x<((p.2.1).length:Int))) (((0:Int)≤x∧Int.toNat x<(p.2.1).length)∧(Qi7 K p (w64 (n+(w64 ((((gtd QL p.2.1 (Int.toNat x)).2.1).length:Int)-(if (((gtd QL p.2.1 (Int.toNat x)).2.1).length:Int)<(if ((gtd QL p.2.1 (Int.toNat x)).1)<(0:Int) then (0:Int) else ((gtd QL p.2.1 (Int.toNat x)).1)) then (((gtd QL p.2.1 (Int.toNat x)).2.1).length:Int) else (if ((gtd QL p.2.1 (Int.toNat x)).1)<(0:Int) then (0:Int) else ((gtd QL p.2.1 (Int.toNat x)).1))))))) (w64 (x+(1:Int))))) (K (Qdk n)))):Qi7 K p n x :=
 Loop.of (by kernel_rfl) h
theorem QGX (p:Qd) (h :
(Qi7 K p 0 0)):Hold (tawp QjQ (0+0) QF2 (TQ 0 0 Qtm K) (Qf [(.a (Tup.cells QQ p))])) :=
 Hold.of (by kernel_rfl) h
theorem QFP (p:Qd):TCon Tryz.prog 39 [(.a (Tup.cells QQ p))] (Qdk (Yt p)):=by
 refine Qq rfl fun hb=>tcg (n:=28) (sg:=Qg5.sg) Ql TOk.nil (by kernel_rfl) (by kernel_rfl) (QGX _ p ?_)
 have hl_p_0:(p.1).length≤9223372036854775807:=hb.1.1.1
 have hl_p_1:(p.2.1).length≤9223372036854775807:=hb.1.2.1.1
 have hl_p_2:(p.2.2.1).length≤9223372036854775807:=hb.1.2.2.1.1
 have hl_p_3:(p.2.2.2).length≤9223372036854775807:=hb.1.2.2.2.1.1
 refine Zi p.2.1 (fun r k=>∀ y:Int,w64 (y+(r.map Ji).sum)=(Yt p)→Qi7 (fun r'=>r'=Qdk (Yt p)) p (w64 y) k) ?_ ?_ 0 (by simp [Yt])
 ·intro y he
  refine Qug (fun r'=>r'=Qdk (Yt p)) p _ _ ⟨fun h=>by simp at h,fun _=>R_eq ?_⟩
  simpa using he
 ·intro k x r hk hlt hg ih y he
  have hmem:x∈p.2.1:=List.mem_of_mem_drop (i:=k) (by rw [hk];exact List.mem_cons_self)
  have hbx:x.2.1.length≤9223372036854775807:=(hb.1.2.1.2 x hmem).2.1.1
  refine Qug (fun r'=>r'=Qdk (Yt p)) p _ _ ⟨fun _=>?_,fun h=>by simp at h;omega⟩
  rw [Int.toNat_natCast,hg,Qp (x:=(k:Int)+1) (by omega) (by omega),QFa hbx,Yw]
  refine ⟨⟨by omega,hlt⟩,ih _ ?_⟩
  rw [← he,List.map_cons,List.sum_cons,Int.add_assoc]
theorem Qz2:Qi Tryz.prog Qg5:=Qm fun x _=>QFP x.1
def Qjs (t:Bool):TRes:=zre (zcb t)
def QnH:TRow:=Qh 23 [(.a QQ)] fun x=>(none,Qjs (QaJ x.1))
def QLp:List TRow:=[Qg5]
def QJW:TCode :=
 (zsq [(.reg [zop 1 (.box 37 0 4),zmv 2 (zkb false)]),(.reg [zfa 3 1 1,zld 4 3 1,zle 5 4,zbi 6 .gtr 5 (zki 0),zmv 7 6,.grp 7 true [zLd 8 1 4,zca 9 39 [8],zbi 10 .eql 9 (zki 0)] 11 10,zmv 2 11]),.ret])
def QA3:List (ARv × Md):=[(.t 2,.one .d)]
theorem QFI (p:Qd) (h :
K (Qjs ((decide (((p.2.1).length:Int)>(0:Int)))&&((Yt p)==(0:Int))))):Hold (tawp QLp (0+0) QJW (TQ 0 0 QA3 K) (Qf [(.a (Tup.cells QQ p))])) :=
 Hold.of (by kernel_rfl) h
theorem QKc (p:Qd):TCon Tryz.prog 23 [(.a (Tup.cells QQ p))] (Qjs (QaJ p)):=by
 refine Qq rfl fun hb=>tcg (n:=12) (sg:=QnH.sg) Ql (TOk.cons Qz2 TOk.nil) (by kernel_rfl) (by kernel_rfl) (QFI _ p ?_)
 have hl_p_0:(p.1).length≤9223372036854775807:=hb.1.1.1
 have hl_p_1:(p.2.1).length≤9223372036854775807:=hb.1.2.1.1
 have hl_p_2:(p.2.2.1).length≤9223372036854775807:=hb.1.2.2.1.1
 have hl_p_3:(p.2.2.2).length≤9223372036854775807:=hb.1.2.2.2.1.1
 exact R_eq (by simp [QaJ])
theorem QBr:Qi Tryz.prog QnH:=Qm fun x _=>QKc x.1
end
end Go.Proofs.YtjbdljkhbglnhaaGreat.Am

