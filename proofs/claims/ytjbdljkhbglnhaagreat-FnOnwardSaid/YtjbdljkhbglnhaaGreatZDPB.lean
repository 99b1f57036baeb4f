/- -/
import Derived.Test.YtjbdljkhbglnhaaGreatZDG8
namespace Go.Proofs.YtjbdljkhbglnhaaGreat.Am
open Go Go.RowKit Go.Proofs.YtjbdljkhbglnhaaGreat
set_option linter.all false
noncomputable section
variable (K:TRes→Prop)
def QeP (t:Int):TRes:=zre (zci t)
def Qmf:TRow:=Qj 36 [(.a QE)] fun x=>(some (Qco x.1),QeP (ZW x.1))
def QmJ:List TRow:=[]
def Qzw:TCode :=
 (zsq [(zsq [(.reg [zmv 5 4,zfa 6 1 1,zld 7 6 1,zle 8 7,zbi 9 .lss 5 8]),(.cond 9 .skip (.exit 0))]),(.block 1 (.draw [zmv 12 3,zfa 13 1 1,zld 14 13 1,zmv 15 4,zia 16 14 15 Qg,zfa 17 16 1,zld 18 17 1,zle 19 18,zfa 20 1 1,zld 21 20 1,zmv 22 4,zia 23 21 22 Qg,zfa 24 23 0,zld 25 24 1,zop 26 (.mm true (zki 0) 25),zbi 27 .sub 19 26,zop 28 (.mm true (zki 0) 27),zbi 29 .add 12 28,zmv 3 29] [])),(.reg [zmv 10 4,zbi 11 .add 10 (zki 1),zmv 4 11])])
def QvS:List (Nat × Md):=[(1,.b (zds 4)),(3,.one .d),(4,.one .d)]
def QEG:TCode :=
 (zsq [(.reg [zmv 30 3,zmv 2 30]),.ret])
def QRY:TCode :=
 (zsq [(.reg [zop 1 (.box 37 0 4),zmv 2 (zki 0)]),(.reg [zmv 3 (zki 0)]),(zsq [(.reg [zmv 4 (zki 0)]),(.block 0 (.loop QvS Qzw))]),QEG])
def QAS:List (ARv × Md):=[(.t 2,.one .d)]
def QvR:Qb:=TQ 0 0 QAS K
def QTm:Qb:=Qseq (tawp QmJ 0 QEG (QvR K)) (QvR K)
def QWr:Qb:=Qblk 0 (QTm K)
def Qke (p:Qe) (n:Int) (s:Int):Prop:=Loop QmJ 0 QvS Qzw (QWr K) ⟨[(1,(.p 0 0 0)),(3,(zci n)),(4,(zci s))],[(0,(.box (Tup.cells QE p)))],1⟩
theorem Qyn (p:Qe) (n:Int) (s:Int) (h :
 (zif (decide (s<((p.2.1).length:Int))) ((((0:Int)≤s∧Int.toNat s<(p.2.1).length)∧((0:Int)≤s∧Int.toNat s<(p.2.1).length))∧(Qke K p (w64 (n+(if (0:Int)<(w64 ((((gtd QC p.2.1 (Int.toNat s)).2.1).length:Int)-(if (0:Int)<((gtd QC p.2.1 (Int.toNat s)).1) then ((gtd QC p.2.1 (Int.toNat s)).1) else (0:Int)))) then (w64 ((((gtd QC p.2.1 (Int.toNat s)).2.1).length:Int)-(if (0:Int)<((gtd QC p.2.1 (Int.toNat s)).1) then ((gtd QC p.2.1 (Int.toNat s)).1) else (0:Int)))) else (0:Int)))) (w64 (s+(1:Int))))) (K (QeP n)))):Qke K p n s :=
 Loop.of (by kernel_rfl) h
theorem QGb (p:Qe) (h :
 (Qke K p 0 0)):Hold (tawp QmJ (0+0) QRY (TQ 0 0 QAS K) (Qh [(.a (Tup.cells QE p))])) :=
 Hold.of (by kernel_rfl) h
theorem QTp (p:Qe) (hp:Qco p):TCon Tryz.prog 36 [(.a (Tup.cells QE p))] (QeP (ZW p)):=by
 refine Qo rfl fun hb=>tcg (n:=31) (sg:=Qmf.sg) Ql TOk.nil (by kernel_rfl) (by kernel_rfl) (QGb _ p ?_)
 have hl_p_0:(p.1).length≤9223372036854775807:=hb.1.1.1
 have hl_p_1:(p.2.1).length≤9223372036854775807:=hb.1.2.1.1
 have hl_p_2:(p.2.2.1).length≤9223372036854775807:=hb.1.2.2.1.1
 have hl_p_3:(p.2.2.2).length≤9223372036854775807:=hb.1.2.2.2.1.1
 refine Zj p.2.1 (fun r k=>∀ y:Int,w64 (y+(r.map Jz).sum)=(ZW p)→Qke (fun r'=>r'=QeP (ZW p)) p (w64 y) k) ?_ ?_ 0 (by simp [ZW])
 ·intro y he
  refine Qyn (fun r'=>r'=QeP (ZW p)) p _ _ ⟨fun h=>by simp at h,fun _=>R_eq ?_⟩
  simpa using he
 ·intro k x r hk hlt hg ih y he
  have hmem:x∈p.2.1:=List.mem_of_mem_drop (i:=k) (by rw [hk];exact List.mem_cons_self)
  have hbx:x.2.1.length≤9223372036854775807:=(hb.1.2.1.2 x hmem).2.1.1
  refine Qyn (fun r'=>r'=QeP (ZW p)) p _ _ ⟨fun _=>?_,fun h=>by simp at h;omega⟩
  rw [Int.toNat_natCast,hg,Qt (x:=(k:Int)+1) (by omega) (by omega),QP9 (hp x hmem) hbx,Qfa]
  refine ⟨⟨⟨by omega,hlt⟩,by omega,hlt⟩,ih _ ?_⟩
  rw [← he,List.map_cons,List.sum_cons,Int.add_assoc]
theorem QWK:Qi Tryz.prog Qmf:=Qm fun x h=>QTp x.1 h
def Qea (t:Int):TRes:=zre (zci t)
def Qhz:TRow:=Qj 39 [(.a QE)] fun x=>(none,Qea (ZW x.1))
def Qnj:List TRow:=[]
def Qq7:TCode :=
 (zsq [(.reg [zbi 10 .lss 9 8]),(.cond 10 .skip (.exit 0)),(.block 1 (zsq [(.reg [zia 11 7 9 Qg,zLd 12 11 14,zop 5 (.new 63 (z0s Qg)),zst 5 12 14]),(.reg [zmv 13 3,zfa 14 5 1,zld 15 14 1,zle 16 15,zfa 17 5 0,zld 18 17 1,zop 19 (.mm true 18 (zki 0)),zfa 20 5 1,zld 21 20 1,zle 22 21,zop 23 (.mm false 19 22),zbi 24 .sub 16 23,zbi 25 .add 13 24,zmv 3 25])])),(.reg [zbi 26 .add 9 (zki 1),zmv 9 26])])
def QBb:List (Nat × Md):=zdl [3,7,8,9]
def Qxh:TCode :=
 (zsq [(.reg [zmv 27 3,zmv 2 27]),.ret])
def QNH:TCode :=
 (zsq [(.reg [zop 1 (.box 37 0 4),zmv 2 (zki 0)]),(.reg [zmv 3 (zki 0)]),(zsq [(.reg [zfa 6 1 1,zld 7 6 1,zle 8 7,zmv 9 (zki 0)]),(.block 0 (.loop QBb Qq7))]),Qxh])
def QrE:List (ARv × Md):=[(.t 2,.one .d)]
def QyO:Qb:=TQ 0 0 QrE K
def QGD:Qb:=Qseq (tawp Qnj 0 Qxh (QyO K)) (QyO K)
def QGm:Qb:=Qblk 0 (QGD K)
def Qju (p:Qe) (n:Int) (x:Int):Prop:=Loop Qnj 0 QBb Qq7 (QGm K) ⟨[(3,(zci n)),(7,(zcs Qg p.2.1)),(8,(zci ((p.2.1).length:Int))),(9,(zci x))],[],0⟩
theorem Qtp (p:Qe) (n:Int) (x:Int) (h :
 (zif (decide (x<((p.2.1).length:Int))) (((0:Int)≤x∧Int.toNat x<(p.2.1).length)∧(Qju K p (w64 (n+(w64 ((((gtd QC p.2.1 (Int.toNat x)).2.1).length:Int)-(if (((gtd QC p.2.1 (Int.toNat x)).2.1).length:Int)<(if ((gtd QC p.2.1 (Int.toNat x)).1)<(0:Int) then (0:Int) else ((gtd QC p.2.1 (Int.toNat x)).1)) then (((gtd QC p.2.1 (Int.toNat x)).2.1).length:Int) else (if ((gtd QC p.2.1 (Int.toNat x)).1)<(0:Int) then (0:Int) else ((gtd QC p.2.1 (Int.toNat x)).1))))))) (w64 (x+(1:Int))))) (K (Qea n)))):Qju K p n x :=
 Loop.of (by kernel_rfl) h
theorem QH2 (p:Qe) (h :
 (Qju K p 0 0)):Hold (tawp Qnj (0+0) QNH (TQ 0 0 QrE K) (Qh [(.a (Tup.cells QE p))])) :=
 Hold.of (by kernel_rfl) h
theorem QTZ (p:Qe):TCon Tryz.prog 39 [(.a (Tup.cells QE p))] (Qea (ZW p)):=by
 refine Qo rfl fun hb=>tcg (n:=28) (sg:=Qhz.sg) Ql TOk.nil (by kernel_rfl) (by kernel_rfl) (QH2 _ p ?_)
 have hl_p_0:(p.1).length≤9223372036854775807:=hb.1.1.1
 have hl_p_1:(p.2.1).length≤9223372036854775807:=hb.1.2.1.1
 have hl_p_2:(p.2.2.1).length≤9223372036854775807:=hb.1.2.2.1.1
 have hl_p_3:(p.2.2.2).length≤9223372036854775807:=hb.1.2.2.2.1.1
 refine Zj p.2.1 (fun r k=>∀ y:Int,w64 (y+(r.map Jz).sum)=(ZW p)→Qju (fun r'=>r'=Qea (ZW p)) p (w64 y) k) ?_ ?_ 0 (by simp [ZW])
 ·intro y he
  refine Qtp (fun r'=>r'=Qea (ZW p)) p _ _ ⟨fun h=>by simp at h,fun _=>R_eq ?_⟩
  simpa using he
 ·intro k x r hk hlt hg ih y he
  have hmem:x∈p.2.1:=List.mem_of_mem_drop (i:=k) (by rw [hk];exact List.mem_cons_self)
  have hbx:x.2.1.length≤9223372036854775807:=(hb.1.2.1.2 x hmem).2.1.1
  refine Qtp (fun r'=>r'=Qea (ZW p)) p _ _ ⟨fun _=>?_,fun h=>by simp at h;omega⟩
  rw [Int.toNat_natCast,hg,Qt (x:=(k:Int)+1) (by omega) (by omega),QGp hbx,Qfa]
  refine ⟨⟨by omega,hlt⟩,ih _ ?_⟩
  rw [← he,List.map_cons,List.sum_cons,Int.add_assoc]
theorem QvX:Qi Tryz.prog Qhz:=Qm fun x _=>QTZ x.1
def QlW (t:Bool):TRes:=zre (zcb t)
def QpR:TRow:=Qj 23 [(.a QE)] fun x=>(none,QlW (QcY x.1))
def QJT:List TRow:=[Qhz]
def QXf:TCode :=
 (zsq [(.reg [zop 1 (.box 37 0 4),zmv 2 (zkb false)]),(.reg [zfa 3 1 1,zld 4 3 1,zle 5 4,zbi 6 .gtr 5 (zki 0),zmv 7 6,.grp 7 true [zLd 8 1 4,zca 9 39 [8],zbi 10 .eql 9 (zki 0)] 11 10,zmv 2 11]),.ret])
def QHL:List (ARv × Md):=[(.t 2,.one .d)]
theorem QWN (p:Qe) (h :
 K (QlW ((decide (((p.2.1).length:Int)>(0:Int)))&&((ZW p)==(0:Int))))):Hold (tawp QJT (0+0) QXf (TQ 0 0 QHL K) (Qh [(.a (Tup.cells QE p))])) :=
 Hold.of (by kernel_rfl) h
theorem QNv (p:Qe):TCon Tryz.prog 23 [(.a (Tup.cells QE p))] (QlW (QcY p)):=by
 refine Qo rfl fun hb=>tcg (n:=12) (sg:=QpR.sg) Ql (TOk.cons QvX TOk.nil) (by kernel_rfl) (by kernel_rfl) (QWN _ p ?_)
 have hl_p_0:(p.1).length≤9223372036854775807:=hb.1.1.1
 have hl_p_1:(p.2.1).length≤9223372036854775807:=hb.1.2.1.1
 have hl_p_2:(p.2.2.1).length≤9223372036854775807:=hb.1.2.2.1.1
 have hl_p_3:(p.2.2.2).length≤9223372036854775807:=hb.1.2.2.2.1.1
 exact R_eq (by simp [QcY])
theorem QFz:Qi Tryz.prog QpR:=Qm fun x _=>QNv x.1
end
end Go.Proofs.YtjbdljkhbglnhaaGreat.Am

