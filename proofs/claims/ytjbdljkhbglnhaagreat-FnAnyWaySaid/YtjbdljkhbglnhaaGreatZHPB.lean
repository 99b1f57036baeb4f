/- -/
import Derived.Test.YtjbdljkhbglnhaaGreatZHG8
namespace Go.Proofs.YtjbdljkhbglnhaaGreat.Am
open Go Go.RowKit Go.Proofs.YtjbdljkhbglnhaaGreat
set_option linter.all false
noncomputable section
variable (K:TRes→Prop)
def Qd2 (t:Int):TRes:=zre (zci t)
def Qnz:TRow:=Qg 39 [(.a Q9)] fun x=>(none,Qd2 (Qal x.1))
def QnY:List TRow:=[]
def QzY:TCode :=
 (zsq [(.reg [zbi 10 .lss 9 8]),(.cond 10 .skip (.exit 0)),(.block 1 (zsq [(.reg [zia 11 7 9 Qx,zLd 12 11 14,zop 5 (.new 63 (z0s Qx)),zst 5 12 14]),(.reg [zmv 13 3,zfa 14 5 1,zld 15 14 1,zle 16 15,zfa 17 5 0,zld 18 17 1,zop 19 (.mm true 18 (zki 0)),zfa 20 5 1,zld 21 20 1,zle 22 21,zop 23 (.mm false 19 22),zbi 24 .sub 16 23,zbi 25 .add 13 24,zmv 3 25])])),(.reg [zbi 26 .add 9 (zki 1),zmv 9 26])])
def QzT:List (Nat × Md):=zdl [3,7,8,9]
def Quw:TCode :=
 (zsq [(.reg [zmv 27 3,zmv 2 27]),.ret])
def QNV:TCode :=
 (zsq [(.reg [zop 1 (.box 37 0 4),zmv 2 (zki 0)]),(.reg [zmv 3 (zki 0)]),(zsq [(.reg [zfa 6 1 1,zld 7 6 1,zle 8 7,zmv 9 (zki 0)]),(.block 0 (.loop QzT QzY))]),Quw])
def QwA:List (ARv × Md):=[(.t 2,.one .d)]
def Qz1:Qb:=TQ 0 0 QwA K
def QGr:Qb:=Qseq (tawp QnY 0 Quw (Qz1 K)) (Qz1 K)
def QEe:Qb:=Qblk 0 (QGr K)
def Qgd (p:Qr) (n:Int) (x:Int):Prop:=Loop QnY 0 QzT QzY (QEe K) ⟨[(3,(zci n)),(7,(zcs Qx p.2.1)),(8,(zci ((p.2.1).length:Int))),(9,(zci x))],[],0⟩
theorem QuD (p:Qr) (n:Int) (x:Int) (h :
 (zif (decide (x<((p.2.1).length:Int))) (((0:Int)≤x∧Int.toNat x<(p.2.1).length)∧(Qgd K p (w64 (n+(w64 ((((gtd QQ p.2.1 (Int.toNat x)).2.1).length:Int)-(if (((gtd QQ p.2.1 (Int.toNat x)).2.1).length:Int)<(if ((gtd QQ p.2.1 (Int.toNat x)).1)<(0:Int) then (0:Int) else ((gtd QQ p.2.1 (Int.toNat x)).1)) then (((gtd QQ p.2.1 (Int.toNat x)).2.1).length:Int) else (if ((gtd QQ p.2.1 (Int.toNat x)).1)<(0:Int) then (0:Int) else ((gtd QQ p.2.1 (Int.toNat x)).1))))))) (w64 (x+(1:Int))))) (K (Qd2 n)))):Qgd K p n x :=
 Loop.of (by kernel_rfl) h
theorem QBf (p:Qr) (h :
 (Qgd K p 0 0)):Hold (tawp QnY (0+0) QNV (TQ 0 0 QwA K) (Qf [(.a (Tup.cells Q9 p))])) :=
 Hold.of (by kernel_rfl) h
theorem QNJ (p:Qr):TCon Tryz.prog 39 [(.a (Tup.cells Q9 p))] (Qd2 (Qal p)):=by
 refine Qq rfl fun hb=>tcg (n:=28) (sg:=Qnz.sg) Qj TOk.nil (by kernel_rfl) (by kernel_rfl) (QBf _ p ?_)
 have hl_p_0:(p.1).length≤9223372036854775807:=hb.1.1.1
 have hl_p_1:(p.2.1).length≤9223372036854775807:=hb.1.2.1.1
 have hl_p_2:(p.2.2.1).length≤9223372036854775807:=hb.1.2.2.1.1
 have hl_p_3:(p.2.2.2).length≤9223372036854775807:=hb.1.2.2.2.1.1
 refine ZL p.2.1 (fun r k=>∀ y:Int,w64 (y+(r.map JQ).sum)=(Qal p)→Qgd (fun r'=>r'=Qd2 (Qal p)) p (w64 y) k) ?_ ?_ 0 (by simp [Qal])
 ·intro y he
  refine QuD (fun r'=>r'=Qd2 (Qal p)) p _ _ ⟨fun h=>by simp at h,fun _=>R_eq ?_⟩
  simpa using he
 ·intro k x r hk hlt hg ih y he
  have hmem:x∈p.2.1:=List.mem_of_mem_drop (i:=k) (by rw [hk];exact List.mem_cons_self)
  have hbx:x.2.1.length≤9223372036854775807:=(hb.1.2.1.2 x hmem).2.1.1
  refine QuD (fun r'=>r'=Qd2 (Qal p)) p _ _ ⟨fun _=>?_,fun h=>by simp at h;omega⟩
  rw [Int.toNat_natCast,hg,Qo (x:=(k:Int)+1) (by omega) (by omega),QKV hbx,Qdh]
  refine ⟨⟨by omega,hlt⟩,ih _ ?_⟩
  rw [← he,List.map_cons,List.sum_cons,Int.add_assoc]
theorem QCQ:Qh Tryz.prog Qnz:=Qk fun x _=>QNJ x.1
def Qm4 (t:Bool):TRes:=zre (zcb t)
def Qi1:TRow:=Qg 23 [(.a Q9)] fun x=>(none,Qm4 (Ji x.1))
def QPC:List TRow:=[Qnz]
def QOt:TCode :=
 (zsq [(.reg [zop 1 (.box 37 0 4),zmv 2 (zkb false)]),(.reg [zfa 3 1 1,zld 4 3 1,zle 5 4,zbi 6 .gtr 5 (zki 0),zmv 7 6,.grp 7 true [zLd 8 1 4,zca 9 39 [8],zbi 10 .eql 9 (zki 0)] 11 10,zmv 2 11]),.ret])
def QDY:List (ARv × Md):=[(.t 2,.one .d)]
theorem QBc (p:Qr) (h :
 K (Qm4 ((decide (((p.2.1).length:Int)>(0:Int)))&&((Qal p)==(0:Int))))):Hold (tawp QPC (0+0) QOt (TQ 0 0 QDY K) (Qf [(.a (Tup.cells Q9 p))])) :=
 Hold.of (by kernel_rfl) h
theorem QB6 (p:Qr):TCon Tryz.prog 23 [(.a (Tup.cells Q9 p))] (Qm4 (Ji p)):=by
 refine Qq rfl fun hb=>tcg (n:=12) (sg:=Qi1.sg) Qj (TOk.cons QCQ TOk.nil) (by kernel_rfl) (by kernel_rfl) (QBc _ p ?_)
 have hl_p_0:(p.1).length≤9223372036854775807:=hb.1.1.1
 have hl_p_1:(p.2.1).length≤9223372036854775807:=hb.1.2.1.1
 have hl_p_2:(p.2.2.1).length≤9223372036854775807:=hb.1.2.2.1.1
 have hl_p_3:(p.2.2.2).length≤9223372036854775807:=hb.1.2.2.2.1.1
 exact R_eq (by simp [Ji])
theorem Qry:Qh Tryz.prog Qi1:=Qk fun x _=>QB6 x.1
end
end Go.Proofs.YtjbdljkhbglnhaaGreat.Am

