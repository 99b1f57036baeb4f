/- -/
import Derived.Test.YtjbdljkhbglnhaaGreatZGG8
namespace Go.Proofs.YtjbdljkhbglnhaaGreat.Am
open Go Go.RowKit Go.Proofs.YtjbdljkhbglnhaaGreat
set_option linter.all false
noncomputable section
variable (K:TRes→Prop)
def QdP (t:Int):TRes:=zre (zci t)
def Qna:TRow:=Qi 39 [(.a Q0)] fun x=>(none,QdP (Qag x.1))
def QnT:List TRow:=[]
def QvE:TCode :=
 (zsq [(.reg [zbi 10 .lss 9 8]),(.cond 10 .skip (.exit 0)),(.block 1 (zsq [(.reg [zia 11 7 9 Qu,zLd 12 11 14,zop 5 (.new 63 (z0s Qu)),zst 5 12 14]),(.reg [zmv 13 3,zfa 14 5 1,zld 15 14 1,zle 16 15,zfa 17 5 0,zld 18 17 1,zop 19 (.mm true 18 (zki 0)),zfa 20 5 1,zld 21 20 1,zle 22 21,zop 23 (.mm false 19 22),zbi 24 .sub 16 23,zbi 25 .add 13 24,zmv 3 25])])),(.reg [zbi 26 .add 9 (zki 1),zmv 9 26])])
def Qod:List (Nat × Md):=zdl [3,7,8,9]
def Qvv:TCode :=
 (zsq [(.reg [zmv 27 3,zmv 2 27]),.ret])
def QEt:TCode :=
 (zsq [(.reg [zop 1 (.box 37 0 4),zmv 2 (zki 0)]),(.reg [zmv 3 (zki 0)]),(zsq [(.reg [zfa 6 1 1,zld 7 6 1,zle 8 7,zmv 9 (zki 0)]),(.block 0 (.loop Qod QvE))]),Qvv])
def Qr0:List (ARv × Md):=[(.t 2,.one .d)]
def QtP:Qb:=TQ 0 0 Qr0 K
def QMQ:Qb:=Qseq (tawp QnT 0 Qvv (QtP K)) (QtP K)
def QJn:Qb:=Qblk 0 (QMQ K)
def Qh6 (p:Qo) (n:Int) (x:Int):Prop:=Loop QnT 0 Qod QvE (QJn K) ⟨[(3,(zci n)),(7,(zcs Qu p.2.1)),(8,(zci ((p.2.1).length:Int))),(9,(zci x))],[],0⟩
theorem Qpb (p:Qo) (n:Int) (x:Int) (h :
 (zif (decide (x<((p.2.1).length:Int))) (((0:Int)≤x∧Int.toNat x<(p.2.1).length)∧(Qh6 K p (w64 (n+(w64 ((((gtd QM p.2.1 (Int.toNat x)).2.1).length:Int)-(if (((gtd QM p.2.1 (Int.toNat x)).2.1).length:Int)<(if ((gtd QM p.2.1 (Int.toNat x)).1)<(0:Int) then (0:Int) else ((gtd QM p.2.1 (Int.toNat x)).1)) then (((gtd QM p.2.1 (Int.toNat x)).2.1).length:Int) else (if ((gtd QM p.2.1 (Int.toNat x)).1)<(0:Int) then (0:Int) else ((gtd QM p.2.1 (Int.toNat x)).1))))))) (w64 (x+(1:Int))))) (K (QdP n)))):Qh6 K p n x :=
 Loop.of (by kernel_rfl) h
theorem Qz5 (p:Qo) (h :
 (Qh6 K p 0 0)):Hold (tawp QnT (0+0) QEt (TQ 0 0 Qr0 K) (Qf [(.a (Tup.cells Q0 p))])) :=
 Hold.of (by kernel_rfl) h
theorem QMc (p:Qo):TCon Tryz.prog 39 [(.a (Tup.cells Q0 p))] (QdP (Qag p)):=by
 refine Qr rfl fun hb=>tcg (n:=28) (sg:=Qna.sg) Qk TOk.nil (by kernel_rfl) (by kernel_rfl) (Qz5 _ p ?_)
 have hl_p_0:(p.1).length≤9223372036854775807:=hb.1.1.1
 have hl_p_1:(p.2.1).length≤9223372036854775807:=hb.1.2.1.1
 have hl_p_2:(p.2.2.1).length≤9223372036854775807:=hb.1.2.2.1.1
 have hl_p_3:(p.2.2.2).length≤9223372036854775807:=hb.1.2.2.2.1.1
 refine Zz p.2.1 (fun r k=>∀ y:Int,w64 (y+(r.map J9).sum)=(Qag p)→Qh6 (fun r'=>r'=QdP (Qag p)) p (w64 y) k) ?_ ?_ 0 (by simp [Qag])
 ·intro y he
  refine Qpb (fun r'=>r'=QdP (Qag p)) p _ _ ⟨fun h=>by simp at h,fun _=>R_eq ?_⟩
  simpa using he
 ·intro k x r hk hlt hg ih y he
  have hmem:x∈p.2.1:=List.mem_of_mem_drop (i:=k) (by rw [hk];exact List.mem_cons_self)
  have hbx:x.2.1.length≤9223372036854775807:=(hb.1.2.1.2 x hmem).2.1.1
  refine Qpb (fun r'=>r'=QdP (Qag p)) p _ _ ⟨fun _=>?_,fun h=>by simp at h;omega⟩
  rw [Int.toNat_natCast,hg,Qp (x:=(k:Int)+1) (by omega) (by omega),QCL hbx,Qfs]
  refine ⟨⟨by omega,hlt⟩,ih _ ?_⟩
  rw [← he,List.map_cons,List.sum_cons,Int.add_assoc]
theorem QP8:Qj Tryz.prog Qna:=Ql fun x _=>QMc x.1
def QnH (t:Bool):TRes:=zre (zcb t)
def Qes:TRow:=Qi 23 [(.a Q0)] fun x=>(none,QnH (Y8 x.1))
def QzS:List TRow:=[Qna]
def QIK:TCode :=
 (zsq [(.reg [zop 1 (.box 37 0 4),zmv 2 (zkb false)]),(.reg [zfa 3 1 1,zld 4 3 1,zle 5 4,zbi 6 .gtr 5 (zki 0),zmv 7 6,.grp 7 true [zLd 8 1 4,zca 9 39 [8],zbi 10 .eql 9 (zki 0)] 11 10,zmv 2 11]),.ret])
def QPN:List (ARv × Md):=[(.t 2,.one .d)]
theorem QBu (p:Qo) (h :
 K (QnH ((decide (((p.2.1).length:Int)>(0:Int)))&&((Qag p)==(0:Int))))):Hold (tawp QzS (0+0) QIK (TQ 0 0 QPN K) (Qf [(.a (Tup.cells Q0 p))])) :=
 Hold.of (by kernel_rfl) h
theorem Qzk (p:Qo):TCon Tryz.prog 23 [(.a (Tup.cells Q0 p))] (QnH (Y8 p)):=by
 refine Qr rfl fun hb=>tcg (n:=12) (sg:=Qes.sg) Qk (TOk.cons QP8 TOk.nil) (by kernel_rfl) (by kernel_rfl) (QBu _ p ?_)
 have hl_p_0:(p.1).length≤9223372036854775807:=hb.1.1.1
 have hl_p_1:(p.2.1).length≤9223372036854775807:=hb.1.2.1.1
 have hl_p_2:(p.2.2.1).length≤9223372036854775807:=hb.1.2.2.1.1
 have hl_p_3:(p.2.2.2).length≤9223372036854775807:=hb.1.2.2.2.1.1
 exact R_eq (by simp [Y8])
theorem Qk1:Qj Tryz.prog Qes:=Ql fun x _=>Qzk x.1
end
end Go.Proofs.YtjbdljkhbglnhaaGreat.Am

