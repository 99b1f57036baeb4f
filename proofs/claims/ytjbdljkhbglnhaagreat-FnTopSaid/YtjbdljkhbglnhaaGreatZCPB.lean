/- -/
import Derived.Test.YtjbdljkhbglnhaaGreatZCG8
namespace Go.Proofs.YtjbdljkhbglnhaaGreat.Am
open Go Go.RowKit Go.Proofs.YtjbdljkhbglnhaaGreat
set_option linter.all false
noncomputable section
variable (K:TRes→Prop)
def QeB (t:Int):TRes:=zre (zci t)
def Qlt:TRow:=Qf 39 [(.a QY)] fun x=>(none,QeB (J8 x.1))
def Qk7:List TRow:=[]
def QuI:TCode :=
 (zsq [(.reg [zbi 10 .lss 9 8]),(.cond 10 .skip (.exit 0)),(.block 1 (zsq [(.reg [zia 11 7 9 QI,zLd 12 11 14,zop 5 (.new 63 (z0s QI)),zst 5 12 14]),(.reg [zmv 13 3,zfa 14 5 1,zld 15 14 1,zle 16 15,zfa 17 5 0,zld 18 17 1,zop 19 (.mm true 18 (zki 0)),zfa 20 5 1,zld 21 20 1,zle 22 21,zop 23 (.mm false 19 22),zbi 24 .sub 16 23,zbi 25 .add 13 24,zmv 3 25])])),(.reg [zbi 26 .add 9 (zki 1),zmv 9 26])])
def Qyn:List (Nat × Md):=zdl [3,7,8,9]
def Qyf:TCode :=
 (zsq [(.reg [zmv 27 3,zmv 2 27]),.ret])
def QLi:TCode :=
 (zsq [(.reg [zop 1 (.box 37 0 4),zmv 2 (zki 0)]),(.reg [zmv 3 (zki 0)]),(zsq [(.reg [zfa 6 1 1,zld 7 6 1,zle 8 7,zmv 9 (zki 0)]),(.block 0 (.loop Qyn QuI))]),Qyf])
def Qt7:List (ARv × Md):=[(.t 2,.one .d)]
def QDW:Qb:=TQ 0 0 Qt7 K
def QLJ:Qb:=Qseq (tawp Qk7 0 Qyf (QDW K)) (QDW K)
def QFW:Qb:=Qblk 0 (QLJ K)
def Qic (p:Qk) (n:Int) (x:Int):Prop:=Loop Qk7 0 Qyn QuI (QFW K) ⟨[(3,(zci n)),(7,(zcs QI p.2.1)),(8,(zci ((p.2.1).length:Int))),(9,(zci x))],[],0⟩
theorem QyG (p:Qk) (n:Int) (x:Int) (h :
 (zif (decide (x<((p.2.1).length:Int))) (((0:Int)≤x∧Int.toNat x<(p.2.1).length)∧(Qic K p (w64 (n+(w64 ((((gtd QT p.2.1 (Int.toNat x)).2.1).length:Int)-(if (((gtd QT p.2.1 (Int.toNat x)).2.1).length:Int)<(if ((gtd QT p.2.1 (Int.toNat x)).1)<(0:Int) then (0:Int) else ((gtd QT p.2.1 (Int.toNat x)).1)) then (((gtd QT p.2.1 (Int.toNat x)).2.1).length:Int) else (if ((gtd QT p.2.1 (Int.toNat x)).1)<(0:Int) then (0:Int) else ((gtd QT p.2.1 (Int.toNat x)).1))))))) (w64 (x+(1:Int))))) (K (QeB n)))):Qic K p n x :=
 Loop.of (by kernel_rfl) h
theorem QJd (p:Qk) (h :
 (Qic K p 0 0)):Hold (tawp Qk7 (0+0) QLi (TQ 0 0 Qt7 K) (Qd [(.a (Tup.cells QY p))])) :=
 Hold.of (by kernel_rfl) h
theorem QFy (p:Qk):TCon Tryz.prog 39 [(.a (Tup.cells QY p))] (QeB (J8 p)):=by
 refine Qj rfl fun hb=>tcg (n:=28) (sg:=Qlt.sg) Qg TOk.nil (by kernel_rfl) (by kernel_rfl) (QJd _ p ?_)
 have hl_p_0:(p.1).length≤9223372036854775807:=hb.1.1.1
 have hl_p_1:(p.2.1).length≤9223372036854775807:=hb.1.2.1.1
 have hl_p_2:(p.2.2.1).length≤9223372036854775807:=hb.1.2.2.1.1
 have hl_p_3:(p.2.2.2).length≤9223372036854775807:=hb.1.2.2.2.1.1
 refine Zp p.2.1 (fun r k=>∀ y:Int,w64 (y+(r.map J6).sum)=(J8 p)→Qic (fun r'=>r'=QeB (J8 p)) p (w64 y) k) ?_ ?_ 0 (by simp [J8])
 ·intro y he
  refine QyG (fun r'=>r'=QeB (J8 p)) p _ _ ⟨fun h=>by simp at h,fun _=>R_eq ?_⟩
  simpa using he
 ·intro k x r hk hlt hg ih y he
  have hmem:x∈p.2.1:=List.mem_of_mem_drop (i:=k) (by rw [hk];exact List.mem_cons_self)
  have hbx:x.2.1.length≤9223372036854775807:=(hb.1.2.1.2 x hmem).2.1.1
  refine QyG (fun r'=>r'=QeB (J8 p)) p _ _ ⟨fun _=>?_,fun h=>by simp at h;omega⟩
  rw [Int.toNat_natCast,hg,Qq (x:=(k:Int)+1) (by omega) (by omega),QYn hbx,Qfk]
  refine ⟨⟨by omega,hlt⟩,ih _ ?_⟩
  rw [← he,List.map_cons,List.sum_cons,Int.add_assoc]
theorem QWm:Qe Tryz.prog Qlt:=Qh fun x _=>QFy x.1
def Qns (t:Bool):TRes:=zre (zcb t)
def Qfe:TRow:=Qf 23 [(.a QY)] fun x=>(none,Qns (Ja x.1))
def QHc:List TRow:=[Qlt]
def QIN:TCode :=
 (zsq [(.reg [zop 1 (.box 37 0 4),zmv 2 (zkb false)]),(.reg [zfa 3 1 1,zld 4 3 1,zle 5 4,zbi 6 .gtr 5 (zki 0),zmv 7 6,.grp 7 true [zLd 8 1 4,zca 9 39 [8],zbi 10 .eql 9 (zki 0)] 11 10,zmv 2 11]),.ret])
def QQR:List (ARv × Md):=[(.t 2,.one .d)]
theorem QMi (p:Qk) (h :
 K (Qns ((decide (((p.2.1).length:Int)>(0:Int)))&&((J8 p)==(0:Int))))):Hold (tawp QHc (0+0) QIN (TQ 0 0 QQR K) (Qd [(.a (Tup.cells QY p))])) :=
 Hold.of (by kernel_rfl) h
theorem QXL (p:Qk):TCon Tryz.prog 23 [(.a (Tup.cells QY p))] (Qns (Ja p)):=by
 refine Qj rfl fun hb=>tcg (n:=12) (sg:=Qfe.sg) Qg (TOk.cons QWm TOk.nil) (by kernel_rfl) (by kernel_rfl) (QMi _ p ?_)
 have hl_p_0:(p.1).length≤9223372036854775807:=hb.1.1.1
 have hl_p_1:(p.2.1).length≤9223372036854775807:=hb.1.2.1.1
 have hl_p_2:(p.2.2.1).length≤9223372036854775807:=hb.1.2.2.1.1
 have hl_p_3:(p.2.2.2).length≤9223372036854775807:=hb.1.2.2.2.1.1
 exact R_eq (by simp [Ja])
theorem Qlf:Qe Tryz.prog Qfe:=Qh fun x _=>QXL x.1
end
end Go.Proofs.YtjbdljkhbglnhaaGreat.Am

