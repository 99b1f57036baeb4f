/- -/
import Derived.Test.YtephkbajoofeoaaWFG8
namespace Go.Proofs.Ytephkbajoofeoaa.Am
open Go Go.RowKit Go.Proofs.Ytephkbajoofeoaa
set_option linter.all false
noncomputable section
variable (K:TRes→Prop)
def Qaw (t:Int):TRes:=zre (zci t)
def Qew:TRow:=Ql 202 [(.a QG)] fun x=>(some (Ye x.1),Qaw (Zb x.1))
def Qcx:TTab:=⟨[],false⟩
def Qm9:TCode :=
 (zsq [(zsq [(.reg [zmv 5 4,zfa 6 1 1,zld 7 6 1,zle 8 7,zbi 9 .lss 5 8]),(.cond 9 .skip (.exit 0))]),(.block 1 (.draw [zmv 12 3,zfa 13 1 1,zld 14 13 1,zmv 15 4,zia 16 14 15 Qq,zfa 17 16 1,zld 18 17 1,zle 19 18,zfa 20 1 1,zld 21 20 1,zmv 22 4,zia 23 21 22 Qq,zfa 24 23 0,zld 25 24 1,zop 26 (.mm true (zki 0) 25),zbi 27 .sub 19 26,zop 28 (.mm true (zki 0) 27),zbi 29 .add 12 28,zmv 3 29] [])),(.reg [zmv 10 4,zbi 11 .add 10 (zki 1),zmv 4 11])])
def QjX:List (Nat × Md):=[(1,.b (zds 4)),(3,.one .d),(4,.one .d)]
def Qhn:TCode :=
 (zsq [(.reg [zmv 30 3,zmv 2 30]),.ret])
def QtU:TCode :=
 (zsq [(.reg [zop 1 (.box 139 0 4),zmv 2 (zki 0)]),(.reg [zmv 3 (zki 0)]),(zsq [(.reg [zmv 4 (zki 0)]),(.block 0 (.loop QjX Qm9))]),Qhn])
def Qm3:List (ARv × Md):=[(.t 2,.one .d)]
def Qnt:Qb:=TQ 0 0 Qm3 K
def QuM:Qb:=Qseq (tawp Qcx 0 Qhn (Qnt K)) (Qnt K)
def QuS:Qb:=Qblk 0 (QuM K)
def Qdk (p:Qs) (n:Int) (s:Int):Prop:=Loop Qcx 0 QjX Qm9 (QuS K) ⟨[(1,(.p 0 0 0)),(3,(zci n)),(4,(zci s))],[(0,(.box (Tup.cells QG p)))],1⟩
theorem QlQ (p:Qs) (n:Int) (s:Int) (h :
 (zif (decide (s<((p.2.1).length:Int))) ((((0:Int)≤s∧Int.toNat s<(p.2.1).length)∧((0:Int)≤s∧Int.toNat s<(p.2.1).length))∧(Qdk K p (w64 (n+(if (0:Int)<(w64 ((((gtd QB p.2.1 (Int.toNat s)).2.1).length:Int)-(if (0:Int)<((gtd QB p.2.1 (Int.toNat s)).1) then ((gtd QB p.2.1 (Int.toNat s)).1) else (0:Int)))) then (w64 ((((gtd QB p.2.1 (Int.toNat s)).2.1).length:Int)-(if (0:Int)<((gtd QB p.2.1 (Int.toNat s)).1) then ((gtd QB p.2.1 (Int.toNat s)).1) else (0:Int)))) else (0:Int)))) (w64 (s+(1:Int))))) (K (Qaw n)))):Qdk K p n s :=
 Loop.of (by kernel_rfl) h
theorem Qxc (p:Qs) (h :
 (Qdk K p 0 0)):Hold (tawp Qcx (0+0) QtU (TQ 0 0 Qm3 K) (Qk [(.a (Tup.cells QG p))])) :=
 Hold.of (by kernel_rfl) h
theorem QrT (p:Qs) (hp:Ye p):TCon Try.prog 202 [(.a (Tup.cells QG p))] (Qaw (Zb p)):=by
 refine Qp rfl fun hb=>tcg (Γ:=Qcx) (n:=31) (sg:=Qew.sg) Qo TOkL.nil (by kernel_rfl) (by kernel_rfl) (Qxc _ p ?_)
 have hl_p_0:(p.1).length≤9223372036854775807:=hb.1.1.1
 have hl_p_1:(p.2.1).length≤9223372036854775807:=hb.1.2.1.1
 have hl_p_2:(p.2.2.1).length≤9223372036854775807:=hb.1.2.2.1.1
 have hl_p_3:(p.2.2.2).length≤9223372036854775807:=hb.1.2.2.2.1.1
 refine YC p.2.1 (fun r k=>∀ y:Int,w64 (y+(r.map ZU).sum)=(Zb p)→Qdk (fun r'=>r'=Qaw (Zb p)) p (w64 y) k) ?_ ?_ 0 (by simp [Zb])
 ·intro y he
  refine QlQ (fun r'=>r'=Qaw (Zb p)) p _ _ ⟨fun h=>by simp at h,fun _=>R_eq ?_⟩
  simpa using he
 ·intro k x r hk hlt hg ih y he
  have hmem:x∈p.2.1:=List.mem_of_mem_drop (i:=k) (by rw [hk];exact List.mem_cons_self)
  have hbx:x.2.1.length≤9223372036854775807:=(hb.1.2.1.2 x hmem).2.1.1
  refine QlQ (fun r'=>r'=Qaw (Zb p)) p _ _ ⟨fun _=>?_,fun h=>by simp at h;omega⟩
  rw [Int.toNat_natCast,hg,QN (x:=(k:Int)+1) (by omega) (by omega),Qv1 (hp x hmem) hbx,Qoi]
  refine ⟨⟨⟨by omega,hlt⟩,by omega,hlt⟩,ih _ ?_⟩
  rw [← he,List.map_cons,List.sum_cons,Int.add_assoc]
theorem QsS:Qm Try.prog Qew:=Qr fun x h=>QrT x.1 h
def Qar (t:Int):TRes:=zre (zci t)
def Qfd:TRow:=Ql 203 [(.a QG)] fun x=>(none,Qar (Zb x.1))
def Qc4:TTab:=⟨[],false⟩
def Qor:TCode :=
 (zsq [(.reg [zbi 10 .lss 9 8]),(.cond 10 .skip (.exit 0)),(.block 1 (zsq [(.reg [zia 11 7 9 Qq,zLd 12 11 14,zop 5 (.new 121 (z0s Qq)),zst 5 12 14]),(.reg [zmv 13 3,zfa 14 5 1,zld 15 14 1,zle 16 15,zfa 17 5 0,zld 18 17 1,zop 19 (.mm true 18 (zki 0)),zfa 20 5 1,zld 21 20 1,zle 22 21,zop 23 (.mm false 19 22),zbi 24 .sub 16 23,zbi 25 .add 13 24,zmv 3 25])])),(.reg [zbi 26 .add 9 (zki 1),zmv 9 26])])
def QkL:List (Nat × Md):=zdl [3,7,8,9]
def Ql5:TCode :=
 (zsq [(.reg [zmv 27 3,zmv 2 27]),.ret])
def QvU:TCode :=
 (zsq [(.reg [zop 1 (.box 139 0 4),zmv 2 (zki 0)]),(.reg [zmv 3 (zki 0)]),(zsq [(.reg [zfa 6 1 1,zld 7 6 1,zle 8 7,zmv 9 (zki 0)]),(.block 0 (.loop QkL Qor))]),Ql5])
def QhZ:List (ARv × Md):=[(.t 2,.one .d)]
def QoA:Qb:=TQ 0 0 QhZ K
def QyK:Qb:=Qseq (tawp Qc4 0 Ql5 (QoA K)) (QoA K)
def Qy1:Qb:=Qblk 0 (QyK K)
def QbL (p:Qs) (n:Int) (x:Int):Prop:=Loop Qc4 0 QkL Qor (Qy1 K) ⟨[(3,(zci n)),(7,(zcs Qq p.2.1)),(8,(zci ((p.2.1).length:Int))),(9,(zci x))],[],0⟩
theorem QjZ (p:Qs) (n:Int) (x:Int) (h :
 (zif (decide (x<((p.2.1).length:Int))) (((0:Int)≤x∧Int.toNat x<(p.2.1).length)∧(QbL K p (w64 (n+(w64 ((((gtd QB p.2.1 (Int.toNat x)).2.1).length:Int)-(if (((gtd QB p.2.1 (Int.toNat x)).2.1).length:Int)<(if ((gtd QB p.2.1 (Int.toNat x)).1)<(0:Int) then (0:Int) else ((gtd QB p.2.1 (Int.toNat x)).1)) then (((gtd QB p.2.1 (Int.toNat x)).2.1).length:Int) else (if ((gtd QB p.2.1 (Int.toNat x)).1)<(0:Int) then (0:Int) else ((gtd QB p.2.1 (Int.toNat x)).1))))))) (w64 (x+(1:Int))))) (K (Qar n)))):QbL K p n x :=
 Loop.of (by kernel_rfl) h
theorem Qv5 (p:Qs) (h :
 (QbL K p 0 0)):Hold (tawp Qc4 (0+0) QvU (TQ 0 0 QhZ K) (Qk [(.a (Tup.cells QG p))])) :=
 Hold.of (by kernel_rfl) h
theorem Qvt (p:Qs):TCon Try.prog 203 [(.a (Tup.cells QG p))] (Qar (Zb p)):=by
 refine Qp rfl fun hb=>tcg (Γ:=Qc4) (n:=28) (sg:=Qfd.sg) Qo TOkL.nil (by kernel_rfl) (by kernel_rfl) (Qv5 _ p ?_)
 have hl_p_0:(p.1).length≤9223372036854775807:=hb.1.1.1
 have hl_p_1:(p.2.1).length≤9223372036854775807:=hb.1.2.1.1
 have hl_p_2:(p.2.2.1).length≤9223372036854775807:=hb.1.2.2.1.1
 have hl_p_3:(p.2.2.2).length≤9223372036854775807:=hb.1.2.2.2.1.1
 refine YC p.2.1 (fun r k=>∀ y:Int,w64 (y+(r.map ZU).sum)=(Zb p)→QbL (fun r'=>r'=Qar (Zb p)) p (w64 y) k) ?_ ?_ 0 (by simp [Zb])
 ·intro y he
  refine QjZ (fun r'=>r'=Qar (Zb p)) p _ _ ⟨fun h=>by simp at h,fun _=>R_eq ?_⟩
  simpa using he
 ·intro k x r hk hlt hg ih y he
  have hmem:x∈p.2.1:=List.mem_of_mem_drop (i:=k) (by rw [hk];exact List.mem_cons_self)
  have hbx:x.2.1.length≤9223372036854775807:=(hb.1.2.1.2 x hmem).2.1.1
  refine QjZ (fun r'=>r'=Qar (Zb p)) p _ _ ⟨fun _=>?_,fun h=>by simp at h;omega⟩
  rw [Int.toNat_natCast,hg,QN (x:=(k:Int)+1) (by omega) (by omega),Qyw hbx,Qoi]
  refine ⟨⟨by omega,hlt⟩,ih _ ?_⟩
  rw [← he,List.map_cons,List.sum_cons,Int.add_assoc]
theorem Qtq:Qm Try.prog Qfd:=Qr fun x _=>Qvt x.1
def QfP (t:Bool):TRes:=zre (zcb t)
def Qfl:TRow:=Ql 179 [(.a QG)] fun x=>(none,QfP (Z7 x.1))
def QnK:TTab:=⟨[Qfd],false⟩
def QvC:TCode :=
 (zsq [(.reg [zop 1 (.box 139 0 4),zmv 2 (zkb false)]),(.reg [zfa 3 1 1,zld 4 3 1,zle 5 4,zbi 6 .gtr 5 (zki 0),zmv 7 6,.grp 7 true [zLd 8 1 4,zca 9 203 [8],zbi 10 .eql 9 (zki 0)] 11 10,zmv 2 11]),.ret])
def Qsg:List (ARv × Md):=[(.t 2,.one .d)]
theorem Qs9 (p:Qs) (h :
 K (QfP ((decide (((p.2.1).length:Int)>(0:Int)))&&((Zb p)==(0:Int))))):Hold (tawp QnK (0+0) QvC (TQ 0 0 Qsg K) (Qk [(.a (Tup.cells QG p))])) :=
 Hold.of (by kernel_rfl) h
theorem QqN (p:Qs):TCon Try.prog 179 [(.a (Tup.cells QG p))] (QfP (Z7 p)):=by
 refine Qp rfl fun hb=>tcg (Γ:=QnK) (n:=12) (sg:=Qfl.sg) Qo (TOkL.cons Qtq TOkL.nil) (by kernel_rfl) (by kernel_rfl) (Qs9 _ p ?_)
 have hl_p_0:(p.1).length≤9223372036854775807:=hb.1.1.1
 have hl_p_1:(p.2.1).length≤9223372036854775807:=hb.1.2.1.1
 have hl_p_2:(p.2.2.1).length≤9223372036854775807:=hb.1.2.2.1.1
 have hl_p_3:(p.2.2.2).length≤9223372036854775807:=hb.1.2.2.2.1.1
 exact R_eq (by simp [Z7])
theorem QtW:Qm Try.prog Qfl:=Qr fun x _=>QqN x.1
def Qft (t:Bool):TRes:=zre (zcb t)
def QdY:TRow:=Ql 177 [(.a QG)] fun x=>(some (Ye x.1),Qft (Z7 x.1))
def QkS:TTab:=⟨[Qew],false⟩
def Qvk:TCode :=
 (zsq [(.reg [zop 1 (.box 139 0 4),zmv 2 (zkb false)]),(.reg [zfa 3 1 1,zld 4 3 1,zle 5 4,zbi 6 .gtr 5 (zki 0),zmv 7 6,.grp 7 true [zLd 8 1 4,zca 9 202 [8],zbi 10 .eql 9 (zki 0)] 11 10,zmv 2 11]),.ret])
def Qzg:List (ARv × Md):=[(.t 2,.one .d)]
theorem Qyd (p:Qs) (h :
 (((decide (((p.2.1).length:Int)>(0:Int)))=true→(Ye p))∧K (Qft ((decide (((p.2.1).length:Int)>(0:Int)))&&((Zb p)==(0:Int)))))):Hold (tawp QkS (0+0) Qvk (TQ 0 0 Qzg K) (Qk [(.a (Tup.cells QG p))])) :=
 Hold.of (by kernel_rfl) h
theorem QuR (p:Qs) (hp:Ye p):TCon Try.prog 177 [(.a (Tup.cells QG p))] (Qft (Z7 p)):=by
 refine Qp rfl fun hb=>tcg (Γ:=QkS) (n:=12) (sg:=QdY.sg) Qo (TOkL.cons QsS TOkL.nil) (by kernel_rfl) (by kernel_rfl) (Qyd _ p ?_)
 have hl_p_0:(p.1).length≤9223372036854775807:=hb.1.1.1
 have hl_p_1:(p.2.1).length≤9223372036854775807:=hb.1.2.1.1
 have hl_p_2:(p.2.2.1).length≤9223372036854775807:=hb.1.2.2.1.1
 have hl_p_3:(p.2.2.2).length≤9223372036854775807:=hb.1.2.2.2.1.1
 exact ⟨fun _=>hp,R_eq (by simp [Z7])⟩
theorem Qvo:Qm Try.prog QdY:=Qr fun x h=>QuR x.1 h
end
end Go.Proofs.Ytephkbajoofeoaa.Am

