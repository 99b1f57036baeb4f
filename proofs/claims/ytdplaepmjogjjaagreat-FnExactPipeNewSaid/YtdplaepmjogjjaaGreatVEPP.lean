/- -/
import Derived.Test.YtdplaepmjogjjaaGreatVEPJ
import Derived.Test.YtdplaepmjogjjaaGreatVEP4
import Derived.Test.YtdplaepmjogjjaaGreatVEPF
import Derived.Test.YtdplaepmjogjjaaGreatVEP1
import Derived.Test.YtdplaepmjogjjaaGreatVEG8
import Derived.Test.YtdplaepmjogjjaaGreatVEGD
namespace Go.Proofs.YtdplaepmjogjjaaGreat.Am
open Go Go.RowKit Go.Proofs.YtdplaepmjogjjaaGreat
set_option linter.all false
set_option maxHeartbeats 2000000
noncomputable section
variable (K:TRes→Prop)
def Qf4 (t:Qr):TRes:=⟨(.a [(zci t.1),(.r Qd 0 0 ((t.2.1).length)),(.r ctOp 1 0 ((t.2.2.1).length)),(zcb t.2.2.2.1),(zcb t.2.2.2.2.1),(.r QZ 2 0 ((t.2.2.2.2.2.1).length)),(.r [(.sl [TI])] 3 0 ((t.2.2.2.2.2.2.1).length)),(.r [TI] 4 0 ((t.2.2.2.2.2.2.2.1).length)),(.r [TI] 5 0 ((t.2.2.2.2.2.2.2.2.1).length)),(.r [TI] 6 0 ((t.2.2.2.2.2.2.2.2.2.1).length)),(.r [TI] 7 0 ((t.2.2.2.2.2.2.2.2.2.2.1).length)),(.r [(.sl [TI])] 8 0 ((t.2.2.2.2.2.2.2.2.2.2.2.1).length)),(zci t.2.2.2.2.2.2.2.2.2.2.2.2.1),(zcb t.2.2.2.2.2.2.2.2.2.2.2.2.2)]),[(.sl 175 Qd (.dp 0 true []) t.2.1),(.sl 134 ctOp (.dp 0 true []) t.2.2.1),(.sl 108 QZ (.dp 0 true []) t.2.2.2.2.2.1),(.sl 106 [(.sl [TI])] (.dp 0 true []) t.2.2.2.2.2.2.1),(.sl 3 [TI] (.dp 0 true []) t.2.2.2.2.2.2.2.1),(.sl 3 [TI] (.dp 0 true []) t.2.2.2.2.2.2.2.2.1),(.sl 3 [TI] (.dp 0 true []) t.2.2.2.2.2.2.2.2.2.1),(.sl 3 [TI] (.dp 0 true []) t.2.2.2.2.2.2.2.2.2.2.1),(.sl 106 [(.sl [TI])] (.dp 0 true []) t.2.2.2.2.2.2.2.2.2.2.2.1)],[],false,[]⟩
def QhR:TRow:=Qg 130 [(.c (.sl ctOp)),(.c (.sl Qd)),(.c .bool),(.c .bool)] fun x=>(some (QbI x.1 x.2.1 x.2.2.1 x.2.2.2.1),Qf4 (Yb x.1 x.2.1 x.2.2.1 x.2.2.2.1))
def Qrq:TTab:=⟨[Qh3,YP,Qjk],true⟩
def QDq:TCode :=
 (zsq [(.reg [zop 8 (.new 39 (z0s Qt))]),(.reg [zmv 10 0,zca 11 165 [10],zop 12 (.build [(.n ctOp)] [(0,1,11)]),zop 9 (.new 77 [(.n ctOp)]),zst 9 12 1]),(zsq [(.reg [zLd 13 9 1,zca 14 167 [13],zno 15 14]),(.cond 15 (zsq [(.reg [zop 16 (.build (z0s Qt) []),zst 8 16 14]),.ret]) .skip)]),(.draw [zop 17 (.bsl 175 Qd []),zmv 18 1,zop 19 (.app 17 18 175 Qd),zfa 20 9 0,zld 21 20 1,zmv 22 2,zmv 23 3,zLd 24 9 1,zca 25 213 [24],zop 26 (.build (z0s Qt) [(1,1,19),(2,1,21),(3,1,22),(4,1,23),(11,3,25)]),zst 8 26 14] [(0,3),(2,3),(0,4),(2,4),(0,7),(2,7),(3,8),(4,8)]),.ret])
def QDX:List (ARv × Md):=[(.l 8 14 true,.b [.d,.p 175,.p 134,.d,.d,.p 108,.p 106,.p 3,.p 3,.p 3,.p 3,.p 106,.d,.d])]
theorem QHh (ops:List TOp') (plan:List TIns) (last:Bool) (redo:Bool) (h :
 ((ZF (α:=List TOp') ops)∧(zif (!(QB (List.take ((id (α:=List TOp') ops).length) (List.drop 0 (id (α:=List TOp') ops))))) (K (Qf4 ((0:Int),([]:List TIns),([]:List TOp'),false,false,([]:List QA),([]:List (List Int)),([]:List Int),([]:List Int),([]:List Int),([]:List Int),([]:List (List Int)),(0:Int),false))) (((0=0∨0+plan.length≤0)∧0+plan.length≤big)∧K (Qf4 ((0:Int),(List.take (0+plan.length) (plan:List TIns)),(List.take ((id (α:=List TOp') ops).length) (id (α:=List TOp') ops)),last,redo,([]:List QA),([]:List (List Int)),([]:List Int),([]:List Int),([]:List Int),([]:List Int),(List.take (((QR (List.take ((id (α:=List TOp') ops).length) (List.drop 0 (id (α:=List TOp') ops)))).1).length) ((QR (List.take ((id (α:=List TOp') ops).length) (List.drop 0 (id (α:=List TOp') ops)))).1)),(QR (List.take ((id (α:=List TOp') ops).length) (List.drop 0 (id (α:=List TOp') ops)))).2.1,(QR (List.take ((id (α:=List TOp') ops).length) (List.drop 0 (id (α:=List TOp') ops)))).2.2)))))):Hold (tawp Qrq (0+0) QDq (TQ 0 0 QDX K) (Qe [(.c (.sl ctOp) ops),(.c (.sl Qd) plan),(.c .bool last),(.c .bool redo)])) :=
 Hold.of (by kernel_rfl) h
theorem Qy9 (ops:List TOp') (plan:List TIns) (last:Bool) (redo:Bool) (hp:QbI ops plan last redo):TCon Tryz.prog 130 [(.c (.sl ctOp) ops),(.c (.sl Qd) plan),(.c .bool last),(.c .bool redo)] (Qf4 (Yb ops plan last redo)):=by
 refine Ql rfl fun hb=>tcg (Γ:=Qrq) (n:=27) (sg:=QhR.sg) Qk (TOkL.cons QJw (TOkL.cons J0 (TOkL.cons QB9 TOkL.nil))) (by kernel_rfl) (by kernel_rfl) (QHh _ ops plan last redo ?_)
 have hl_ops:ops.length≤9223372036854775807:=hb.1.1
 have hl_plan:plan.length≤9223372036854775807:=hb.2.1.1
 obtain ⟨h1,h2⟩:=hp
 simp only [id,List.drop_zero,List.take_length,true_or,true_and,Nat.zero_add]
 refine ⟨h1,fun h=>R_eq ?_,fun h=>⟨by rw [Q3];omega,R_eq ?_⟩⟩
 ·unfold Yb;rw [if_neg (by simpa using h)]
 ·unfold Yb;rw [if_pos (by simpa using h),Qp9]
theorem QBz:Qi Tryz.prog QhR:=Qm fun x h=>Qy9 x.1 x.2.1 x.2.2.1 x.2.2.2.1 h
def Qdl (t:Qr):TRes:=zra (.a (Tup.cells Qt t))
def QiX:TRow:=Qg 120 [(.c (.sl ctOp)),(.c (.sl Qd)),(.c .bool),(.c .bool)] fun x=>(some (QbI x.1 x.2.1 x.2.2.1 x.2.2.2.1),Qdl (Yb x.1 x.2.1 x.2.2.1 x.2.2.2.1))
def QlE:TTab:=⟨[Y0,QjB,QiC],false⟩
def QG5:TCode :=
 (zsq [(.reg [zop 8 (.new 39 (z0s Qt))]),(.reg [zmv 10 0,zop 11 (.build [(.n ctOp)] [(0,1,10)]),zop 9 (.new 77 [(.n ctOp)]),zst 9 11 1]),(zsq [(.reg [zLd 12 9 1,zca 13 157 [12],zno 14 13]),(.cond 14 (zsq [(.reg [zop 15 (.build (z0s Qt) []),zst 8 15 14]),.ret]) .skip)]),(.draw [zop 16 (.bsl 175 Qd []),zmv 17 1,zop 18 (.app 16 17 175 Qd),zmv 19 0,zca 20 155 [19],zmv 21 2,zmv 22 3,zLd 23 9 1,zca 24 201 [23],zop 25 (.build (z0s Qt) [(1,1,18),(2,1,20),(3,1,21),(4,1,22),(11,3,24)]),zst 8 25 14] [(0,7),(2,7),(4,7)]),.ret])
def Qxi:List (ARv × Md):=[(.l 8 14 true,.b (zds 14))]
theorem QEP (ops:List TOp') (plan:List TIns) (last:Bool) (redo:Bool) (h :
 (zif (!(QB ops)) (K (Qdl ((0:Int),[],[],false,false,[],[],[],[],[],[],[],(0:Int),false))) ((((0=0∨0+plan.length≤0)∧0+plan.length≤big)∧(ZF (α:=List TOp') ops))∧K (Qdl ((0:Int),(List.take (0+plan.length) (List.drop 0 (plan:List TIns))),(id (α:=List TOp') ops),last,redo,[],[],[],[],[],[],(QR ops).1,(QR ops).2.1,(QR ops).2.2))))):Hold (tawp QlE (0+0) QG5 (TQ 0 0 Qxi K) (Qe [(.c (.sl ctOp) ops),(.c (.sl Qd) plan),(.c .bool last),(.c .bool redo)])) :=
 Hold.of (by kernel_rfl) h
theorem QIc (ops:List TOp') (plan:List TIns) (last:Bool) (redo:Bool) (hp:QbI ops plan last redo):TCon Tryz.prog 120 [(.c (.sl ctOp) ops),(.c (.sl Qd) plan),(.c .bool last),(.c .bool redo)] (Qdl (Yb ops plan last redo)):=by
 refine Ql rfl fun hb=>tcg (Γ:=QlE) (n:=26) (sg:=QiX.sg) Qk (TOkL.cons Qan (TOkL.cons QIu (TOkL.cons QFj TOkL.nil))) (by kernel_rfl) (by kernel_rfl) (QEP _ ops plan last redo ?_)
 have hl_ops:ops.length≤9223372036854775807:=hb.1.1
 have hl_plan:plan.length≤9223372036854775807:=hb.2.1.1
 obtain ⟨h1,h2⟩:=hp
 simp only [id,List.drop_zero,List.take_length,true_or,true_and,Nat.zero_add]
 refine ⟨fun h=>R_eq ?_,fun h=>⟨⟨by rw [Q3];omega,h1⟩,R_eq ?_⟩⟩
 ·unfold Yb;rw [if_neg (by simpa using h)]
 ·unfold Yb;rw [if_pos (by simpa using h),Qp9]
theorem QIF:Qi Tryz.prog QiX:=Qm fun x h=>QIc x.1 x.2.1 x.2.2.1 x.2.2.2.1 h
end
end Go.Proofs.YtdplaepmjogjjaaGreat.Am

