/- -/
import Derived.Test.YtephkbajoofeoaaWEPJ
import Derived.Test.YtephkbajoofeoaaWEP4
import Derived.Test.YtephkbajoofeoaaWEGD
namespace Go.Proofs.Ytephkbajoofeoaa.Am
open Go Go.RowKit Go.Proofs.Ytephkbajoofeoaa
set_option linter.all false
set_option maxHeartbeats 2000000
noncomputable section
variable (K:TRes→Prop)
def QbN (t:Qq):TRes:=⟨(.a [(zci t.1),(.r Qf 0 0 ((t.2.1).length)),(.r ctOp 1 0 ((t.2.2.1).length)),(zcb t.2.2.2.1),(zcb t.2.2.2.2.1),(.r QB 2 0 ((t.2.2.2.2.2.1).length)),(.r [(.sl [TI])] 3 0 ((t.2.2.2.2.2.2.1).length)),(.r [TI] 4 0 ((t.2.2.2.2.2.2.2.1).length)),(.r [TI] 5 0 ((t.2.2.2.2.2.2.2.2.1).length)),(.r [TI] 6 0 ((t.2.2.2.2.2.2.2.2.2.1).length)),(.r [TI] 7 0 ((t.2.2.2.2.2.2.2.2.2.2.1).length)),(.r [(.sl [TI])] 8 0 ((t.2.2.2.2.2.2.2.2.2.2.2.1).length)),(zci t.2.2.2.2.2.2.2.2.2.2.2.2.1),(zcb t.2.2.2.2.2.2.2.2.2.2.2.2.2)]),[(.sl 151 Qf (.dp 0 true []) t.2.1),(.sl 76 ctOp (.dp 0 true []) t.2.2.1),(.sl 218 QB (.dp 0 true []) t.2.2.2.2.2.1),(.sl 91 [(.sl [TI])] (.dp 0 true []) t.2.2.2.2.2.2.1),(.sl 3 [TI] (.dp 0 true []) t.2.2.2.2.2.2.2.1),(.sl 3 [TI] (.dp 0 true []) t.2.2.2.2.2.2.2.2.1),(.sl 3 [TI] (.dp 0 true []) t.2.2.2.2.2.2.2.2.2.1),(.sl 3 [TI] (.dp 0 true []) t.2.2.2.2.2.2.2.2.2.2.1),(.sl 91 [(.sl [TI])] (.dp 0 true []) t.2.2.2.2.2.2.2.2.2.2.2.1)],[],false,[]⟩
def Qd1:TRow:=Ql 85 [(.c (.sl ctOp)),(.c (.sl Qf)),(.c .bool),(.c .bool)] fun x=>(some (JT x.1 x.2.1 x.2.2.1 x.2.2.2.1),QbN (Qi x.1 x.2.1 x.2.2.1 x.2.2.2.1))
def QgF:TTab:=⟨[Qec,QbG,QeZ],true⟩
def QpH:TCode :=
 (zsq [(.reg [zop 8 (.new 121 (z0s QO))]),(.reg [zmv 10 0,zca 11 155 [10],zop 12 (.build [(.n ctOp)] [(0,1,11)]),zop 9 (.new 66 [(.n ctOp)]),zst 9 12 1]),(zsq [(.reg [zLd 13 9 1,zca 14 133 [13],zno 15 14]),(.cond 15 (zsq [(.reg [zop 16 (.build (z0s QO) []),zst 8 16 14]),.ret]) .skip)]),(.draw [zop 17 (.bsl 151 Qf []),zmv 18 1,zop 19 (.app 17 18 151 Qf),zfa 20 9 0,zld 21 20 1,zmv 22 2,zmv 23 3,zLd 24 9 1,zca 25 156 [24],zop 26 (.build (z0s QO) [(1,1,19),(2,1,21),(3,1,22),(4,1,23),(11,3,25)]),zst 8 26 14] [(0,3),(2,3),(0,4),(2,4),(0,7),(2,7),(3,8),(4,8)]),.ret])
def QtK:List (ARv × Md):=[(.l 8 14 true,.b [.d,.p 151,.p 76,.d,.d,.p 218,.p 91,.p 3,.p 3,.p 3,.p 3,.p 91,.d,.d])]
theorem Qso (ops:List TOp') (plan:List TIns) (last:Bool) (redo:Bool) (h :
 ((ZO (α:=List TOp') ops)∧(zif (!(Qu (List.take ((id (α:=List TOp') ops).length) (List.drop 0 (id (α:=List TOp') ops))))) (K (QbN ((0:Int),([]:List TIns),([]:List TOp'),false,false,([]:List Qj),([]:List (List Int)),([]:List Int),([]:List Int),([]:List Int),([]:List Int),([]:List (List Int)),(0:Int),false))) (((0=0∨0+plan.length≤0)∧0+plan.length≤big)∧K (QbN ((0:Int),(List.take (0+plan.length) (plan:List TIns)),(List.take ((id (α:=List TOp') ops).length) (id (α:=List TOp') ops)),last,redo,([]:List Qj),([]:List (List Int)),([]:List Int),([]:List Int),([]:List Int),([]:List Int),(List.take (((Qy (List.take ((id (α:=List TOp') ops).length) (List.drop 0 (id (α:=List TOp') ops)))).1).length) ((Qy (List.take ((id (α:=List TOp') ops).length) (List.drop 0 (id (α:=List TOp') ops)))).1)),(Qy (List.take ((id (α:=List TOp') ops).length) (List.drop 0 (id (α:=List TOp') ops)))).2.1,(Qy (List.take ((id (α:=List TOp') ops).length) (List.drop 0 (id (α:=List TOp') ops)))).2.2)))))):Hold (tawp QgF (0+0) QpH (TQ 0 0 QtK K) (Qh [(.c (.sl ctOp) ops),(.c (.sl Qf) plan),(.c .bool last),(.c .bool redo)])) :=
 Hold.of (by kernel_rfl) h
theorem QqC (ops:List TOp') (plan:List TIns) (last:Bool) (redo:Bool) (hp:JT ops plan last redo):TCon Try.prog 85 [(.c (.sl ctOp) ops),(.c (.sl Qf) plan),(.c .bool last),(.c .bool redo)] (QbN (Qi ops plan last redo)):=by
 refine Qn rfl fun hb=>tcg (Γ:=QgF) (n:=27) (sg:=Qd1.sg) Qo (TOkL.cons Qpr (TOkL.cons QhR (TOkL.cons Qo9 TOkL.nil))) (by kernel_rfl) (by kernel_rfl) (Qso _ ops plan last redo ?_)
 have hl_ops:ops.length≤9223372036854775807:=hb.1.1
 have hl_plan:plan.length≤9223372036854775807:=hb.2.1.1
 obtain ⟨h1,h2⟩:=hp
 simp only [id,List.drop_zero,List.take_length,true_or,true_and,Nat.zero_add]
 refine ⟨h1,fun h=>R_eq ?_,fun h=>⟨by rw [QaY];omega,R_eq ?_⟩⟩
 ·unfold Qi;rw [if_neg (by simpa using h)]
 ·unfold Qi;rw [if_pos (by simpa using h),QhU]
theorem Qos:Qm Try.prog Qd1:=Qp fun x h=>QqC x.1 x.2.1 x.2.2.1 x.2.2.2.1 h
def QcU (t:Qq):TRes:=zra (.a (Tup.cells QO t))
def Qek:TRow:=Ql 83 [(.c (.sl ctOp)),(.c (.sl Qf)),(.c .bool),(.c .bool)] fun x=>(some (JT x.1 x.2.1 x.2.2.1 x.2.2.2.1),QcU (Qi x.1 x.2.1 x.2.2.1 x.2.2.2.1))
def Qic:TTab:=⟨[Qb7,Qd3,QdE],false⟩
def QsB:TCode :=
 (zsq [(.reg [zop 8 (.new 121 (z0s QO))]),(.reg [zmv 10 0,zop 11 (.build [(.n ctOp)] [(0,1,10)]),zop 9 (.new 66 [(.n ctOp)]),zst 9 11 1]),(zsq [(.reg [zLd 12 9 1,zca 13 60 [12],zno 14 13]),(.cond 14 (zsq [(.reg [zop 15 (.build (z0s QO) []),zst 8 15 14]),.ret]) .skip)]),(.draw [zop 16 (.bsl 151 Qf []),zmv 17 1,zop 18 (.app 16 17 151 Qf),zmv 19 0,zca 20 152 [19],zmv 21 2,zmv 22 3,zLd 23 9 1,zca 24 153 [23],zop 25 (.build (z0s QO) [(1,1,18),(2,1,20),(3,1,21),(4,1,22),(11,3,24)]),zst 8 25 14] [(0,7),(2,7),(4,7)]),.ret])
def Qpi:List (ARv × Md):=[(.l 8 14 true,.b (zds 14))]
theorem QsL (ops:List TOp') (plan:List TIns) (last:Bool) (redo:Bool) (h :
 (zif (!(Qu ops)) (K (QcU ((0:Int),[],[],false,false,[],[],[],[],[],[],[],(0:Int),false))) ((((0=0∨0+plan.length≤0)∧0+plan.length≤big)∧(ZO (α:=List TOp') ops))∧K (QcU ((0:Int),(List.take (0+plan.length) (List.drop 0 (plan:List TIns))),(id (α:=List TOp') ops),last,redo,[],[],[],[],[],[],(Qy ops).1,(Qy ops).2.1,(Qy ops).2.2))))):Hold (tawp Qic (0+0) QsB (TQ 0 0 Qpi K) (Qh [(.c (.sl ctOp) ops),(.c (.sl Qf) plan),(.c .bool last),(.c .bool redo)])) :=
 Hold.of (by kernel_rfl) h
theorem QtM (ops:List TOp') (plan:List TIns) (last:Bool) (redo:Bool) (hp:JT ops plan last redo):TCon Try.prog 83 [(.c (.sl ctOp) ops),(.c (.sl Qf) plan),(.c .bool last),(.c .bool redo)] (QcU (Qi ops plan last redo)):=by
 refine Qn rfl fun hb=>tcg (Γ:=Qic) (n:=26) (sg:=Qek.sg) Qo (TOkL.cons Qki (TOkL.cons Qps (TOkL.cons QrE TOkL.nil))) (by kernel_rfl) (by kernel_rfl) (QsL _ ops plan last redo ?_)
 have hl_ops:ops.length≤9223372036854775807:=hb.1.1
 have hl_plan:plan.length≤9223372036854775807:=hb.2.1.1
 obtain ⟨h1,h2⟩:=hp
 simp only [id,List.drop_zero,List.take_length,true_or,true_and,Nat.zero_add]
 refine ⟨fun h=>R_eq ?_,fun h=>⟨⟨by rw [QaY];omega,h1⟩,R_eq ?_⟩⟩
 ·unfold Qi;rw [if_neg (by simpa using h)]
 ·unfold Qi;rw [if_pos (by simpa using h),QhU]
theorem Qn7:Qm Try.prog Qek:=Qp fun x h=>QtM x.1 x.2.1 x.2.2.1 x.2.2.2.1 h
end
end Go.Proofs.Ytephkbajoofeoaa.Am

