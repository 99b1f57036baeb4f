/- -/
import Derived.Test.YtdplaepmjogjjaaGreatVAP4
import Derived.Test.YtdplaepmjogjjaaGreatVAP1
import Derived.Test.YtdplaepmjogjjaaGreatVAPH
import Derived.Test.YtdplaepmjogjjaaGreatVAPG
import Derived.Test.YtdplaepmjogjjaaGreatVAPF
namespace Go.Proofs.YtdplaepmjogjjaaGreat.Am
open Go Go.RowKit Go.Proofs.YtdplaepmjogjjaaGreat
set_option linter.all false
noncomputable section
variable (K:TRes→Prop)
def Js (t:(List Int) × Bool):TRes:=⟨(.tp [(.r [TI] 0 0 ((t.1).length)),(zcb t.2)]),[(.sl 3 [TI] (.dp 0 true []) t.1)],[],false,[]⟩
def QiB:TRow:=Qh 170 [(.a ctOp),(.c (.sl [TI]))] fun x=>(none,Js (Zo x.1 x.2.1))
def Qpp:TTab:=⟨[Qdr,JN,Qjr,Qgu,Qhc,Qjn,Qh9],true⟩
def Qum:TCode :=
 (zsq [(.reg [zop 2 (.box 134 0 4),zmv 4 (.k (.n [TI])),zmv 5 (zkb false)]),(zsq [(.reg [zLd 10 2 4,zca 11 228 [10],zno 12 11,zmv 13 12,.grp 13 false [zmv 14 1,zfa 15 2 1,zld 16 15 1,zca 17 100 [14,16],zno 18 17] 19 18]),(.cond 19 (zsq [(.reg [zmv 4 (.k (.n [TI])),zmv 5 (zkb false)]),.ret]) .skip)]),(zsq [(.reg [zfa 20 2 0,zld 21 20 1]),(.block 0 (zsq [(.reg [zbi 23 .eql 21 (zki 1),zmv 22 23]),(.cond 22 (zsq [(.reg [zLd 24 2 4,zca 25 230 [24],zmv 26 1,zca 27 229 [25,26],zex 28 27 0,zex 29 27 1,zmv 4 28,zmv 5 29]),.ret]) (zsq [(.reg [zbi 31 .eql 21 (zki 2),zmv 30 31]),(.cond 30 (zsq [(.reg [zmv 32 1,zfa 33 2 3,zld 34 33 1,zca 35 231 [32,34],zex 36 35 0,zex 37 35 1,zmv 4 36,zmv 5 37]),.ret]) (zsq [(.reg [zbi 39 .eql 21 (zki 4),zmv 38 39]),(.cond 38 (zsq [(.reg [zfa 40 2 3,zld 41 40 1,zia 42 41 (zki 0) [TI],zld 43 42 1,zmv 44 1,zca 45 232 [43,44],zex 46 45 0,zex 47 45 1,zmv 4 46,zmv 5 47]),.ret]) (zsq [(.reg [zbi 49 .eql 21 (zki 5),zmv 48 49]),(.cond 48 (zsq [(.reg [zLd 51 2 4,zca 52 230 [51],zmv 53 1,zca 54 229 [52,53],zmv 50 54,zex 55 50 0,zex 56 50 1,zmv 6 55,zmv 7 56]),(.reg [zmv 58 1,zmv 59 6,zca 60 231 [58,59],zmv 57 60,zex 61 57 0,zex 62 57 1,zmv 8 61,zmv 9 62]),(.reg [zmv 63 8,zmv 64 7,zmv 65 64,.grp 65 false [zmv 66 9] 67 66,zmv 4 63,zmv 5 67]),.ret]) .skip)]))]))]))]))]),(.reg [zmv 68 1,zca 69 233 [68],zmv 4 69,zmv 5 (zkb false)]),.ret])
def QzV:List (ARv × Md):=[(.t 4,.one (.p 3)),(.t 5,.one .d)]
theorem QuG (o:TOp') (x:List Int) (h :
 (zif ((!(QT o))||(!(Qx x o.2.1))) (K (Js (([]:List Int),false))) (zif (o.1==(1:Int)) (K (Js ((List.take (((Qz (QM o) x).1).length) ((Qz (QM o) x).1)),(Qz (QM o) x).2))) (zif (o.1==(2:Int)) (K (Js ((List.take (((QH x o.2.2.2).1).length) ((QH x o.2.2.2).1)),(QH x o.2.2.2).2))) (zif (o.1==(4:Int)) (((0:Int)≤(0:Int)∧Int.toNat (0:Int)<(o.2.2.2).length)∧K (Js ((List.take (((QV (gtd (0:Int) o.2.2.2 (Int.toNat (0:Int))) x).1).length) ((QV (gtd (0:Int) o.2.2.2 (Int.toNat (0:Int))) x).1)),(QV (gtd (0:Int) o.2.2.2 (Int.toNat (0:Int))) x).2))) (zif (o.1==(5:Int)) (K (Js ((List.take (((QH x (List.take (((Qz (QM o) x).1).length) (List.drop 0 ((Qz (QM o) x).1)))).1).length) ((QH x (List.take (((Qz (QM o) x).1).length) (List.drop 0 ((Qz (QM o) x).1)))).1)),(((Qz (QM o) x).2)||((QH x (List.take (((Qz (QM o) x).1).length) (List.drop 0 ((Qz (QM o) x).1)))).2))))) (K (Js ((List.take ((Q6 x).length) (Q6 x)),false))))))))):Hold (tawp Qpp (0+0) Qum (TQ 0 0 QzV K) (Qf [(.a (Tup.cells ctOp o)),(.c (.sl [TI]) x)])) :=
 Hold.of (by kernel_rfl) h
theorem QBS (o:TOp') (x:List Int):TCon Tryz.prog 170 [(.a (Tup.cells ctOp o)),(.c (.sl [TI]) x)] (Js (Zo o x)):=by
 refine Qj rfl fun hb=>tcg (Γ:=Qpp) (n:=70) (sg:=QiB.sg) Qi (TOkL.cons Qrh (TOkL.cons QaX (TOkL.cons QAb (TOkL.cons QE7 (TOkL.cons Que (TOkL.cons QA4 (TOkL.cons QtK TOkL.nil))))))) (by kernel_rfl) (by kernel_rfl) (QuG _ o x ?_)
 have hl_o_3:(o.2.2.2).length≤9223372036854775807:=hb.1.2.2.2.1.1
 have hl_x:x.length≤9223372036854775807:=hb.2.1.1
 refine ⟨fun h=>R_eq (by rw [Qtr];intro h2;simp [h2.1,h2.2] at h),fun h=>?_⟩
 have hp:QT o=true∧Qx x o.2.1=true:=by simpa using h
 have hk:=Qk4 hp.1
 have hv:(Zo o x)=(if o.1=1 then Qz (QM o) x else if o.1=2 then QH x o.2.2.2 else if o.1=4 then QV (gtd 0 o.2.2.2 0) x
    else if o.1=5 then ((QH x (Qz (QM o) x).1).1,(Qz (QM o) x).2||(QH x (Qz (QM o) x).1).2) else (Q6 x,false)):=by
  unfold Zo;rw [if_pos (by rw [hp.1,hp.2];rfl)]
 refine ⟨fun h1=>R_eq ?_,fun h1=>⟨fun h2=>R_eq ?_,fun h2=>⟨fun h4=>⟨⟨by omega,Qm3 hp.1 (by simpa using h4)⟩,R_eq ?_⟩,fun h4=>⟨fun h5=>R_eq ?_,fun h5=>R_eq ?_⟩⟩⟩⟩
 all_goals (rw [hv];clear hv;simp at *;simp [*])
theorem Qt0:Qg Tryz.prog QiB:=Qk fun x _=>QBS x.1 x.2.1
def Jy (t:(List Int) × Bool):TRes:=zra (.tp [(zcs [TI] t.1),(zcb t.2)])
def Qhs:TRow:=Qh 160 [(.a ctOp),(.c (.sl [TI]))] fun x=>(none,Jy (Zo x.1 x.2.1))
def QsD:TTab:=⟨[QdX,YW,QgX,Qid,Qi6,Qjb,Qgx],false⟩
def Qve:TCode :=
 (zsq [(.reg [zop 2 (.box 134 0 4),zmv 4 (.k (.n [TI])),zmv 5 (zkb false)]),(zsq [(.reg [zLd 10 2 4,zca 11 222 [10],zno 12 11,zmv 13 12,.grp 13 false [zmv 14 1,zca 15 97 [14],zno 16 15] 17 16,zmv 18 17,.grp 18 false [zmv 19 1,zle 20 19,zfa 21 2 1,zld 22 21 1,zbi 23 .neq 20 22] 24 23]),(.cond 24 (zsq [(.reg [zop 25 (.bsl 3 [TI] []),zmv 4 25,zmv 5 (zkb false)]),.ret]) .skip)]),(zsq [(.reg [zfa 26 2 0,zld 27 26 1]),(.block 0 (zsq [(.reg [zbi 29 .eql 27 (zki 1),zmv 28 29]),(.cond 28 (zsq [(.reg [zLd 30 2 4,zca 31 224 [30],zmv 32 1,zca 33 223 [31,32],zex 34 33 0,zex 35 33 1,zmv 4 34,zmv 5 35]),.ret]) (zsq [(.reg [zbi 37 .eql 27 (zki 2),zmv 36 37]),(.cond 36 (zsq [(.reg [zmv 38 1,zfa 39 2 3,zld 40 39 1,zca 41 225 [38,40],zex 42 41 0,zex 43 41 1,zmv 4 42,zmv 5 43]),.ret]) (zsq [(.reg [zbi 45 .eql 27 (zki 3),zmv 44 45]),(.cond 44 (zsq [(.reg [zmv 46 1,zca 47 226 [46],zmv 4 47,zmv 5 (zkb false)]),.ret]) (zsq [(.reg [zbi 49 .eql 27 (zki 4),zmv 48 49]),(.cond 48 (zsq [(.reg [zfa 50 2 3,zld 51 50 1,zia 52 51 (zki 0) [TI],zld 53 52 1,zmv 54 1,zca 55 227 [53,54],zex 56 55 0,zex 57 55 1,zmv 4 56,zmv 5 57]),.ret]) .skip)]))]))]))]))]),(.reg [zLd 59 2 4,zca 60 224 [59],zmv 61 1,zca 62 223 [60,61],zmv 58 62,zex 63 58 0,zex 64 58 1,zmv 6 63,zmv 7 64]),(.reg [zmv 66 1,zmv 67 6,zca 68 225 [66,67],zmv 65 68,zex 69 65 0,zex 70 65 1,zmv 8 69,zmv 9 70]),(.reg [zmv 71 8,zmv 72 7,zmv 73 72,.grp 73 false [zmv 74 9] 75 74,zmv 4 71,zmv 5 75]),.ret])
def QAl:List (ARv × Md):=[(.t 4,.one .d),(.t 5,.one .d)]
theorem QE9 (o:TOp') (x:List Int) (h :
 (zif (((!(QT o))||(!(QE x)))||((x.length:Int) != o.2.1)) (K (Jy (([]:List Int),false))) (zif (o.1==(1:Int)) (K (Jy ((Qz (QM o) x).1,(Qz (QM o) x).2))) (zif (o.1==(2:Int)) (K (Jy ((QH x o.2.2.2).1,(QH x o.2.2.2).2))) (zif (o.1==(3:Int)) (K (Jy ((Q6 x),false))) (zif (o.1==(4:Int)) (((0:Int)≤(0:Int)∧Int.toNat (0:Int)<(o.2.2.2).length)∧K (Jy ((QV (gtd (0:Int) o.2.2.2 (Int.toNat (0:Int))) x).1,(QV (gtd (0:Int) o.2.2.2 (Int.toNat (0:Int))) x).2))) (K (Jy ((QH x ((Qz (QM o) x).1)).1,(((Qz (QM o) x).2)||((QH x ((Qz (QM o) x).1)).2))))))))))):Hold (tawp QsD (0+0) Qve (TQ 0 0 QAl K) (Qf [(.a (Tup.cells ctOp o)),(.c (.sl [TI]) x)])) :=
 Hold.of (by kernel_rfl) h
theorem QAJ (o:TOp') (x:List Int):TCon Tryz.prog 160 [(.a (Tup.cells ctOp o)),(.c (.sl [TI]) x)] (Jy (Zo o x)):=by
 refine Qj rfl fun hb=>tcg (Γ:=QsD) (n:=76) (sg:=Qhs.sg) Qi (TOkL.cons Qsw (TOkL.cons Qar (TOkL.cons QDH (TOkL.cons QB2 (TOkL.cons QEC (TOkL.cons QuP (TOkL.cons Qvz TOkL.nil))))))) (by kernel_rfl) (by kernel_rfl) (QE9 _ o x ?_)
 have hl_o_3:(o.2.2.2).length≤9223372036854775807:=hb.1.2.2.2.1.1
 have hl_x:x.length≤9223372036854775807:=hb.2.1.1
 rw [Bool.or_assoc,QDS]
 refine ⟨fun h=>R_eq (by rw [Qtr];intro h2;simp [h2.1,h2.2] at h),fun h=>?_⟩
 have hp:QT o=true∧Qx x o.2.1=true:=by simpa using h
 have hk:=Qk4 hp.1
 have hv:(Zo o x)=(if o.1=1 then Qz (QM o) x else if o.1=2 then QH x o.2.2.2 else if o.1=4 then QV (gtd 0 o.2.2.2 0) x
    else if o.1=5 then ((QH x (Qz (QM o) x).1).1,(Qz (QM o) x).2||(QH x (Qz (QM o) x).1).2) else (Q6 x,false)):=by
  unfold Zo;rw [if_pos (by rw [hp.1,hp.2];rfl)]
 refine ⟨fun h1=>R_eq ?_,fun h1=>⟨fun h2=>R_eq ?_,fun h2=>⟨fun h3=>R_eq ?_,fun h3=>⟨fun h4=>⟨⟨by omega,Qm3 hp.1 (by simpa using h4)⟩,R_eq ?_⟩,fun h4=>R_eq ?_⟩⟩⟩⟩
 all_goals (rw [hv];clear hv;simp at *)
 ·simp [*]
 ·simp [*]
 ·simp [*]
 ·simp [*]
 ·have h5:o.1=5:=by omega
  simp [h5]
theorem QDw:Qg Tryz.prog Qhs:=Qk fun x _=>QAJ x.1 x.2.1
end
end Go.Proofs.YtdplaepmjogjjaaGreat.Am

