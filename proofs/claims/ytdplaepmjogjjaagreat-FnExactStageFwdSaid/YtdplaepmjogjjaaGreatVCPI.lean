/- -/
import Derived.Test.YtdplaepmjogjjaaGreatVCP4
import Derived.Test.YtdplaepmjogjjaaGreatVCP1
import Derived.Test.YtdplaepmjogjjaaGreatVCPH
import Derived.Test.YtdplaepmjogjjaaGreatVCPG
import Derived.Test.YtdplaepmjogjjaaGreatVCPF
namespace Go.Proofs.YtdplaepmjogjjaaGreat.Am
open Go Go.RowKit Go.Proofs.YtdplaepmjogjjaaGreat
set_option linter.all false
noncomputable section
variable (K:TRes→Prop)
def Jw (t:(List Int) × Bool):TRes:=⟨(.tp [(.r [TI] 0 0 ((t.1).length)),(zcb t.2)]),[(.sl 3 [TI] (.dp 0 true []) t.1)],[],false,[]⟩
def Qi9:TRow:=Qg 170 [(.a ctOp),(.c (.sl [TI]))] fun x=>(none,Jw (Zm x.1 x.2.1))
def Qou:TTab:=⟨[Qef,Y0,QiA,Qie,QjC,Qj2,Qgz],true⟩
def QCQ:TCode :=
 (zsq [(.reg [zop 2 (.box 134 0 4),zmv 4 (.k (.n [TI])),zmv 5 (zkb false)]),(zsq [(.reg [zLd 10 2 4,zca 11 228 [10],zno 12 11,zmv 13 12,.grp 13 false [zmv 14 1,zfa 15 2 1,zld 16 15 1,zca 17 100 [14,16],zno 18 17] 19 18]),(.cond 19 (zsq [(.reg [zmv 4 (.k (.n [TI])),zmv 5 (zkb false)]),.ret]) .skip)]),(zsq [(.reg [zfa 20 2 0,zld 21 20 1]),(.block 0 (zsq [(.reg [zbi 23 .eql 21 (zki 1),zmv 22 23]),(.cond 22 (zsq [(.reg [zLd 24 2 4,zca 25 230 [24],zmv 26 1,zca 27 229 [25,26],zex 28 27 0,zex 29 27 1,zmv 4 28,zmv 5 29]),.ret]) (zsq [(.reg [zbi 31 .eql 21 (zki 2),zmv 30 31]),(.cond 30 (zsq [(.reg [zmv 32 1,zfa 33 2 3,zld 34 33 1,zca 35 231 [32,34],zex 36 35 0,zex 37 35 1,zmv 4 36,zmv 5 37]),.ret]) (zsq [(.reg [zbi 39 .eql 21 (zki 4),zmv 38 39]),(.cond 38 (zsq [(.reg [zfa 40 2 3,zld 41 40 1,zia 42 41 (zki 0) [TI],zld 43 42 1,zmv 44 1,zca 45 232 [43,44],zex 46 45 0,zex 47 45 1,zmv 4 46,zmv 5 47]),.ret]) (zsq [(.reg [zbi 49 .eql 21 (zki 5),zmv 48 49]),(.cond 48 (zsq [(.reg [zLd 51 2 4,zca 52 230 [51],zmv 53 1,zca 54 229 [52,53],zmv 50 54,zex 55 50 0,zex 56 50 1,zmv 6 55,zmv 7 56]),(.reg [zmv 58 1,zmv 59 6,zca 60 231 [58,59],zmv 57 60,zex 61 57 0,zex 62 57 1,zmv 8 61,zmv 9 62]),(.reg [zmv 63 8,zmv 64 7,zmv 65 64,.grp 65 false [zmv 66 9] 67 66,zmv 4 63,zmv 5 67]),.ret]) .skip)]))]))]))]))]),(.reg [zmv 68 1,zca 69 233 [68],zmv 4 69,zmv 5 (zkb false)]),.ret])
def QuQ:List (ARv × Md):=[(.t 4,.one (.p 3)),(.t 5,.one .d)]
theorem Qu1 (o:TOp') (x:List Int) (h :
 (zif ((!(Q7 o))||(!(Qw x o.2.1))) (K (Jw (([]:List Int),false))) (zif (o.1==(1:Int)) (K (Jw ((List.take (((QK (QW o) x).1).length) ((QK (QW o) x).1)),(QK (QW o) x).2))) (zif (o.1==(2:Int)) (K (Jw ((List.take (((QT x o.2.2.2).1).length) ((QT x o.2.2.2).1)),(QT x o.2.2.2).2))) (zif (o.1==(4:Int)) (((0:Int)≤(0:Int)∧Int.toNat (0:Int)<(o.2.2.2).length)∧K (Jw ((List.take (((Q9 (gtd (0:Int) o.2.2.2 (Int.toNat (0:Int))) x).1).length) ((Q9 (gtd (0:Int) o.2.2.2 (Int.toNat (0:Int))) x).1)),(Q9 (gtd (0:Int) o.2.2.2 (Int.toNat (0:Int))) x).2))) (zif (o.1==(5:Int)) (K (Jw ((List.take (((QT x (List.take (((QK (QW o) x).1).length) (List.drop 0 ((QK (QW o) x).1)))).1).length) ((QT x (List.take (((QK (QW o) x).1).length) (List.drop 0 ((QK (QW o) x).1)))).1)),(((QK (QW o) x).2)||((QT x (List.take (((QK (QW o) x).1).length) (List.drop 0 ((QK (QW o) x).1)))).2))))) (K (Jw ((List.take ((Ze x).length) (Ze x)),false))))))))):Hold (tawp Qou (0+0) QCQ (TQ 0 0 QuQ K) (Qd [(.a (Tup.cells ctOp o)),(.c (.sl [TI]) x)])) :=
 Hold.of (by kernel_rfl) h
theorem QwX (o:TOp') (x:List Int):TCon Tryz.prog 170 [(.a (Tup.cells ctOp o)),(.c (.sl [TI]) x)] (Jw (Zm o x)):=by
 refine Qi rfl fun hb=>tcg (Γ:=Qou) (n:=70) (sg:=Qi9.sg) Qj (TOkL.cons QtW (TOkL.cons QaD (TOkL.cons QxO (TOkL.cons QGi (TOkL.cons QHT (TOkL.cons QAW (TOkL.cons Qy5 TOkL.nil))))))) (by kernel_rfl) (by kernel_rfl) (Qu1 _ o x ?_)
 have hl_o_3:(o.2.2.2).length≤9223372036854775807:=hb.1.2.2.2.1.1
 have hl_x:x.length≤9223372036854775807:=hb.2.1.1
 refine ⟨fun h=>R_eq (by rw [QlF];intro h2;simp [h2.1,h2.2] at h),fun h=>?_⟩
 have hp:Q7 o=true∧Qw x o.2.1=true:=by simpa using h
 have hk:=QlE hp.1
 have hv:(Zm o x)=(if o.1=1 then QK (QW o) x else if o.1=2 then QT x o.2.2.2 else if o.1=4 then Q9 (gtd 0 o.2.2.2 0) x
    else if o.1=5 then ((QT x (QK (QW o) x).1).1,(QK (QW o) x).2||(QT x (QK (QW o) x).1).2) else (Ze x,false)):=by
  unfold Zm;rw [if_pos (by rw [hp.1,hp.2];rfl)]
 refine ⟨fun h1=>R_eq ?_,fun h1=>⟨fun h2=>R_eq ?_,fun h2=>⟨fun h4=>⟨⟨by omega,Ql4 hp.1 (by simpa using h4)⟩,R_eq ?_⟩,fun h4=>⟨fun h5=>R_eq ?_,fun h5=>R_eq ?_⟩⟩⟩⟩
 all_goals (rw [hv];clear hv;simp at *;simp [*])
theorem QG6:Qe Tryz.prog Qi9:=Qk fun x _=>QwX x.1 x.2.1
def JH (t:(List Int) × Bool):TRes:=zra (.tp [(zcs [TI] t.1),(zcb t.2)])
def Qhh:TRow:=Qg 160 [(.a ctOp),(.c (.sl [TI]))] fun x=>(none,JH (Zm x.1 x.2.1))
def QtZ:TTab:=⟨[Qes,YQ,QgS,QiK,Qib,Qkc,Qg4],false⟩
def QCj:TCode :=
 (zsq [(.reg [zop 2 (.box 134 0 4),zmv 4 (.k (.n [TI])),zmv 5 (zkb false)]),(zsq [(.reg [zLd 10 2 4,zca 11 222 [10],zno 12 11,zmv 13 12,.grp 13 false [zmv 14 1,zca 15 97 [14],zno 16 15] 17 16,zmv 18 17,.grp 18 false [zmv 19 1,zle 20 19,zfa 21 2 1,zld 22 21 1,zbi 23 .neq 20 22] 24 23]),(.cond 24 (zsq [(.reg [zop 25 (.bsl 3 [TI] []),zmv 4 25,zmv 5 (zkb false)]),.ret]) .skip)]),(zsq [(.reg [zfa 26 2 0,zld 27 26 1]),(.block 0 (zsq [(.reg [zbi 29 .eql 27 (zki 1),zmv 28 29]),(.cond 28 (zsq [(.reg [zLd 30 2 4,zca 31 224 [30],zmv 32 1,zca 33 223 [31,32],zex 34 33 0,zex 35 33 1,zmv 4 34,zmv 5 35]),.ret]) (zsq [(.reg [zbi 37 .eql 27 (zki 2),zmv 36 37]),(.cond 36 (zsq [(.reg [zmv 38 1,zfa 39 2 3,zld 40 39 1,zca 41 225 [38,40],zex 42 41 0,zex 43 41 1,zmv 4 42,zmv 5 43]),.ret]) (zsq [(.reg [zbi 45 .eql 27 (zki 3),zmv 44 45]),(.cond 44 (zsq [(.reg [zmv 46 1,zca 47 226 [46],zmv 4 47,zmv 5 (zkb false)]),.ret]) (zsq [(.reg [zbi 49 .eql 27 (zki 4),zmv 48 49]),(.cond 48 (zsq [(.reg [zfa 50 2 3,zld 51 50 1,zia 52 51 (zki 0) [TI],zld 53 52 1,zmv 54 1,zca 55 227 [53,54],zex 56 55 0,zex 57 55 1,zmv 4 56,zmv 5 57]),.ret]) .skip)]))]))]))]))]),(.reg [zLd 59 2 4,zca 60 224 [59],zmv 61 1,zca 62 223 [60,61],zmv 58 62,zex 63 58 0,zex 64 58 1,zmv 6 63,zmv 7 64]),(.reg [zmv 66 1,zmv 67 6,zca 68 225 [66,67],zmv 65 68,zex 69 65 0,zex 70 65 1,zmv 8 69,zmv 9 70]),(.reg [zmv 71 8,zmv 72 7,zmv 73 72,.grp 73 false [zmv 74 9] 75 74,zmv 4 71,zmv 5 75]),.ret])
def QzY:List (ARv × Md):=[(.t 4,.one .d),(.t 5,.one .d)]
theorem Qyg (o:TOp') (x:List Int) (h :
 (zif (((!(Q7 o))||(!(QD x)))||((x.length:Int) != o.2.1)) (K (JH (([]:List Int),false))) (zif (o.1==(1:Int)) (K (JH ((QK (QW o) x).1,(QK (QW o) x).2))) (zif (o.1==(2:Int)) (K (JH ((QT x o.2.2.2).1,(QT x o.2.2.2).2))) (zif (o.1==(3:Int)) (K (JH ((Ze x),false))) (zif (o.1==(4:Int)) (((0:Int)≤(0:Int)∧Int.toNat (0:Int)<(o.2.2.2).length)∧K (JH ((Q9 (gtd (0:Int) o.2.2.2 (Int.toNat (0:Int))) x).1,(Q9 (gtd (0:Int) o.2.2.2 (Int.toNat (0:Int))) x).2))) (K (JH ((QT x ((QK (QW o) x).1)).1,(((QK (QW o) x).2)||((QT x ((QK (QW o) x).1)).2))))))))))):Hold (tawp QtZ (0+0) QCj (TQ 0 0 QzY K) (Qd [(.a (Tup.cells ctOp o)),(.c (.sl [TI]) x)])) :=
 Hold.of (by kernel_rfl) h
theorem QHR (o:TOp') (x:List Int):TCon Tryz.prog 160 [(.a (Tup.cells ctOp o)),(.c (.sl [TI]) x)] (JH (Zm o x)):=by
 refine Qi rfl fun hb=>tcg (Γ:=QtZ) (n:=76) (sg:=Qhh.sg) Qj (TOkL.cons Qo2 (TOkL.cons JI (TOkL.cons QHL (TOkL.cons QDb (TOkL.cons QGR (TOkL.cons QD2 (TOkL.cons QAn TOkL.nil))))))) (by kernel_rfl) (by kernel_rfl) (Qyg _ o x ?_)
 have hl_o_3:(o.2.2.2).length≤9223372036854775807:=hb.1.2.2.2.1.1
 have hl_x:x.length≤9223372036854775807:=hb.2.1.1
 rw [Bool.or_assoc,Qze]
 refine ⟨fun h=>R_eq (by rw [QlF];intro h2;simp [h2.1,h2.2] at h),fun h=>?_⟩
 have hp:Q7 o=true∧Qw x o.2.1=true:=by simpa using h
 have hk:=QlE hp.1
 have hv:(Zm o x)=(if o.1=1 then QK (QW o) x else if o.1=2 then QT x o.2.2.2 else if o.1=4 then Q9 (gtd 0 o.2.2.2 0) x
    else if o.1=5 then ((QT x (QK (QW o) x).1).1,(QK (QW o) x).2||(QT x (QK (QW o) x).1).2) else (Ze x,false)):=by
  unfold Zm;rw [if_pos (by rw [hp.1,hp.2];rfl)]
 refine ⟨fun h1=>R_eq ?_,fun h1=>⟨fun h2=>R_eq ?_,fun h2=>⟨fun h3=>R_eq ?_,fun h3=>⟨fun h4=>⟨⟨by omega,Ql4 hp.1 (by simpa using h4)⟩,R_eq ?_⟩,fun h4=>R_eq ?_⟩⟩⟩⟩
 all_goals (rw [hv];clear hv;simp at *)
 ·simp [*]
 ·simp [*]
 ·simp [*]
 ·simp [*]
 ·have h5:o.1=5:=by omega
  simp [h5]
theorem QD3:Qe Tryz.prog Qhh:=Qk fun x _=>QHR x.1 x.2.1
def QhZ (t:Int × Bool):TRes:=zre (.tp [(zci t.1),(zcb t.2)])
def QiM:TRow:=Qg 105 [(.c (.sl [TI])),(.c (.sl [TI]))] fun x=>(none,QhZ (Zv x.1 x.2.1))
def Qkp:TTab:=⟨[QhV,Qe8],false⟩
def QCt:TCode :=
 (zsq [(.reg [zmv 4 (zki 0),zmv 5 (zkb false)]),(.reg [zmv 11 0,zmv 12 1,zca 13 111 [11,12],zmv 10 13,zex 14 10 0,zex 15 10 1,zmv 6 14,zmv 7 15]),(.reg [zmv 17 6,zmv 18 6,zca 19 188 [17,18],zmv 16 19,zex 20 16 0,zex 21 16 1,zmv 8 20,zmv 9 21]),(.reg [zmv 22 8,zbi 23 .shr 22 (.k (.c (.int .u64) (1:Int))),zmv 24 7,zmv 25 24,.grp 25 false [zmv 26 9] 27 26,zmv 4 23,zmv 5 27]),.ret])
def Qzm:List (ARv × Md):=[(.t 4,.one .d),(.t 5,.one .d)]
theorem Qz3 (y:List Int) (t:List Int) (h :
 (((0:Int)≤(1:Int))∧K (QhZ ((Int.fdiv ((QJ (List.take (((QQ y t).1).length) (List.drop 0 ((QQ y t).1))) (List.take (((QQ y t).1).length) (List.drop 0 ((QQ y t).1)))).1) (2 ^ (min (Int.toNat (1:Int)) (IntKind.i64.bits)))),(((QQ y t).2)||((QJ (List.take (((QQ y t).1).length) (List.drop 0 ((QQ y t).1))) (List.take (((QQ y t).1).length) (List.drop 0 ((QQ y t).1)))).2)))))):Hold (tawp Qkp (0+0) QCt (TQ 0 0 Qzm K) (Qd [(.c (.sl [TI]) y),(.c (.sl [TI]) t)])) :=
 Hold.of (by kernel_rfl) h
theorem QHW (y:List Int) (t:List Int):TCon Tryz.prog 105 [(.c (.sl [TI]) y),(.c (.sl [TI]) t)] (QhZ (Zv y t)):=by
 refine Qi rfl fun hb=>tcg (Γ:=Qkp) (n:=28) (sg:=QiM.sg) Qj (TOkL.cons Qyj (TOkL.cons QpN TOkL.nil)) (by kernel_rfl) (by kernel_rfl) (Qz3 _ y t ?_)
 have hl_y:y.length≤9223372036854775807:=hb.1.1
 have hl_t:t.length≤9223372036854775807:=hb.2.1.1
 exact ⟨by omega,R_eq (by simp only [List.drop_zero,List.take_length];rfl)⟩
theorem QDS:Qe Tryz.prog QiM:=Qk fun x _=>QHW x.1 x.2.1
def Qkd (t:Int × Bool):TRes:=zre (.tp [(zci t.1),(zcb t.2)])
def QgO:TRow:=Qg 98 [(.c (.sl [TI])),(.c (.sl [TI]))] fun x=>(none,Qkd (Zv x.1 x.2.1))
def Qku:TTab:=⟨[QjW,QfR],false⟩
def QG8:TCode :=
 (zsq [(.reg [zmv 4 (zki 0),zmv 5 (zkb false)]),(.reg [zmv 11 0,zmv 12 1,zca 13 107 [11,12],zmv 10 13,zex 14 10 0,zex 15 10 1,zmv 6 14,zmv 7 15]),(.reg [zmv 17 6,zmv 18 6,zca 19 184 [17,18],zmv 16 19,zex 20 16 0,zex 21 16 1,zmv 8 20,zmv 9 21]),(.reg [zmv 22 8,zbi 23 .quo 22 (zki 2),zmv 24 7,zmv 25 24,.grp 25 false [zmv 26 9] 27 26,zmv 4 23,zmv 5 27]),.ret])
def QBs:List (ARv × Md):=[(.t 4,.one .d),(.t 5,.one .d)]
theorem QDN (y:List Int) (t:List Int) (h :
 ((¬ ((2:Int):Int)=0)∧K (Qkd (w64 (Int.tdiv ((QJ ((QQ y t).1) ((QQ y t).1)).1) (2:Int)),(((QQ y t).2)||((QJ ((QQ y t).1) ((QQ y t).1)).2)))))):Hold (tawp Qku (0+0) QG8 (TQ 0 0 QBs K) (Qd [(.c (.sl [TI]) y),(.c (.sl [TI]) t)])) :=
 Hold.of (by kernel_rfl) h
theorem Qxy (y:List Int) (t:List Int):TCon Tryz.prog 98 [(.c (.sl [TI]) y),(.c (.sl [TI]) t)] (Qkd (Zv y t)):=by
 refine Qi rfl fun hb=>tcg (Γ:=Qku) (n:=28) (sg:=QgO.sg) Qj (TOkL.cons Qv3 (TOkL.cons Qp8 TOkL.nil)) (by kernel_rfl) (by kernel_rfl) (QDN _ y t ?_)
 have hl_y:y.length≤9223372036854775807:=hb.1.1
 have hl_t:t.length≤9223372036854775807:=hb.2.1.1
 have h:=QuE (QQ y t).1
 have hf:=QpZ.1 (QuF (QQ y t).1 (QQ y t).1)
 refine ⟨by omega,R_eq ?_⟩
 unfold Zv
 generalize (QJ (QQ y t).1 (QQ y t).1).1=q at *
 rw [Int.tdiv_eq_ediv_of_nonneg h,Qv (x:=q / 2) (by omega) (by omega),Int.fdiv_eq_ediv_of_nonneg _ (by omega)]
theorem Qux:Qe Tryz.prog QgO:=Qk fun x _=>Qxy x.1 x.2.1
end
end Go.Proofs.YtdplaepmjogjjaaGreat.Am

