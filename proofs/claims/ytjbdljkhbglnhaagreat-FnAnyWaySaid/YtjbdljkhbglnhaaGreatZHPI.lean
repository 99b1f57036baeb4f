/- -/
import Derived.Test.YtjbdljkhbglnhaaGreatZHP4
import Derived.Test.YtjbdljkhbglnhaaGreatZHP1
import Derived.Test.YtjbdljkhbglnhaaGreatZHPH
import Derived.Test.YtjbdljkhbglnhaaGreatZHPG
import Derived.Test.YtjbdljkhbglnhaaGreatZHPF
namespace Go.Proofs.YtjbdljkhbglnhaaGreat.Am
open Go Go.RowKit Go.Proofs.YtjbdljkhbglnhaaGreat
set_option linter.all false
noncomputable section
variable (K:TRes→Prop)
def QbD (t:(List Int) × Bool):TRes:=zra (.tp [(zcs [TI] t.1),(zcb t.2)])
def QlG:TRow:=Qg 187 [(.a ctOp),(.c (.sl [TI]))] fun x=>(none,QbD (Y4 x.1 x.2.1))
def QFF:List TRow:=[Qe7,JA,QfJ,QiH,Qi5,Qhi,QjZ]
def QMX:TCode :=
 (zsq [(.reg [zop 2 (.box 69 0 4),zmv 4 (.k (.n [TI])),zmv 5 (zkb false)]),(zsq [(.reg [zLd 10 2 4,zca 11 194 [10],zno 12 11,zmv 13 12,.grp 13 false [zmv 14 1,zfa 15 2 1,zld 16 15 1,zca 17 114 [14,16],zno 18 17] 19 18]),(.cond 19 (zsq [(.reg [zmv 4 (.k (.n [TI])),zmv 5 (zkb false)]),.ret]) .skip)]),(zsq [(.reg [zfa 20 2 0,zld 21 20 1]),(.block 0 (zsq [(.reg [zbi 23 .eql 21 (zki 1),zmv 22 23]),(.cond 22 (zsq [(.reg [zLd 24 2 4,zca 25 212 [24],zmv 26 1,zca 27 211 [25,26],zex 28 27 0,zex 29 27 1,zmv 4 28,zmv 5 29]),.ret]) (zsq [(.reg [zbi 31 .eql 21 (zki 2),zmv 30 31]),(.cond 30 (zsq [(.reg [zmv 32 1,zfa 33 2 3,zld 34 33 1,zca 35 213 [32,34],zex 36 35 0,zex 37 35 1,zmv 4 36,zmv 5 37]),.ret]) (zsq [(.reg [zbi 39 .eql 21 (zki 4),zmv 38 39]),(.cond 38 (zsq [(.reg [zfa 40 2 3,zld 41 40 1,zia 42 41 (zki 0) [TI],zld 43 42 1,zmv 44 1,zca 45 214 [43,44],zex 46 45 0,zex 47 45 1,zmv 4 46,zmv 5 47]),.ret]) (zsq [(.reg [zbi 49 .eql 21 (zki 5),zmv 48 49]),(.cond 48 (zsq [(.reg [zLd 51 2 4,zca 52 212 [51],zmv 53 1,zca 54 211 [52,53],zmv 50 54,zex 55 50 0,zex 56 50 1,zmv 6 55,zmv 7 56]),(.reg [zmv 58 1,zmv 59 6,zca 60 213 [58,59],zmv 57 60,zex 61 57 0,zex 62 57 1,zmv 8 61,zmv 9 62]),(.reg [zmv 63 8,zmv 64 7,zmv 65 64,.grp 65 false [zmv 66 9] 67 66,zmv 4 63,zmv 5 67]),.ret]) .skip)]))]))]))]))]),(.reg [zmv 68 1,zca 69 215 [68],zmv 4 69,zmv 5 (zkb false)]),.ret])
def QA1:List (ARv × Md):=[(.t 4,.one .d),(.t 5,.one .d)]
theorem QQc (o:TOp') (x:List Int) (h :
 (zif ((!(Q7 o))||(!(Qs x o.2.1))) (K (QbD ([],false))) (zif (o.1==(1:Int)) (K (QbD ((ZM (Zo o) x).1,(ZM (Zo o) x).2))) (zif (o.1==(2:Int)) (K (QbD ((ZY x o.2.2.2).1,(ZY x o.2.2.2).2))) (zif (o.1==(4:Int)) (((0:Int)≤(0:Int)∧Int.toNat (0:Int)<(o.2.2.2).length)∧K (QbD ((Yy (gtd (0:Int) o.2.2.2 (Int.toNat (0:Int))) x).1,(Yy (gtd (0:Int) o.2.2.2 (Int.toNat (0:Int))) x).2))) (zif (o.1==(5:Int)) (K (QbD ((ZY x ((ZM (Zo o) x).1)).1,(((ZM (Zo o) x).2)||((ZY x ((ZM (Zo o) x).1)).2))))) (K (QbD ((Jn x),false))))))))):Hold (tawp QFF (0+0) QMX (TQ 0 0 QA1 K) (Qf [(.a (Tup.cells ctOp o)),(.c (.sl [TI]) x)])) :=
 Hold.of (by kernel_rfl) h
theorem QJ3 (o:TOp') (x:List Int):TCon Tryz.prog 187 [(.a (Tup.cells ctOp o)),(.c (.sl [TI]) x)] (QbD (Y4 o x)):=by
 refine Qq rfl fun hb=>tcg (n:=70) (sg:=QlG.sg) Qj (TOk.cons Qjx (TOk.cons Qao (TOk.cons QuP (TOk.cons Qwi (TOk.cons Qo3 (TOk.cons Qyn (TOk.cons QDe TOk.nil))))))) (by kernel_rfl) (by kernel_rfl) (QQc _ o x ?_)
 have hl_o_3:(o.2.2.2).length≤9223372036854775807:=hb.1.2.2.2.1.1
 have hl_x:x.length≤9223372036854775807:=hb.2.1.1
 refine ⟨fun h=>R_eq (by rw [QJp];intro h2;simp [h2.1,h2.2] at h),fun h=>?_⟩
 have hp:Q7 o=true∧Qs x o.2.1=true:=by simpa using h
 have hk:=QqX hp.1
 have hv:(Y4 o x)=(if o.1=1 then ZM (Zo o) x else if o.1=2 then ZY x o.2.2.2 else if o.1=4 then Yy (gtd 0 o.2.2.2 0) x
    else if o.1=5 then ((ZY x (ZM (Zo o) x).1).1,(ZM (Zo o) x).2||(ZY x (ZM (Zo o) x).1).2) else (Jn x,false)):=by
  unfold Y4;rw [if_pos (by rw [hp.1,hp.2];rfl)]
 refine ⟨fun h1=>R_eq ?_,fun h1=>⟨fun h2=>R_eq ?_,fun h2=>⟨fun h4=>⟨⟨by omega,QzX hp.1 (by simpa using h4)⟩,R_eq ?_⟩,fun h4=>⟨fun h5=>R_eq ?_,fun h5=>R_eq ?_⟩⟩⟩⟩
 all_goals (rw [hv];clear hv;simp at *;simp [*])
theorem QL1:Qh Tryz.prog QlG:=Qk fun x _=>QJ3 x.1 x.2.1
def QbR (t:(List Int) × (List Int) × Bool):TRes:=zra (.tp [(zcs [TI] t.1),(zcs [TI] t.2.1),(zcb t.2.2)])
def Qon:TRow:=Qg 193 [(.a ctOp),(.c (.sl [TI])),(.c (.sl [TI]))] fun x=>(none,QbR (YS x.1 x.2.1 x.2.2.1))
def QFO:List TRow:=[Qe7,JA,QfJ,Qnf,Qk9,Qab,Qhi,QfA,Qi5,QlU]
def QOE:TCode :=
 (zsq [(.reg [zop 3 (.box 69 0 4),zmv 6 (.k (.n [TI])),zmv 7 (.k (.n [TI])),zmv 8 (zkb false)]),(zsq [(.reg [zLd 23 3 4,zca 24 194 [23],zno 25 24,zmv 26 25,.grp 26 false [zmv 27 1,zfa 28 3 1,zld 29 28 1,zca 30 114 [27,29],zno 31 30] 32 31,zmv 33 32,.grp 33 false [zmv 34 2,zfa 35 3 2,zld 36 35 1,zca 37 114 [34,36],zno 38 37] 39 38]),(.cond 39 (zsq [(.reg [zmv 6 (.k (.n [TI])),zmv 7 (.k (.n [TI])),zmv 8 (zkb false)]),.ret]) .skip)]),(zsq [(.reg [zfa 40 3 0,zld 41 40 1]),(.block 0 (zsq [(.reg [zbi 43 .eql 41 (zki 1),zmv 42 43]),(.cond 42 (zsq [(.reg [zLd 45 3 4,zca 46 212 [45],zmv 47 2,zca 48 218 [46,47],zmv 44 48,zex 49 44 0,zex 50 44 1,zmv 9 49,zmv 10 50]),(.reg [zmv 52 2,zmv 53 1,zca 54 219 [52,53],zmv 51 54,zex 55 51 0,zex 56 51 1,zop 11 (.new 185 (z0s [TI,TI,(.sl [TI])])),zst 11 55 3,zmv 12 56]),(.draw [zmv 57 9,zfa 58 11 2,zld 59 58 1,zmv 60 10,zmv 61 60,.grp 61 false [zmv 62 12] 63 62,zmv 6 57,zmv 7 59,zmv 8 63] []),.ret]) (zsq [(.reg [zbi 65 .eql 41 (zki 2),zmv 64 65]),(.cond 64 (zsq [(.reg [zmv 66 2,zca 67 119 [66],zmv 68 2,zca 69 119 [68],zmv 6 67,zmv 7 69,zmv 8 (zkb false)]),.ret]) (zsq [(.reg [zbi 71 .eql 41 (zki 4),zmv 70 71]),(.cond 70 (zsq [(.reg [zfa 73 3 3,zld 74 73 1,zia 75 74 (zki 0) [TI],zld 76 75 1,zmv 77 2,zca 78 214 [76,77],zmv 72 78,zex 79 72 0,zex 80 72 1,zmv 13 79,zmv 14 80]),(.reg [zmv 82 2,zmv 83 1,zca 84 188 [82,83],zmv 81 84,zex 85 81 0,zex 86 81 1,zmv 15 85,zmv 16 86]),(.reg [zmv 87 13,zmv 88 15,zop 89 (.bsl 3 [TI] [88]),zmv 90 14,zmv 91 90,.grp 91 false [zmv 92 16] 93 92,zmv 6 87,zmv 7 89,zmv 8 93]),.ret]) (zsq [(.reg [zbi 95 .eql 41 (zki 5),zmv 94 95]),(.cond 94 (zsq [(.reg [zLd 97 3 4,zca 98 212 [97],zmv 99 2,zca 100 218 [98,99],zmv 96 100,zex 101 96 0,zex 102 96 1,zmv 17 101,zmv 18 102]),(.reg [zmv 104 2,zmv 105 17,zca 106 213 [104,105],zmv 103 106,zex 107 103 0,zex 108 103 1,zmv 19 107,zmv 20 108]),(.reg [zmv 110 2,zmv 111 1,zca 112 219 [110,111],zmv 109 112,zex 113 109 0,zex 114 109 1,zop 21 (.new 185 (z0s [TI,TI,(.sl [TI])])),zst 21 113 3,zmv 22 114]),(.draw [zmv 115 19,zfa 116 21 2,zld 117 116 1,zmv 118 18,zmv 119 118,.grp 119 false [zmv 120 20] 121 120,zmv 122 121,.grp 122 false [zmv 123 22] 124 123,zmv 6 115,zmv 7 117,zmv 8 124] []),.ret]) .skip)]))]))]))]))]),(.reg [zmv 125 1,zmv 126 2,zca 127 220 [125,126],zmv 6 127,zmv 7 (.k (.n [TI])),zmv 8 (zkb false)]),.ret])
def QRr:List (ARv × Md):=[(.t 6,.one .d),(.t 7,.one .d),(.t 8,.one .d)]
theorem QO8 (o:TOp') (x:List Int) (d:List Int) (h :
 (zif (((!(Q7 o))||(!(Qs x o.2.1)))||(!(Qs d o.2.2.1))) (K (QbR ([],[],false))) (zif (o.1==(1:Int)) (K (QbR ((Z5 (Zo o) d).1,((ZT d x).1).2.2,(((Z5 (Zo o) d).2)||((ZT d x).2))))) (zif (o.1==(2:Int)) (((QI (α:=List Int) d)∧(QI (α:=List Int) d))∧K (QbR ((List.take ((id (α:=List Int) d).length) (List.drop 0 (id (α:=List Int) d))),(List.take ((id (α:=List Int) d).length) (List.drop 0 (id (α:=List Int) d))),false))) (zif (o.1==(4:Int)) (((0:Int)≤(0:Int)∧Int.toNat (0:Int)<(o.2.2.2).length)∧K (QbR ((Yy (gtd (0:Int) o.2.2.2 (Int.toNat (0:Int))) d).1,[(ZF d x).1],(((Yy (gtd (0:Int) o.2.2.2 (Int.toNat (0:Int))) d).2)||((ZF d x).2))))) (zif (o.1==(5:Int)) (K (QbR ((ZY d ((Z5 (Zo o) d).1)).1,((ZT d x).1).2.2,((((Z5 (Zo o) d).2)||((ZY d ((Z5 (Zo o) d).1)).2))||((ZT d x).2))))) (K (QbR ((Jo x d),[],false))))))))):Hold (tawp QFO (0+0) QOE (TQ 0 0 QRr K) (Qf [(.a (Tup.cells ctOp o)),(.c (.sl [TI]) x),(.c (.sl [TI]) d)])) :=
 Hold.of (by kernel_rfl) h
theorem QBv (o:TOp') (x:List Int) (d:List Int):TCon Tryz.prog 193 [(.a (Tup.cells ctOp o)),(.c (.sl [TI]) x),(.c (.sl [TI]) d)] (QbR (YS o x d)):=by
 refine Qq rfl fun hb=>tcg (n:=128) (sg:=Qon.sg) Qj (TOk.cons Qjx (TOk.cons Qao (TOk.cons QuP (TOk.cons QAr (TOk.cons QMA (TOk.cons Qbk (TOk.cons Qyn (TOk.cons Qjl (TOk.cons Qo3 (TOk.cons QK7 TOk.nil)))))))))) (by kernel_rfl) (by kernel_rfl) (QO8 _ o x d ?_)
 have hl_o_3:(o.2.2.2).length≤9223372036854775807:=hb.1.2.2.2.1.1
 have hl_x:x.length≤9223372036854775807:=hb.2.1.1
 have hl_d:d.length≤9223372036854775807:=hb.2.2.1.1
 refine ⟨fun h=>R_eq (by rw [QPY];intro h2;simp [h2.1,h2.2] at h),fun h=>?_⟩
 have hp:(Q7 o=true∧Qs x o.2.1=true)∧Qs d o.2.2.1=true:=by simpa using h
 have hk:=QqX hp.1.1
 have hdl:=(YE.1 (YA.1 hp.2).1).1
 have hv:(YS o x d)=(if o.1=1 then ((Z5 (Zo o) d).1,(ZT d x).1.2.2,(Z5 (Zo o) d).2||(ZT d x).2)
    else if o.1=2 then (d,d,false)
    else if o.1=4 then ((Yy (gtd 0 o.2.2.2 0) d).1,[(ZF d x).1],(Yy (gtd 0 o.2.2.2 0) d).2||(ZF d x).2)
    else if o.1=5 then ((ZY d (Z5 (Zo o) d).1).1,(ZT d x).1.2.2,(Z5 (Zo o) d).2||(ZT d x).2||(ZY d (Z5 (Zo o) d).1).2)
    else (Jo x d,[],false)):=by
  unfold YS;rw [if_pos (by rw [hp.1.1,hp.1.2,hp.2];rfl)]
 have hpl:QI (α:=List Int) d:=by unfold QI;rw [Je];omega
 refine ⟨fun h1=>R_eq ?_,fun h1=>⟨fun h2=>⟨⟨hpl,hpl⟩,R_eq ?_⟩,fun h2=>⟨fun h4=>⟨⟨by omega,QzX hp.1.1 (by simpa using h4)⟩,R_eq ?_⟩,fun h4=>⟨fun h5=>R_eq ?_,fun h5=>R_eq ?_⟩⟩⟩⟩
 all_goals (rw [hv];clear hv;simp at *)
 ·simp [*]
 ·simp [*]
 ·simp [*]
 ·simp [*,Bool.or_assoc,Bool.or_comm,Bool.or_left_comm]
 ·simp [*]
theorem QFD:Qh Tryz.prog Qon:=Qk fun x _=>QBv x.1 x.2.1 x.2.2.1
def QnF (t:Int × Bool):TRes:=zre (.tp [(zci t.1),(zcb t.2)])
def Qkr:TRow:=Qg 120 [(.c (.sl [TI])),(.c (.sl [TI]))] fun x=>(none,QnF (Yh x.1 x.2.1))
def QLZ:List TRow:=[Qh3,QfA]
def QIi:TCode :=
 (zsq [(.reg [zmv 4 (zki 0),zmv 5 (zkb false)]),(.reg [zmv 11 0,zmv 12 1,zca 13 124 [11,12],zmv 10 13,zex 14 10 0,zex 15 10 1,zmv 6 14,zmv 7 15]),(.reg [zmv 17 6,zmv 18 6,zca 19 188 [17,18],zmv 16 19,zex 20 16 0,zex 21 16 1,zmv 8 20,zmv 9 21]),(.reg [zmv 22 8,zbi 23 .shr 22 (.k (.c (.int .u64) (1:Int))),zmv 24 7,zmv 25 24,.grp 25 false [zmv 26 9] 27 26,zmv 4 23,zmv 5 27]),.ret])
def QDs:List (ARv × Md):=[(.t 4,.one .d),(.t 5,.one .d)]
theorem QIy (y:List Int) (t:List Int) (h :
 (((0:Int)≤(1:Int))∧K (QnF ((Int.fdiv ((ZF ((Zs y t).1) ((Zs y t).1)).1) (2 ^ (min (Int.toNat (1:Int)) (IntKind.i64.bits)))),(((Zs y t).2)||((ZF ((Zs y t).1) ((Zs y t).1)).2)))))):Hold (tawp QLZ (0+0) QIi (TQ 0 0 QDs K) (Qf [(.c (.sl [TI]) y),(.c (.sl [TI]) t)])) :=
 Hold.of (by kernel_rfl) h
theorem QNC (y:List Int) (t:List Int):TCon Tryz.prog 120 [(.c (.sl [TI]) y),(.c (.sl [TI]) t)] (QnF (Yh y t)):=by
 refine Qq rfl fun hb=>tcg (n:=28) (sg:=Qkr.sg) Qj (TOk.cons Qzt (TOk.cons Qjl TOk.nil)) (by kernel_rfl) (by kernel_rfl) (QIy _ y t ?_)
 have hl_y:y.length≤9223372036854775807:=hb.1.1
 have hl_t:t.length≤9223372036854775807:=hb.2.1.1
 exact ⟨by omega,R_eq rfl⟩
theorem QOJ:Qh Tryz.prog Qkr:=Qk fun x _=>QNC x.1 x.2.1
end
end Go.Proofs.YtjbdljkhbglnhaaGreat.Am

