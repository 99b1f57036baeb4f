/- -/
import Derived.Test.YtjbdljkhbglnhaaGreatZGP4
import Derived.Test.YtjbdljkhbglnhaaGreatZGP1
import Derived.Test.YtjbdljkhbglnhaaGreatZGPH
import Derived.Test.YtjbdljkhbglnhaaGreatZGPG
import Derived.Test.YtjbdljkhbglnhaaGreatZGPF
namespace Go.Proofs.YtjbdljkhbglnhaaGreat.Am
open Go Go.RowKit Go.Proofs.YtjbdljkhbglnhaaGreat
set_option linter.all false
noncomputable section
variable (K:TRes→Prop)
def Qbq (t:(List Int) × Bool):TRes:=zra (.tp [(zcs [TI] t.1),(zcb t.2)])
def Qlc:TRow:=Qi 187 [(.a ctOp),(.c (.sl [TI]))] fun x=>(none,Qbq (Y3 x.1 x.2.1))
def QOT:List TRow:=[Qff,JJ,QiJ,QfF,QgO,QhF,QkU]
def QzC:TCode :=
 (zsq [(.reg [zop 2 (.box 69 0 4),zmv 4 (.k (.n [TI])),zmv 5 (zkb false)]),(zsq [(.reg [zLd 10 2 4,zca 11 194 [10],zno 12 11,zmv 13 12,.grp 13 false [zmv 14 1,zfa 15 2 1,zld 16 15 1,zca 17 114 [14,16],zno 18 17] 19 18]),(.cond 19 (zsq [(.reg [zmv 4 (.k (.n [TI])),zmv 5 (zkb false)]),.ret]) .skip)]),(zsq [(.reg [zfa 20 2 0,zld 21 20 1]),(.block 0 (zsq [(.reg [zbi 23 .eql 21 (zki 1),zmv 22 23]),(.cond 22 (zsq [(.reg [zLd 24 2 4,zca 25 212 [24],zmv 26 1,zca 27 211 [25,26],zex 28 27 0,zex 29 27 1,zmv 4 28,zmv 5 29]),.ret]) (zsq [(.reg [zbi 31 .eql 21 (zki 2),zmv 30 31]),(.cond 30 (zsq [(.reg [zmv 32 1,zfa 33 2 3,zld 34 33 1,zca 35 213 [32,34],zex 36 35 0,zex 37 35 1,zmv 4 36,zmv 5 37]),.ret]) (zsq [(.reg [zbi 39 .eql 21 (zki 4),zmv 38 39]),(.cond 38 (zsq [(.reg [zfa 40 2 3,zld 41 40 1,zia 42 41 (zki 0) [TI],zld 43 42 1,zmv 44 1,zca 45 214 [43,44],zex 46 45 0,zex 47 45 1,zmv 4 46,zmv 5 47]),.ret]) (zsq [(.reg [zbi 49 .eql 21 (zki 5),zmv 48 49]),(.cond 48 (zsq [(.reg [zLd 51 2 4,zca 52 212 [51],zmv 53 1,zca 54 211 [52,53],zmv 50 54,zex 55 50 0,zex 56 50 1,zmv 6 55,zmv 7 56]),(.reg [zmv 58 1,zmv 59 6,zca 60 213 [58,59],zmv 57 60,zex 61 57 0,zex 62 57 1,zmv 8 61,zmv 9 62]),(.reg [zmv 63 8,zmv 64 7,zmv 65 64,.grp 65 false [zmv 66 9] 67 66,zmv 4 63,zmv 5 67]),.ret]) .skip)]))]))]))]))]),(.reg [zmv 68 1,zca 69 215 [68],zmv 4 69,zmv 5 (zkb false)]),.ret])
def QJ7:List (ARv × Md):=[(.t 4,.one .d),(.t 5,.one .d)]
theorem QL1 (o:TOp') (x:List Int) (h :
 (zif ((!(Ze o))||(!(Qq x o.2.1))) (K (Qbq ([],false))) (zif (o.1==(1:Int)) (K (Qbq ((ZK (Zp o) x).1,(ZK (Zp o) x).2))) (zif (o.1==(2:Int)) (K (Qbq ((ZW x o.2.2.2).1,(ZW x o.2.2.2).2))) (zif (o.1==(4:Int)) (((0:Int)≤(0:Int)∧Int.toNat (0:Int)<(o.2.2.2).length)∧K (Qbq ((Yx (gtd (0:Int) o.2.2.2 (Int.toNat (0:Int))) x).1,(Yx (gtd (0:Int) o.2.2.2 (Int.toNat (0:Int))) x).2))) (zif (o.1==(5:Int)) (K (Qbq ((ZW x ((ZK (Zp o) x).1)).1,(((ZK (Zp o) x).2)||((ZW x ((ZK (Zp o) x).1)).2))))) (K (Qbq ((Jo x),false))))))))):Hold (tawp QOT (0+0) QzC (TQ 0 0 QJ7 K) (Qf [(.a (Tup.cells ctOp o)),(.c (.sl [TI]) x)])) :=
 Hold.of (by kernel_rfl) h
theorem QPa (o:TOp') (x:List Int):TCon Tryz.prog 187 [(.a (Tup.cells ctOp o)),(.c (.sl [TI]) x)] (Qbq (Y3 o x)):=by
 refine Qr rfl fun hb=>tcg (n:=70) (sg:=Qlc.sg) Qk (TOk.cons Qju (TOk.cons Qaa (TOk.cons Qwq (TOk.cons QuO (TOk.cons QoB (TOk.cons Qwr (TOk.cons QNt TOk.nil))))))) (by kernel_rfl) (by kernel_rfl) (QL1 _ o x ?_)
 have hl_o_3:(o.2.2.2).length≤9223372036854775807:=hb.1.2.2.2.1.1
 have hl_x:x.length≤9223372036854775807:=hb.2.1.1
 refine ⟨fun h=>R_eq (by rw [QH7];intro h2;simp [h2.1,h2.2] at h),fun h=>?_⟩
 have hp:Ze o=true∧Qq x o.2.1=true:=by simpa using h
 have hk:=Qwm hp.1
 have hv:(Y3 o x)=(if o.1=1 then ZK (Zp o) x else if o.1=2 then ZW x o.2.2.2 else if o.1=4 then Yx (gtd 0 o.2.2.2 0) x
    else if o.1=5 then ((ZW x (ZK (Zp o) x).1).1,(ZK (Zp o) x).2||(ZW x (ZK (Zp o) x).1).2) else (Jo x,false)):=by
  unfold Y3;rw [if_pos (by rw [hp.1,hp.2];rfl)]
 refine ⟨fun h1=>R_eq ?_,fun h1=>⟨fun h2=>R_eq ?_,fun h2=>⟨fun h4=>⟨⟨by omega,QrF hp.1 (by simpa using h4)⟩,R_eq ?_⟩,fun h4=>⟨fun h5=>R_eq ?_,fun h5=>R_eq ?_⟩⟩⟩⟩
 all_goals (rw [hv];clear hv;simp at *;simp [*])
theorem QBX:Qj Tryz.prog Qlc:=Ql fun x _=>QPa x.1 x.2.1
def QbN (t:(List Int) × (List Int) × Bool):TRes:=zra (.tp [(zcs [TI] t.1),(zcs [TI] t.2.1),(zcb t.2.2)])
def QmB:TRow:=Qi 193 [(.a ctOp),(.c (.sl [TI])),(.c (.sl [TI]))] fun x=>(none,QbN (YV x.1 x.2.1 x.2.2.1))
def QKk:List TRow:=[Qff,JJ,QiJ,Qkc,QmK,Qab,QhF,Qfk,QgO,QkS]
def QFs:TCode :=
 (zsq [(.reg [zop 3 (.box 69 0 4),zmv 6 (.k (.n [TI])),zmv 7 (.k (.n [TI])),zmv 8 (zkb false)]),(zsq [(.reg [zLd 23 3 4,zca 24 194 [23],zno 25 24,zmv 26 25,.grp 26 false [zmv 27 1,zfa 28 3 1,zld 29 28 1,zca 30 114 [27,29],zno 31 30] 32 31,zmv 33 32,.grp 33 false [zmv 34 2,zfa 35 3 2,zld 36 35 1,zca 37 114 [34,36],zno 38 37] 39 38]),(.cond 39 (zsq [(.reg [zmv 6 (.k (.n [TI])),zmv 7 (.k (.n [TI])),zmv 8 (zkb false)]),.ret]) .skip)]),(zsq [(.reg [zfa 40 3 0,zld 41 40 1]),(.block 0 (zsq [(.reg [zbi 43 .eql 41 (zki 1),zmv 42 43]),(.cond 42 (zsq [(.reg [zLd 45 3 4,zca 46 212 [45],zmv 47 2,zca 48 218 [46,47],zmv 44 48,zex 49 44 0,zex 50 44 1,zmv 9 49,zmv 10 50]),(.reg [zmv 52 2,zmv 53 1,zca 54 219 [52,53],zmv 51 54,zex 55 51 0,zex 56 51 1,zop 11 (.new 185 (z0s [TI,TI,(.sl [TI])])),zst 11 55 3,zmv 12 56]),(.draw [zmv 57 9,zfa 58 11 2,zld 59 58 1,zmv 60 10,zmv 61 60,.grp 61 false [zmv 62 12] 63 62,zmv 6 57,zmv 7 59,zmv 8 63] []),.ret]) (zsq [(.reg [zbi 65 .eql 41 (zki 2),zmv 64 65]),(.cond 64 (zsq [(.reg [zmv 66 2,zca 67 119 [66],zmv 68 2,zca 69 119 [68],zmv 6 67,zmv 7 69,zmv 8 (zkb false)]),.ret]) (zsq [(.reg [zbi 71 .eql 41 (zki 4),zmv 70 71]),(.cond 70 (zsq [(.reg [zfa 73 3 3,zld 74 73 1,zia 75 74 (zki 0) [TI],zld 76 75 1,zmv 77 2,zca 78 214 [76,77],zmv 72 78,zex 79 72 0,zex 80 72 1,zmv 13 79,zmv 14 80]),(.reg [zmv 82 2,zmv 83 1,zca 84 188 [82,83],zmv 81 84,zex 85 81 0,zex 86 81 1,zmv 15 85,zmv 16 86]),(.reg [zmv 87 13,zmv 88 15,zop 89 (.bsl 3 [TI] [88]),zmv 90 14,zmv 91 90,.grp 91 false [zmv 92 16] 93 92,zmv 6 87,zmv 7 89,zmv 8 93]),.ret]) (zsq [(.reg [zbi 95 .eql 41 (zki 5),zmv 94 95]),(.cond 94 (zsq [(.reg [zLd 97 3 4,zca 98 212 [97],zmv 99 2,zca 100 218 [98,99],zmv 96 100,zex 101 96 0,zex 102 96 1,zmv 17 101,zmv 18 102]),(.reg [zmv 104 2,zmv 105 17,zca 106 213 [104,105],zmv 103 106,zex 107 103 0,zex 108 103 1,zmv 19 107,zmv 20 108]),(.reg [zmv 110 2,zmv 111 1,zca 112 219 [110,111],zmv 109 112,zex 113 109 0,zex 114 109 1,zop 21 (.new 185 (z0s [TI,TI,(.sl [TI])])),zst 21 113 3,zmv 22 114]),(.draw [zmv 115 19,zfa 116 21 2,zld 117 116 1,zmv 118 18,zmv 119 118,.grp 119 false [zmv 120 20] 121 120,zmv 122 121,.grp 122 false [zmv 123 22] 124 123,zmv 6 115,zmv 7 117,zmv 8 124] []),.ret]) .skip)]))]))]))]))]),(.reg [zmv 125 1,zmv 126 2,zca 127 220 [125,126],zmv 6 127,zmv 7 (.k (.n [TI])),zmv 8 (zkb false)]),.ret])
def QMB:List (ARv × Md):=[(.t 6,.one .d),(.t 7,.one .d),(.t 8,.one .d)]
theorem QEo (o:TOp') (x:List Int) (d:List Int) (h :
 (zif (((!(Ze o))||(!(Qq x o.2.1)))||(!(Qq d o.2.2.1))) (K (QbN ([],[],false))) (zif (o.1==(1:Int)) (K (QbN ((Z6 (Zp o) d).1,((ZT d x).1).2.2,(((Z6 (Zp o) d).2)||((ZT d x).2))))) (zif (o.1==(2:Int)) (((QJ (α:=List Int) d)∧(QJ (α:=List Int) d))∧K (QbN ((List.take ((id (α:=List Int) d).length) (List.drop 0 (id (α:=List Int) d))),(List.take ((id (α:=List Int) d).length) (List.drop 0 (id (α:=List Int) d))),false))) (zif (o.1==(4:Int)) (((0:Int)≤(0:Int)∧Int.toNat (0:Int)<(o.2.2.2).length)∧K (QbN ((Yx (gtd (0:Int) o.2.2.2 (Int.toNat (0:Int))) d).1,[(ZF d x).1],(((Yx (gtd (0:Int) o.2.2.2 (Int.toNat (0:Int))) d).2)||((ZF d x).2))))) (zif (o.1==(5:Int)) (K (QbN ((ZW d ((Z6 (Zp o) d).1)).1,((ZT d x).1).2.2,((((Z6 (Zp o) d).2)||((ZW d ((Z6 (Zp o) d).1)).2))||((ZT d x).2))))) (K (QbN ((Jl x d),[],false))))))))):Hold (tawp QKk (0+0) QFs (TQ 0 0 QMB K) (Qf [(.a (Tup.cells ctOp o)),(.c (.sl [TI]) x),(.c (.sl [TI]) d)])) :=
 Hold.of (by kernel_rfl) h
theorem QBf (o:TOp') (x:List Int) (d:List Int):TCon Tryz.prog 193 [(.a (Tup.cells ctOp o)),(.c (.sl [TI]) x),(.c (.sl [TI]) d)] (QbN (YV o x d)):=by
 refine Qr rfl fun hb=>tcg (n:=128) (sg:=QmB.sg) Qk (TOk.cons Qju (TOk.cons Qaa (TOk.cons Qwq (TOk.cons QHt (TOk.cons QLt (TOk.cons QaX (TOk.cons Qwr (TOk.cons Qlt (TOk.cons QoB (TOk.cons QHA TOk.nil)))))))))) (by kernel_rfl) (by kernel_rfl) (QEo _ o x d ?_)
 have hl_o_3:(o.2.2.2).length≤9223372036854775807:=hb.1.2.2.2.1.1
 have hl_x:x.length≤9223372036854775807:=hb.2.1.1
 have hl_d:d.length≤9223372036854775807:=hb.2.2.1.1
 refine ⟨fun h=>R_eq (by rw [QPz];intro h2;simp [h2.1,h2.2] at h),fun h=>?_⟩
 have hp:(Ze o=true∧Qq x o.2.1=true)∧Qq d o.2.2.1=true:=by simpa using h
 have hk:=Qwm hp.1.1
 have hdl:=(YF.1 (YQ.1 hp.2).1).1
 have hv:(YV o x d)=(if o.1=1 then ((Z6 (Zp o) d).1,(ZT d x).1.2.2,(Z6 (Zp o) d).2||(ZT d x).2)
    else if o.1=2 then (d,d,false)
    else if o.1=4 then ((Yx (gtd 0 o.2.2.2 0) d).1,[(ZF d x).1],(Yx (gtd 0 o.2.2.2 0) d).2||(ZF d x).2)
    else if o.1=5 then ((ZW d (Z6 (Zp o) d).1).1,(ZT d x).1.2.2,(Z6 (Zp o) d).2||(ZT d x).2||(ZW d (Z6 (Zp o) d).1).2)
    else (Jl x d,[],false)):=by
  unfold YV;rw [if_pos (by rw [hp.1.1,hp.1.2,hp.2];rfl)]
 have hpl:QJ (α:=List Int) d:=by unfold QJ;rw [Jc];omega
 refine ⟨fun h1=>R_eq ?_,fun h1=>⟨fun h2=>⟨⟨hpl,hpl⟩,R_eq ?_⟩,fun h2=>⟨fun h4=>⟨⟨by omega,QrF hp.1.1 (by simpa using h4)⟩,R_eq ?_⟩,fun h4=>⟨fun h5=>R_eq ?_,fun h5=>R_eq ?_⟩⟩⟩⟩
 all_goals (rw [hv];clear hv;simp at *)
 ·simp [*]
 ·simp [*]
 ·simp [*]
 ·simp [*,Bool.or_assoc,Bool.or_comm,Bool.or_left_comm]
 ·simp [*]
theorem QD1:Qj Tryz.prog QmB:=Ql fun x _=>QBf x.1 x.2.1 x.2.2.1
def Qk5 (t:Int × Bool):TRes:=zre (.tp [(zci t.1),(zcb t.2)])
def Qmc:TRow:=Qi 120 [(.c (.sl [TI])),(.c (.sl [TI]))] fun x=>(none,Qk5 (Yh x.1 x.2.1))
def QK8:List TRow:=[QiH,Qfk]
def QEO:TCode :=
 (zsq [(.reg [zmv 4 (zki 0),zmv 5 (zkb false)]),(.reg [zmv 11 0,zmv 12 1,zca 13 124 [11,12],zmv 10 13,zex 14 10 0,zex 15 10 1,zmv 6 14,zmv 7 15]),(.reg [zmv 17 6,zmv 18 6,zca 19 188 [17,18],zmv 16 19,zex 20 16 0,zex 21 16 1,zmv 8 20,zmv 9 21]),(.reg [zmv 22 8,zbi 23 .shr 22 (.k (.c (.int .u64) (1:Int))),zmv 24 7,zmv 25 24,.grp 25 false [zmv 26 9] 27 26,zmv 4 23,zmv 5 27]),.ret])
def QNa:List (ARv × Md):=[(.t 4,.one .d),(.t 5,.one .d)]
theorem QIj (y:List Int) (t:List Int) (h :
 (((0:Int)≤(1:Int))∧K (Qk5 ((Int.fdiv ((ZF ((Zu y t).1) ((Zu y t).1)).1) (2 ^ (min (Int.toNat (1:Int)) (IntKind.i64.bits)))),(((Zu y t).2)||((ZF ((Zu y t).1) ((Zu y t).1)).2)))))):Hold (tawp QK8 (0+0) QEO (TQ 0 0 QNa K) (Qf [(.c (.sl [TI]) y),(.c (.sl [TI]) t)])) :=
 Hold.of (by kernel_rfl) h
theorem QIf (y:List Int) (t:List Int):TCon Tryz.prog 120 [(.c (.sl [TI]) y),(.c (.sl [TI]) t)] (Qk5 (Yh y t)):=by
 refine Qr rfl fun hb=>tcg (n:=28) (sg:=Qmc.sg) Qk (TOk.cons Qy3 (TOk.cons Qlt TOk.nil)) (by kernel_rfl) (by kernel_rfl) (QIj _ y t ?_)
 have hl_y:y.length≤9223372036854775807:=hb.1.1
 have hl_t:t.length≤9223372036854775807:=hb.2.1.1
 exact ⟨by omega,R_eq rfl⟩
theorem QHO:Qj Tryz.prog Qmc:=Ql fun x _=>QIf x.1 x.2.1
end
end Go.Proofs.YtjbdljkhbglnhaaGreat.Am

