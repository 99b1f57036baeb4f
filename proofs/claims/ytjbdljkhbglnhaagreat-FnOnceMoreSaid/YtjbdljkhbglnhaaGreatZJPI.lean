/- -/
import Derived.Test.YtjbdljkhbglnhaaGreatZJP4
import Derived.Test.YtjbdljkhbglnhaaGreatZJP1
import Derived.Test.YtjbdljkhbglnhaaGreatZJPH
import Derived.Test.YtjbdljkhbglnhaaGreatZJPG
import Derived.Test.YtjbdljkhbglnhaaGreatZJPF
namespace Go.Proofs.YtjbdljkhbglnhaaGreat.Am
open Go Go.RowKit Go.Proofs.YtjbdljkhbglnhaaGreat
set_option linter.all false
noncomputable section
variable (K:TRes→Prop)
def Qam (t:(List Int) × Bool):TRes:=zra (.tp [(zcs [TI] t.1),(zcb t.2)])
def QkO:TRow:=Qg 187 [(.a ctOp),(.c (.sl [TI]))] fun x=>(none,Qam (ZP x.1 x.2.1))
def QHY:List TRow:=[Qdb,Y0,QfI,QfZ,Qed,QdS,QjF]
def Qzw:TCode :=
 (zsq [(.reg [zop 2 (.box 69 0 4),zmv 4 (.k (.n [TI])),zmv 5 (zkb false)]),(zsq [(.reg [zLd 10 2 4,zca 11 194 [10],zno 12 11,zmv 13 12,.grp 13 false [zmv 14 1,zfa 15 2 1,zld 16 15 1,zca 17 114 [14,16],zno 18 17] 19 18]),(.cond 19 (zsq [(.reg [zmv 4 (.k (.n [TI])),zmv 5 (zkb false)]),.ret]) .skip)]),(zsq [(.reg [zfa 20 2 0,zld 21 20 1]),(.block 0 (zsq [(.reg [zbi 23 .eql 21 (zki 1),zmv 22 23]),(.cond 22 (zsq [(.reg [zLd 24 2 4,zca 25 212 [24],zmv 26 1,zca 27 211 [25,26],zex 28 27 0,zex 29 27 1,zmv 4 28,zmv 5 29]),.ret]) (zsq [(.reg [zbi 31 .eql 21 (zki 2),zmv 30 31]),(.cond 30 (zsq [(.reg [zmv 32 1,zfa 33 2 3,zld 34 33 1,zca 35 213 [32,34],zex 36 35 0,zex 37 35 1,zmv 4 36,zmv 5 37]),.ret]) (zsq [(.reg [zbi 39 .eql 21 (zki 4),zmv 38 39]),(.cond 38 (zsq [(.reg [zfa 40 2 3,zld 41 40 1,zia 42 41 (zki 0) [TI],zld 43 42 1,zmv 44 1,zca 45 214 [43,44],zex 46 45 0,zex 47 45 1,zmv 4 46,zmv 5 47]),.ret]) (zsq [(.reg [zbi 49 .eql 21 (zki 5),zmv 48 49]),(.cond 48 (zsq [(.reg [zLd 51 2 4,zca 52 212 [51],zmv 53 1,zca 54 211 [52,53],zmv 50 54,zex 55 50 0,zex 56 50 1,zmv 6 55,zmv 7 56]),(.reg [zmv 58 1,zmv 59 6,zca 60 213 [58,59],zmv 57 60,zex 61 57 0,zex 62 57 1,zmv 8 61,zmv 9 62]),(.reg [zmv 63 8,zmv 64 7,zmv 65 64,.grp 65 false [zmv 66 9] 67 66,zmv 4 63,zmv 5 67]),.ret]) .skip)]))]))]))]))]),(.reg [zmv 68 1,zca 69 215 [68],zmv 4 69,zmv 5 (zkb false)]),.ret])
def QEQ:List (ARv × Md):=[(.t 4,.one .d),(.t 5,.one .d)]
theorem QDZ (o:TOp') (x:List Int) (h :
 (zif ((!(QS o))||(!(Qf x o.2.1))) (K (Qam ([],false))) (zif (o.1==(1:Int)) (K (Qam ((Q0 (QN o) x).1,(Q0 (QN o) x).2))) (zif (o.1==(2:Int)) (K (Qam ((QZ x o.2.2.2).1,(QZ x o.2.2.2).2))) (zif (o.1==(4:Int)) (((0:Int)≤(0:Int)∧Int.toNat (0:Int)<(o.2.2.2).length)∧K (Qam ((Za (gtd (0:Int) o.2.2.2 (Int.toNat (0:Int))) x).1,(Za (gtd (0:Int) o.2.2.2 (Int.toNat (0:Int))) x).2))) (zif (o.1==(5:Int)) (K (Qam ((QZ x ((Q0 (QN o) x).1)).1,(((Q0 (QN o) x).2)||((QZ x ((Q0 (QN o) x).1)).2))))) (K (Qam ((ZH x),false))))))))):Hold (tawp QHY (0+0) Qzw (TQ 0 0 QEQ K) (Qe [(.a (Tup.cells ctOp o)),(.c (.sl [TI]) x)])) :=
 Hold.of (by kernel_rfl) h
theorem Qws (o:TOp') (x:List Int):TCon Tryz.prog 187 [(.a (Tup.cells ctOp o)),(.c (.sl [TI]) x)] (Qam (ZP o x)):=by
 refine Ql rfl fun hb=>tcg (n:=70) (sg:=QkO.sg) Qi (TOk.cons QiQ (TOk.cons Js (TOk.cons QmT (TOk.cons QpC (TOk.cons Qlq (TOk.cons QoB (TOk.cons QIs TOk.nil))))))) (by kernel_rfl) (by kernel_rfl) (QDZ _ o x ?_)
 have hl_o_3:(o.2.2.2).length≤9223372036854775807:=hb.1.2.2.2.1.1
 have hl_x:x.length≤9223372036854775807:=hb.2.1.1
 refine ⟨fun h=>R_eq (by rw [Qmy];intro h2;simp [h2.1,h2.2] at h),fun h=>?_⟩
 have hp:QS o=true∧Qf x o.2.1=true:=by simpa using h
 have hk:=Qe9 hp.1
 have hv:(ZP o x)=(if o.1=1 then Q0 (QN o) x else if o.1=2 then QZ x o.2.2.2 else if o.1=4 then Za (gtd 0 o.2.2.2 0) x
    else if o.1=5 then ((QZ x (Q0 (QN o) x).1).1,(Q0 (QN o) x).2||(QZ x (Q0 (QN o) x).1).2) else (ZH x,false)):=by
  unfold ZP;rw [if_pos (by rw [hp.1,hp.2];rfl)]
 refine ⟨fun h1=>R_eq ?_,fun h1=>⟨fun h2=>R_eq ?_,fun h2=>⟨fun h4=>⟨⟨by omega,QeV hp.1 (by simpa using h4)⟩,R_eq ?_⟩,fun h4=>⟨fun h5=>R_eq ?_,fun h5=>R_eq ?_⟩⟩⟩⟩
 all_goals (rw [hv];clear hv;simp at *;simp [*])
theorem QFy:Qh Tryz.prog QkO:=Qk fun x _=>Qws x.1 x.2.1
def J9 (t:(List Int) × Bool):TRes:=zra (.tp [(zcs [TI] t.1),(zcb t.2)])
def QiE:TRow:=Qg 205 [(.a ctOp),(.c (.sl [TI]))] fun x=>(none,J9 (ZP x.1 x.2.1))
def Qw8:List TRow:=[QcY,Ys,Qf6,Qjy,Qer,QkJ,Qfb]
def QEJ:TCode :=
 (zsq [(.reg [zop 2 (.box 69 0 4),zmv 4 (.k (.n [TI])),zmv 5 (zkb false)]),(zsq [(.reg [zLd 10 2 4,zca 11 152 [10],zno 12 11,zmv 13 12,.grp 13 false [zmv 14 1,zca 15 42 [14],zno 16 15] 17 16,zmv 18 17,.grp 18 false [zmv 19 1,zle 20 19,zfa 21 2 1,zld 22 21 1,zbi 23 .neq 20 22] 24 23]),(.cond 24 (zsq [(.reg [zop 25 (.bsl 3 [TI] []),zmv 4 25,zmv 5 (zkb false)]),.ret]) .skip)]),(zsq [(.reg [zfa 26 2 0,zld 27 26 1]),(.block 0 (zsq [(.reg [zbi 29 .eql 27 (zki 1),zmv 28 29]),(.cond 28 (zsq [(.reg [zLd 30 2 4,zca 31 225 [30],zmv 32 1,zca 33 224 [31,32],zex 34 33 0,zex 35 33 1,zmv 4 34,zmv 5 35]),.ret]) (zsq [(.reg [zbi 37 .eql 27 (zki 2),zmv 36 37]),(.cond 36 (zsq [(.reg [zmv 38 1,zfa 39 2 3,zld 40 39 1,zca 41 226 [38,40],zex 42 41 0,zex 43 41 1,zmv 4 42,zmv 5 43]),.ret]) (zsq [(.reg [zbi 45 .eql 27 (zki 3),zmv 44 45]),(.cond 44 (zsq [(.reg [zmv 46 1,zca 47 227 [46],zmv 4 47,zmv 5 (zkb false)]),.ret]) (zsq [(.reg [zbi 49 .eql 27 (zki 4),zmv 48 49]),(.cond 48 (zsq [(.reg [zfa 50 2 3,zld 51 50 1,zia 52 51 (zki 0) [TI],zld 53 52 1,zmv 54 1,zca 55 228 [53,54],zex 56 55 0,zex 57 55 1,zmv 4 56,zmv 5 57]),.ret]) .skip)]))]))]))]))]),(.reg [zLd 59 2 4,zca 60 225 [59],zmv 61 1,zca 62 224 [60,61],zmv 58 62,zex 63 58 0,zex 64 58 1,zmv 6 63,zmv 7 64]),(.reg [zmv 66 1,zmv 67 6,zca 68 226 [66,67],zmv 65 68,zex 69 65 0,zex 70 65 1,zmv 8 69,zmv 9 70]),(.reg [zmv 71 8,zmv 72 7,zmv 73 72,.grp 73 false [zmv 74 9] 75 74,zmv 4 71,zmv 5 75]),.ret])
def Qz3:List (ARv × Md):=[(.t 4,.one .d),(.t 5,.one .d)]
theorem QAn (o:TOp') (x:List Int) (h :
 (zif (((!(QS o))||(!(Qu x)))||((x.length:Int) != o.2.1)) (K (J9 (([]:List Int),false))) (zif (o.1==(1:Int)) (K (J9 ((Q0 (QN o) x).1,(Q0 (QN o) x).2))) (zif (o.1==(2:Int)) (K (J9 ((QZ x o.2.2.2).1,(QZ x o.2.2.2).2))) (zif (o.1==(3:Int)) (K (J9 ((ZH x),false))) (zif (o.1==(4:Int)) (((0:Int)≤(0:Int)∧Int.toNat (0:Int)<(o.2.2.2).length)∧K (J9 ((Za (gtd (0:Int) o.2.2.2 (Int.toNat (0:Int))) x).1,(Za (gtd (0:Int) o.2.2.2 (Int.toNat (0:Int))) x).2))) (K (J9 ((QZ x ((Q0 (QN o) x).1)).1,(((Q0 (QN o) x).2)||((QZ x ((Q0 (QN o) x).1)).2))))))))))):Hold (tawp Qw8 (0+0) QEJ (TQ 0 0 Qz3 K) (Qe [(.a (Tup.cells ctOp o)),(.c (.sl [TI]) x)])) :=
 Hold.of (by kernel_rfl) h
theorem QEj (o:TOp') (x:List Int):TCon Tryz.prog 205 [(.a (Tup.cells ctOp o)),(.c (.sl [TI]) x)] (J9 (ZP o x)):=by
 refine Ql rfl fun hb=>tcg (n:=76) (sg:=QiE.sg) Qi (TOk.cons Qj0 (TOk.cons YF (TOk.cons QnX (TOk.cons QCp (TOk.cons QnC (TOk.cons QAm (TOk.cons QmI TOk.nil))))))) (by kernel_rfl) (by kernel_rfl) (QAn _ o x ?_)
 have hl_o_3:(o.2.2.2).length≤9223372036854775807:=hb.1.2.2.2.1.1
 have hl_x:x.length≤9223372036854775807:=hb.2.1.1
 rw [Bool.or_assoc,Qk4]
 refine ⟨fun h=>R_eq (by rw [Qmy];intro h2;simp [h2.1,h2.2] at h),fun h=>?_⟩
 have hp:QS o=true∧Qf x o.2.1=true:=by simpa using h
 have hk:=Qe9 hp.1
 have hv:(ZP o x)=(if o.1=1 then Q0 (QN o) x else if o.1=2 then QZ x o.2.2.2 else if o.1=4 then Za (gtd 0 o.2.2.2 0) x
    else if o.1=5 then ((QZ x (Q0 (QN o) x).1).1,(Q0 (QN o) x).2||(QZ x (Q0 (QN o) x).1).2) else (ZH x,false)):=by
  unfold ZP;rw [if_pos (by rw [hp.1,hp.2];rfl)]
 refine ⟨fun h1=>R_eq ?_,fun h1=>⟨fun h2=>R_eq ?_,fun h2=>⟨fun h3=>R_eq ?_,fun h3=>⟨fun h4=>⟨⟨by omega,QeV hp.1 (by simpa using h4)⟩,R_eq ?_⟩,fun h4=>R_eq ?_⟩⟩⟩⟩
 all_goals (rw [hv];clear hv;simp at *)
 ·simp [*]
 ·simp [*]
 ·simp [*]
 ·simp [*]
 ·have h5:o.1=5:=by omega
  simp [h5]
theorem Qv5:Qh Tryz.prog QiE:=Qk fun x _=>QEj x.1 x.2.1
def JX (t:(List Int) × (List Int) × Bool):TRes:=zra (.tp [(zcs [TI] t.1),(zcs [TI] t.2.1),(zcb t.2.2)])
def QjS:TRow:=Qg 193 [(.a ctOp),(.c (.sl [TI])),(.c (.sl [TI]))] fun x=>(none,JX (ZG x.1 x.2.1 x.2.2.1))
def QI4:List TRow:=[Qdb,Y0,QfI,QhL,Qks,J2,QdS,Qdh,Qed,QgK]
def Qvx:TCode :=
 (zsq [(.reg [zop 3 (.box 69 0 4),zmv 6 (.k (.n [TI])),zmv 7 (.k (.n [TI])),zmv 8 (zkb false)]),(zsq [(.reg [zLd 23 3 4,zca 24 194 [23],zno 25 24,zmv 26 25,.grp 26 false [zmv 27 1,zfa 28 3 1,zld 29 28 1,zca 30 114 [27,29],zno 31 30] 32 31,zmv 33 32,.grp 33 false [zmv 34 2,zfa 35 3 2,zld 36 35 1,zca 37 114 [34,36],zno 38 37] 39 38]),(.cond 39 (zsq [(.reg [zmv 6 (.k (.n [TI])),zmv 7 (.k (.n [TI])),zmv 8 (zkb false)]),.ret]) .skip)]),(zsq [(.reg [zfa 40 3 0,zld 41 40 1]),(.block 0 (zsq [(.reg [zbi 43 .eql 41 (zki 1),zmv 42 43]),(.cond 42 (zsq [(.reg [zLd 45 3 4,zca 46 212 [45],zmv 47 2,zca 48 218 [46,47],zmv 44 48,zex 49 44 0,zex 50 44 1,zmv 9 49,zmv 10 50]),(.reg [zmv 52 2,zmv 53 1,zca 54 219 [52,53],zmv 51 54,zex 55 51 0,zex 56 51 1,zop 11 (.new 185 (z0s [TI,TI,(.sl [TI])])),zst 11 55 3,zmv 12 56]),(.draw [zmv 57 9,zfa 58 11 2,zld 59 58 1,zmv 60 10,zmv 61 60,.grp 61 false [zmv 62 12] 63 62,zmv 6 57,zmv 7 59,zmv 8 63] []),.ret]) (zsq [(.reg [zbi 65 .eql 41 (zki 2),zmv 64 65]),(.cond 64 (zsq [(.reg [zmv 66 2,zca 67 119 [66],zmv 68 2,zca 69 119 [68],zmv 6 67,zmv 7 69,zmv 8 (zkb false)]),.ret]) (zsq [(.reg [zbi 71 .eql 41 (zki 4),zmv 70 71]),(.cond 70 (zsq [(.reg [zfa 73 3 3,zld 74 73 1,zia 75 74 (zki 0) [TI],zld 76 75 1,zmv 77 2,zca 78 214 [76,77],zmv 72 78,zex 79 72 0,zex 80 72 1,zmv 13 79,zmv 14 80]),(.reg [zmv 82 2,zmv 83 1,zca 84 188 [82,83],zmv 81 84,zex 85 81 0,zex 86 81 1,zmv 15 85,zmv 16 86]),(.reg [zmv 87 13,zmv 88 15,zop 89 (.bsl 3 [TI] [88]),zmv 90 14,zmv 91 90,.grp 91 false [zmv 92 16] 93 92,zmv 6 87,zmv 7 89,zmv 8 93]),.ret]) (zsq [(.reg [zbi 95 .eql 41 (zki 5),zmv 94 95]),(.cond 94 (zsq [(.reg [zLd 97 3 4,zca 98 212 [97],zmv 99 2,zca 100 218 [98,99],zmv 96 100,zex 101 96 0,zex 102 96 1,zmv 17 101,zmv 18 102]),(.reg [zmv 104 2,zmv 105 17,zca 106 213 [104,105],zmv 103 106,zex 107 103 0,zex 108 103 1,zmv 19 107,zmv 20 108]),(.reg [zmv 110 2,zmv 111 1,zca 112 219 [110,111],zmv 109 112,zex 113 109 0,zex 114 109 1,zop 21 (.new 185 (z0s [TI,TI,(.sl [TI])])),zst 21 113 3,zmv 22 114]),(.draw [zmv 115 19,zfa 116 21 2,zld 117 116 1,zmv 118 18,zmv 119 118,.grp 119 false [zmv 120 20] 121 120,zmv 122 121,.grp 122 false [zmv 123 22] 124 123,zmv 6 115,zmv 7 117,zmv 8 124] []),.ret]) .skip)]))]))]))]))]),(.reg [zmv 125 1,zmv 126 2,zca 127 220 [125,126],zmv 6 127,zmv 7 (.k (.n [TI])),zmv 8 (zkb false)]),.ret])
def QB8:List (ARv × Md):=[(.t 6,.one .d),(.t 7,.one .d),(.t 8,.one .d)]
theorem Qw6 (o:TOp') (x:List Int) (d:List Int) (h :
 (zif (((!(QS o))||(!(Qf x o.2.1)))||(!(Qf d o.2.2.1))) (K (JX ([],[],false))) (zif (o.1==(1:Int)) (K (JX ((Q4 (QN o) d).1,((QX d x).1).2.2,(((Q4 (QN o) d).2)||((QX d x).2))))) (zif (o.1==(2:Int)) (((QO (α:=List Int) d)∧(QO (α:=List Int) d))∧K (JX ((List.take ((id (α:=List Int) d).length) (List.drop 0 (id (α:=List Int) d))),(List.take ((id (α:=List Int) d).length) (List.drop 0 (id (α:=List Int) d))),false))) (zif (o.1==(4:Int)) (((0:Int)≤(0:Int)∧Int.toNat (0:Int)<(o.2.2.2).length)∧K (JX ((Za (gtd (0:Int) o.2.2.2 (Int.toNat (0:Int))) d).1,[(QM d x).1],(((Za (gtd (0:Int) o.2.2.2 (Int.toNat (0:Int))) d).2)||((QM d x).2))))) (zif (o.1==(5:Int)) (K (JX ((QZ d ((Q4 (QN o) d).1)).1,((QX d x).1).2.2,((((Q4 (QN o) d).2)||((QZ d ((Q4 (QN o) d).1)).2))||((QX d x).2))))) (K (JX ((ZJ x d),[],false))))))))):Hold (tawp QI4 (0+0) Qvx (TQ 0 0 QB8 K) (Qe [(.a (Tup.cells ctOp o)),(.c (.sl [TI]) x),(.c (.sl [TI]) d)])) :=
 Hold.of (by kernel_rfl) h
theorem QAd (o:TOp') (x:List Int) (d:List Int):TCon Tryz.prog 193 [(.a (Tup.cells ctOp o)),(.c (.sl [TI]) x),(.c (.sl [TI]) d)] (JX (ZG o x d)):=by
 refine Ql rfl fun hb=>tcg (n:=128) (sg:=QjS.sg) Qi (TOk.cons QiQ (TOk.cons Js (TOk.cons QmT (TOk.cons QF1 (TOk.cons QEO (TOk.cons QbC (TOk.cons QoB (TOk.cons Qi9 (TOk.cons Qlq (TOk.cons QzN TOk.nil)))))))))) (by kernel_rfl) (by kernel_rfl) (Qw6 _ o x d ?_)
 have hl_o_3:(o.2.2.2).length≤9223372036854775807:=hb.1.2.2.2.1.1
 have hl_x:x.length≤9223372036854775807:=hb.2.1.1
 have hl_d:d.length≤9223372036854775807:=hb.2.2.1.1
 refine ⟨fun h=>R_eq (by rw [Qok];intro h2;simp [h2.1,h2.2] at h),fun h=>?_⟩
 have hp:(QS o=true∧Qf x o.2.1=true)∧Qf d o.2.2.1=true:=by simpa using h
 have hk:=Qe9 hp.1.1
 have hdl:=(Zu.1 (Yd.1 hp.2).1).1
 have hv:(ZG o x d)=(if o.1=1 then ((Q4 (QN o) d).1,(QX d x).1.2.2,(Q4 (QN o) d).2||(QX d x).2)
    else if o.1=2 then (d,d,false)
    else if o.1=4 then ((Za (gtd 0 o.2.2.2 0) d).1,[(QM d x).1],(Za (gtd 0 o.2.2.2 0) d).2||(QM d x).2)
    else if o.1=5 then ((QZ d (Q4 (QN o) d).1).1,(QX d x).1.2.2,(Q4 (QN o) d).2||(QX d x).2||(QZ d (Q4 (QN o) d).1).2)
    else (ZJ x d,[],false)):=by
  unfold ZG;rw [if_pos (by rw [hp.1.1,hp.1.2,hp.2];rfl)]
 have hpl:QO (α:=List Int) d:=by unfold QO;rw [ZF];omega
 refine ⟨fun h1=>R_eq ?_,fun h1=>⟨fun h2=>⟨⟨hpl,hpl⟩,R_eq ?_⟩,fun h2=>⟨fun h4=>⟨⟨by omega,QeV hp.1.1 (by simpa using h4)⟩,R_eq ?_⟩,fun h4=>⟨fun h5=>R_eq ?_,fun h5=>R_eq ?_⟩⟩⟩⟩
 all_goals (rw [hv];clear hv;simp at *)
 ·simp [*]
 ·simp [*]
 ·simp [*]
 ·simp [*,Bool.or_assoc,Bool.or_comm,Bool.or_left_comm]
 ·simp [*]
theorem QxZ:Qh Tryz.prog QjS:=Qk fun x _=>QAd x.1 x.2.1 x.2.2.1
def J7 (t:(List Int) × (List Int) × Bool):TRes:=zra (.tp [(zcs [TI] t.1),(zcs [TI] t.2.1),(zcb t.2.2)])
def Qix:TRow:=Qg 209 [(.a ctOp),(.c (.sl [TI])),(.c (.sl [TI]))] fun x=>(none,J7 (ZG x.1 x.2.1 x.2.2.1))
def Qzs:List TRow:=[QcY,Ys,QhN,Qfb,Qb4,Qf6,QhQ,QgU,Qer]
def Qyj:TCode :=
 (zsq [(.reg [zop 3 (.box 69 0 4),zmv 6 (.k (.n [TI])),zmv 7 (.k (.n [TI])),zmv 8 (zkb false)]),(zsq [(.reg [zLd 19 3 4,zca 20 152 [19],zno 21 20,zmv 22 21,.grp 22 false [zmv 23 1,zca 24 42 [23],zno 25 24] 26 25,zmv 27 26,.grp 27 false [zmv 28 1,zle 29 28,zfa 30 3 1,zld 31 30 1,zbi 32 .neq 29 31] 33 32,zmv 34 33,.grp 34 false [zmv 35 2,zca 36 42 [35],zno 37 36] 38 37,zmv 39 38,.grp 39 false [zmv 40 2,zle 41 40,zfa 42 3 2,zld 43 42 1,zbi 44 .neq 41 43] 45 44]),(.cond 45 (zsq [(.reg [zop 46 (.bsl 3 [TI] []),zop 47 (.bsl 3 [TI] []),zmv 6 46,zmv 7 47,zmv 8 (zkb false)]),.ret]) .skip)]),(zsq [(.reg [zfa 48 3 0,zld 49 48 1]),(.block 0 (zsq [(.reg [zbi 51 .eql 49 (zki 2),zmv 50 51]),(.cond 50 (zsq [(.reg [zop 52 (.bsl 3 [TI] []),zmv 53 2,zop 54 (.app 52 53 3 [TI]),zop 55 (.bsl 3 [TI] []),zmv 56 2,zop 57 (.app 55 56 3 [TI]),zmv 6 54,zmv 7 57,zmv 8 (zkb false)]),.ret]) (zsq [(.reg [zbi 59 .eql 49 (zki 3),zmv 58 59]),(.cond 58 (zsq [(.reg [zmv 60 1,zmv 61 2,zca 62 230 [60,61],zop 63 (.bsl 3 [TI] []),zmv 6 62,zmv 7 63,zmv 8 (zkb false)]),.ret]) (zsq [(.reg [zbi 65 .eql 49 (zki 4),zmv 64 65]),(.cond 64 (zsq [(.reg [zfa 67 3 3,zld 68 67 1,zia 69 68 (zki 0) [TI],zld 70 69 1,zmv 71 2,zca 72 228 [70,71],zmv 66 72,zex 73 66 0,zex 74 66 1,zmv 9 73,zmv 10 74]),(.reg [zmv 76 2,zmv 77 1,zca 78 206 [76,77],zmv 75 78,zex 79 75 0,zex 80 75 1,zmv 11 79,zmv 12 80]),(.reg [zmv 81 9,zmv 82 11,zop 83 (.bsl 3 [TI] [82]),zmv 84 10,zmv 85 84,.grp 85 false [zmv 86 12] 87 86,zmv 6 81,zmv 7 83,zmv 8 87]),.ret]) .skip)]))]))]))]),(.reg [zLd 89 3 4,zca 90 225 [89],zmv 91 2,zca 92 231 [90,91],zmv 88 92,zex 93 88 0,zex 94 88 1,zmv 13 93,zmv 14 94]),(.reg [zmv 96 2,zmv 97 1,zca 98 232 [96,97],zmv 95 98,zex 99 95 0,zex 100 95 1,zop 15 (.new 185 (z0s [TI,TI,(.sl [TI])])),zst 15 99 3,zmv 16 100]),(zsq [(.reg [zfa 101 3 0,zld 102 101 1,zbi 103 .eql 102 (zki 1)]),(.cond 103 (zsq [(.draw [zmv 104 13,zfa 105 15 2,zld 106 105 1,zmv 107 14,zmv 108 107,.grp 108 false [zmv 109 16] 110 109,zmv 6 104,zmv 7 106,zmv 8 110] []),.ret]) .skip)]),(.reg [zmv 112 2,zmv 113 13,zca 114 226 [112,113],zmv 111 114,zex 115 111 0,zex 116 111 1,zmv 17 115,zmv 18 116]),(.draw [zmv 117 17,zfa 118 15 2,zld 119 118 1,zmv 120 14,zmv 121 120,.grp 121 false [zmv 122 16] 123 122,zmv 124 123,.grp 124 false [zmv 125 18] 126 125,zmv 6 117,zmv 7 119,zmv 8 126] []),.ret])
def Qwy:List (ARv × Md):=[(.t 6,.one .d),(.t 7,.one .d),(.t 8,.one .d)]
theorem QGz (o:TOp') (x:List Int) (d:List Int) (h :
 (zif (((((!(QS o))||(!(Qu x)))||((x.length:Int) != o.2.1))||(!(Qu d)))||((d.length:Int) != o.2.2.1)) (K (J7 (([]:List Int),([]:List Int),false))) (zif (o.1==(2:Int)) ((((0=0∨0+d.length≤0)∧0+d.length≤big)∧((0=0∨0+d.length≤0)∧0+d.length≤big))∧K (J7 ((List.take (0+d.length) (List.drop 0 (d:List Int))),(List.take (0+d.length) (List.drop 0 (d:List Int))),false))) (zif (o.1==(3:Int)) (K (J7 ((ZJ x d),([]:List Int),false))) (zif (o.1==(4:Int)) (((0:Int)≤(0:Int)∧Int.toNat (0:Int)<(o.2.2.2).length)∧K (J7 ((Za (gtd (0:Int) o.2.2.2 (Int.toNat (0:Int))) d).1,[(QM d x).1],(((Za (gtd (0:Int) o.2.2.2 (Int.toNat (0:Int))) d).2)||((QM d x).2))))) (zif (o.1==(1:Int)) (K (J7 ((Q4 (QN o) d).1,((QX d x).1).2.2,(((Q4 (QN o) d).2)||((QX d x).2))))) (K (J7 ((QZ d ((Q4 (QN o) d).1)).1,((QX d x).1).2.2,((((Q4 (QN o) d).2)||((QX d x).2))||((QZ d ((Q4 (QN o) d).1)).2))))))))))):Hold (tawp Qzs (0+0) Qyj (TQ 0 0 Qwy K) (Qe [(.a (Tup.cells ctOp o)),(.c (.sl [TI]) x),(.c (.sl [TI]) d)])) :=
 Hold.of (by kernel_rfl) h
theorem QvO (o:TOp') (x:List Int) (d:List Int):TCon Tryz.prog 209 [(.a (Tup.cells ctOp o)),(.c (.sl [TI]) x),(.c (.sl [TI]) d)] (J7 (ZG o x d)):=by
 refine Ql rfl fun hb=>tcg (n:=127) (sg:=Qix.sg) Qi (TOk.cons Qj0 (TOk.cons YF (TOk.cons QCr (TOk.cons QmI (TOk.cons Qgk (TOk.cons QnX (TOk.cons QyZ (TOk.cons QFk (TOk.cons QnC TOk.nil))))))))) (by kernel_rfl) (by kernel_rfl) (QGz _ o x d ?_)
 have hl_o_3:(o.2.2.2).length≤9223372036854775807:=hb.1.2.2.2.1.1
 have hl_x:x.length≤9223372036854775807:=hb.2.1.1
 have hl_d:d.length≤9223372036854775807:=hb.2.2.1.1
 rw [show (!(QS o)||!(Qu x)||((x.length:Int) != o.2.1)||!(Qu d)||((d.length:Int) != o.2.2.1))=(!(QS o)||!(Qf x o.2.1)||!(Qf d o.2.2.1)) by rw [← Qk4,← Qk4];simp only [Bool.or_assoc]]
 refine ⟨fun h=>R_eq (by rw [Qok];intro h2;simp [h2.1,h2.2] at h),fun h=>?_⟩
 have hp:(QS o=true∧Qf x o.2.1=true)∧Qf d o.2.2.1=true:=by simpa using h
 have hk:=Qe9 hp.1.1
 have hdl:=(Zu.1 (Yd.1 hp.2).1).1
 have hv:(ZG o x d)=(if o.1=1 then ((Q4 (QN o) d).1,(QX d x).1.2.2,(Q4 (QN o) d).2||(QX d x).2)
    else if o.1=2 then (d,d,false)
    else if o.1=4 then ((Za (gtd 0 o.2.2.2 0) d).1,[(QM d x).1],(Za (gtd 0 o.2.2.2 0) d).2||(QM d x).2)
    else if o.1=5 then ((QZ d (Q4 (QN o) d).1).1,(QX d x).1.2.2,(Q4 (QN o) d).2||(QX d x).2||(QZ d (Q4 (QN o) d).1).2)
    else (ZJ x d,[],false)):=by
  unfold ZG;rw [if_pos (by rw [hp.1.1,hp.1.2,hp.2];rfl)]
 refine ⟨fun h2=>⟨⟨⟨.inl rfl,by rw [ZC];omega⟩,.inl rfl,by rw [ZC];omega⟩,R_eq ?_⟩,fun h2=>⟨fun h3=>R_eq ?_,fun h3=>⟨fun h4=>⟨⟨by omega,QeV hp.1.1 (by simpa using h4)⟩,R_eq ?_⟩,fun h4=>⟨fun h1=>R_eq ?_,fun h1=>R_eq ?_⟩⟩⟩⟩
 all_goals (rw [hv];clear hv;simp at *)
 ·simp [*]
 ·simp [*]
 ·simp [*]
 ·simp [*]
 ·have h5:o.1=5:=by omega
  simp [h5]
theorem QvF:Qh Tryz.prog Qix:=Qk fun x _=>QvO x.1 x.2.1 x.2.2.1
def Qkf (t:Int × Bool):TRes:=zre (.tp [(zci t.1),(zcb t.2)])
def QhU:TRow:=Qg 120 [(.c (.sl [TI])),(.c (.sl [TI]))] fun x=>(none,Qkf (ZS x.1 x.2.1))
def QDR:List TRow:=[QfA,Qdh]
def QGB:TCode :=
 (zsq [(.reg [zmv 4 (zki 0),zmv 5 (zkb false)]),(.reg [zmv 11 0,zmv 12 1,zca 13 124 [11,12],zmv 10 13,zex 14 10 0,zex 15 10 1,zmv 6 14,zmv 7 15]),(.reg [zmv 17 6,zmv 18 6,zca 19 188 [17,18],zmv 16 19,zex 20 16 0,zex 21 16 1,zmv 8 20,zmv 9 21]),(.reg [zmv 22 8,zbi 23 .shr 22 (.k (.c (.int .u64) (1:Int))),zmv 24 7,zmv 25 24,.grp 25 false [zmv 26 9] 27 26,zmv 4 23,zmv 5 27]),.ret])
def Qwv:List (ARv × Md):=[(.t 4,.one .d),(.t 5,.one .d)]
theorem QIp (y:List Int) (t:List Int) (h :
 (((0:Int)≤(1:Int))∧K (Qkf ((Int.fdiv ((QM ((QY y t).1) ((QY y t).1)).1) (2 ^ (min (Int.toNat (1:Int)) (IntKind.i64.bits)))),(((QY y t).2)||((QM ((QY y t).1) ((QY y t).1)).2)))))):Hold (tawp QDR (0+0) QGB (TQ 0 0 Qwv K) (Qe [(.c (.sl [TI]) y),(.c (.sl [TI]) t)])) :=
 Hold.of (by kernel_rfl) h
theorem QGS (y:List Int) (t:List Int):TCon Tryz.prog 120 [(.c (.sl [TI]) y),(.c (.sl [TI]) t)] (Qkf (ZS y t)):=by
 refine Ql rfl fun hb=>tcg (n:=28) (sg:=QhU.sg) Qi (TOk.cons Qsq (TOk.cons Qi9 TOk.nil)) (by kernel_rfl) (by kernel_rfl) (QIp _ y t ?_)
 have hl_y:y.length≤9223372036854775807:=hb.1.1
 have hl_t:t.length≤9223372036854775807:=hb.2.1.1
 exact ⟨by omega,R_eq rfl⟩
theorem QEG:Qh Tryz.prog QhU:=Qk fun x _=>QGS x.1 x.2.1
def QhM (t:Int × Bool):TRes:=zre (.tp [(zci t.1),(zcb t.2)])
def Qiy:TRow:=Qg 164 [(.c (.sl [TI])),(.c (.sl [TI]))] fun x=>(none,QhM (ZS x.1 x.2.1))
def QBY:List TRow:=[QfR,Qb4]
def QFn:TCode :=
 (zsq [(.reg [zmv 4 (zki 0),zmv 5 (zkb false)]),(.reg [zmv 11 0,zmv 12 1,zca 13 165 [11,12],zmv 10 13,zex 14 10 0,zex 15 10 1,zmv 6 14,zmv 7 15]),(.reg [zmv 17 6,zmv 18 6,zca 19 206 [17,18],zmv 16 19,zex 20 16 0,zex 21 16 1,zmv 8 20,zmv 9 21]),(.reg [zmv 22 8,zbi 23 .quo 22 (zki 2),zmv 24 7,zmv 25 24,.grp 25 false [zmv 26 9] 27 26,zmv 4 23,zmv 5 27]),.ret])
def QAG:List (ARv × Md):=[(.t 4,.one .d),(.t 5,.one .d)]
theorem QEH (y:List Int) (t:List Int) (h :
 ((¬ ((2:Int):Int)=0)∧K (QhM (w64 (Int.tdiv ((QM ((QY y t).1) ((QY y t).1)).1) (2:Int)),(((QY y t).2)||((QM ((QY y t).1) ((QY y t).1)).2)))))):Hold (tawp QBY (0+0) QFn (TQ 0 0 QAG K) (Qe [(.c (.sl [TI]) y),(.c (.sl [TI]) t)])) :=
 Hold.of (by kernel_rfl) h
theorem QAJ (y:List Int) (t:List Int):TCon Tryz.prog 164 [(.c (.sl [TI]) y),(.c (.sl [TI]) t)] (QhM (ZS y t)):=by
 refine Ql rfl fun hb=>tcg (n:=28) (sg:=Qiy.sg) Qi (TOk.cons Qus (TOk.cons Qgk TOk.nil)) (by kernel_rfl) (by kernel_rfl) (QEH _ y t ?_)
 have hl_y:y.length≤9223372036854775807:=hb.1.1
 have hl_t:t.length≤9223372036854775807:=hb.2.1.1
 have h:=Qwr (QY y t).1
 have hf:=QjB.1 (Qiz (QY y t).1 (QY y t).1)
 refine ⟨by omega,R_eq ?_⟩
 unfold ZS
 generalize (QM (QY y t).1 (QY y t).1).1=q at *
 rw [Int.tdiv_eq_ediv_of_nonneg h,Qs (x:=q / 2) (by omega) (by omega),Int.fdiv_eq_ediv_of_nonneg _ (by omega)]
theorem QDu:Qh Tryz.prog Qiy:=Qk fun x _=>QAJ x.1 x.2.1
end
end Go.Proofs.YtjbdljkhbglnhaaGreat.Am

