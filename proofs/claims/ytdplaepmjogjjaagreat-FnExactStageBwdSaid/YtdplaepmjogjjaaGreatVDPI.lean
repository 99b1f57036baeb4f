/- -/
import Derived.Test.YtdplaepmjogjjaaGreatVDP4
import Derived.Test.YtdplaepmjogjjaaGreatVDP1
import Derived.Test.YtdplaepmjogjjaaGreatVDPH
import Derived.Test.YtdplaepmjogjjaaGreatVDPG
import Derived.Test.YtdplaepmjogjjaaGreatVDPF
namespace Go.Proofs.YtdplaepmjogjjaaGreat.Am
open Go Go.RowKit Go.Proofs.YtdplaepmjogjjaaGreat
set_option linter.all false
noncomputable section
variable (K:TRes→Prop)
def Qab (t:(List Int) × (List Int) × Bool):TRes:=⟨(.tp [(.r [TI] 0 0 ((t.1).length)),(.r [TI] 1 0 ((t.2.1).length)),(zcb t.2.2)]),[(.sl 3 [TI] (.dp 0 true []) t.1),(.sl 3 [TI] (.dp 0 true []) t.2.1)],[],false,[]⟩
def Qix:TRow:=Qg 197 [(.a ctOp),(.c (.sl [TI])),(.c (.sl [TI]))] fun x=>(none,Qab (ZA x.1 x.2.1 x.2.2.1))
def QrV:TTab:=⟨[Qfg,Ju,Qka,Qk6,QkW,QbW,Qh9,Qee,Qkz,Qh2],true⟩
def Qz2:TCode :=
 (zsq [(.reg [zop 3 (.box 134 0 4),zmv 6 (.k (.n [TI])),zmv 7 (.k (.n [TI])),zmv 8 (zkb false)]),(zsq [(.reg [zLd 23 3 4,zca 24 228 [23],zno 25 24,zmv 26 25,.grp 26 false [zmv 27 1,zfa 28 3 1,zld 29 28 1,zca 30 100 [27,29],zno 31 30] 32 31,zmv 33 32,.grp 33 false [zmv 34 2,zfa 35 3 2,zld 36 35 1,zca 37 100 [34,36],zno 38 37] 39 38]),(.cond 39 (zsq [(.reg [zmv 6 (.k (.n [TI])),zmv 7 (.k (.n [TI])),zmv 8 (zkb false)]),.ret]) .skip)]),(zsq [(.reg [zfa 40 3 0,zld 41 40 1]),(.block 0 (zsq [(.reg [zbi 43 .eql 41 (zki 1),zmv 42 43]),(.cond 42 (zsq [(.reg [zLd 45 3 4,zca 46 230 [45],zmv 47 2,zca 48 244 [46,47],zmv 44 48,zex 49 44 0,zex 50 44 1,zmv 9 49,zmv 10 50]),(.reg [zmv 52 2,zmv 53 1,zca 54 245 [52,53],zmv 51 54,zex 55 51 0,zex 56 51 1,zop 11 (.new 235 (z0s [TI,TI,(.sl [TI])])),zst 11 55 3,zmv 12 56]),(.draw [zmv 57 9,zfa 58 11 2,zld 59 58 1,zmv 60 10,zmv 61 60,.grp 61 false [zmv 62 12] 63 62,zmv 6 57,zmv 7 59,zmv 8 63] []),.ret]) (zsq [(.reg [zbi 65 .eql 41 (zki 2),zmv 64 65]),(.cond 64 (zsq [(.reg [zmv 66 2,zca 67 104 [66],zmv 68 2,zca 69 104 [68],zmv 6 67,zmv 7 69,zmv 8 (zkb false)]),.ret]) (zsq [(.reg [zbi 71 .eql 41 (zki 4),zmv 70 71]),(.cond 70 (zsq [(.reg [zfa 73 3 3,zld 74 73 1,zia 75 74 (zki 0) [TI],zld 76 75 1,zmv 77 2,zca 78 232 [76,77],zmv 72 78,zex 79 72 0,zex 80 72 1,zmv 13 79,zmv 14 80]),(.reg [zmv 82 2,zmv 83 1,zca 84 188 [82,83],zmv 81 84,zex 85 81 0,zex 86 81 1,zmv 15 85,zmv 16 86]),(.reg [zmv 87 13,zmv 88 15,zop 89 (.bsl 3 [TI] [88]),zmv 90 14,zmv 91 90,.grp 91 false [zmv 92 16] 93 92,zmv 6 87,zmv 7 89,zmv 8 93]),.ret]) (zsq [(.reg [zbi 95 .eql 41 (zki 5),zmv 94 95]),(.cond 94 (zsq [(.reg [zLd 97 3 4,zca 98 230 [97],zmv 99 2,zca 100 244 [98,99],zmv 96 100,zex 101 96 0,zex 102 96 1,zmv 17 101,zmv 18 102]),(.reg [zmv 104 2,zmv 105 17,zca 106 231 [104,105],zmv 103 106,zex 107 103 0,zex 108 103 1,zmv 19 107,zmv 20 108]),(.reg [zmv 110 2,zmv 111 1,zca 112 245 [110,111],zmv 109 112,zex 113 109 0,zex 114 109 1,zop 21 (.new 235 (z0s [TI,TI,(.sl [TI])])),zst 21 113 3,zmv 22 114]),(.draw [zmv 115 19,zfa 116 21 2,zld 117 116 1,zmv 118 18,zmv 119 118,.grp 119 false [zmv 120 20] 121 120,zmv 122 121,.grp 122 false [zmv 123 22] 124 123,zmv 6 115,zmv 7 117,zmv 8 124] []),.ret]) .skip)]))]))]))]))]),(.reg [zmv 125 1,zmv 126 2,zca 127 246 [125,126],zmv 6 127,zmv 7 (.k (.n [TI])),zmv 8 (zkb false)]),.ret])
def QGT:List (ARv × Md):=[(.t 6,.one (.p 3)),(.t 7,.one (.p 3)),(.t 8,.one .d)]
theorem QI3 (o:TOp') (x:List Int) (d:List Int) (h :
 let z2:=Zc (gtd (0:Int) o.2.2.2 (Int.toNat (0:Int))) d
 let z3:=Q2 (Zf o) d
 let z1:=Zb d (List.take ((z3.1).length) (List.drop 0 (z3.1)))
 let z4:=List.take ((((QS d x).1).2.2).length) (((QS d x).1).2.2)
 let z5:=List.take ((id (α:=List Int) d).length) (id (α:=List Int) d)
 (zif (((!(Q3 o))||(!(Qq x o.2.1)))||(!(Qq d o.2.2.1))) (K (Qab (([]:List Int),([]:List Int),false))) (zif (o.1==(1:Int)) (K (Qab ((List.take ((z3.1).length) (z3.1)),z4,((z3.2)||((QS d x).2))))) (zif (o.1==(2:Int)) (((QH (α:=List Int) d)∧(QH (α:=List Int) d))∧K (Qab (z5,z5,false))) (zif (o.1==(4:Int)) (((0:Int)≤(0:Int)∧Int.toNat (0:Int)<(o.2.2.2).length)∧K (Qab ((List.take ((z2.1).length) (z2.1)),[(QQ d x).1],((z2.2)||((QQ d x).2))))) (zif (o.1==(5:Int)) (K (Qab ((List.take ((z1.1).length) (z1.1)),z4,(((z3.2)||(z1.2))||((QS d x).2))))) (K (Qab ((List.take ((Zu x d).length) (Zu x d)),([]:List Int),false))))))))):Hold (tawp QrV (0+0) Qz2 (TQ 0 0 QGT K) (Qd [(.a (Tup.cells ctOp o)),(.c (.sl [TI]) x),(.c (.sl [TI]) d)])) :=
 Hold.of (by kernel_rfl) h
theorem Qzn (o:TOp') (x:List Int) (d:List Int):TCon Tryz.prog 197 [(.a (Tup.cells ctOp o)),(.c (.sl [TI]) x),(.c (.sl [TI]) d)] (Qab (ZA o x d)):=by
 refine Qh rfl fun hb=>tcg (Γ:=QrV) (n:=128) (sg:=Qix.sg) Qi (TOkL.cons Qpo (TOkL.cons Qay (TOkL.cons QCv (TOkL.cons QzK (TOkL.cons QC8 (TOkL.cons QeO (TOkL.cons QKy (TOkL.cons Qtm (TOkL.cons QEK (TOkL.cons QyN TOkL.nil)))))))))) (by kernel_rfl) (by kernel_rfl) (QI3 _ o x d ?_)
 have hl_o_3:(o.2.2.2).length≤9223372036854775807:=hb.1.2.2.2.1.1
 have hl_x:x.length≤9223372036854775807:=hb.2.1.1
 have hl_d:d.length≤9223372036854775807:=hb.2.2.1.1
 conv=>zeta
 refine ⟨fun h=>R_eq (by rw [Qpf];intro h2;simp [h2.1,h2.2] at h),fun h=>?_⟩
 have hp:(Q3 o=true∧Qq x o.2.1=true)∧Qq d o.2.2.1=true:=by simpa using h
 have hk:=QpF hp.1.1
 have hdl:=(ZV.1 (Qjg.1 hp.2).1).1
 have hv:(ZA o x d)=(if o.1=1 then ((Q2 (Zf o) d).1,(QS d x).1.2.2,(Q2 (Zf o) d).2||(QS d x).2)
    else if o.1=2 then (d,d,false)
    else if o.1=4 then ((Zc (gtd 0 o.2.2.2 0) d).1,[(QQ d x).1],(Zc (gtd 0 o.2.2.2 0) d).2||(QQ d x).2)
    else if o.1=5 then ((Zb d (Q2 (Zf o) d).1).1,(QS d x).1.2.2,(Q2 (Zf o) d).2||(QS d x).2||(Zb d (Q2 (Zf o) d).1).2)
    else (Zu x d,[],false)):=by
  unfold ZA;rw [if_pos (by rw [hp.1.1,hp.1.2,hp.2];rfl)]
 have hpl:QH (α:=List Int) d:=by unfold QH;rw [Z2];omega
 refine ⟨fun h1=>R_eq ?_,fun h1=>⟨fun h2=>⟨⟨hpl,hpl⟩,R_eq ?_⟩,fun h2=>⟨fun h4=>⟨⟨by omega,Qr0 hp.1.1 (by simpa using h4)⟩,R_eq ?_⟩,fun h4=>⟨fun h5=>R_eq ?_,fun h5=>R_eq ?_⟩⟩⟩⟩
 all_goals (rw [hv];clear hv;simp at *)
 ·simp [*]
 ·simp [*]
 ·simp [*]
 ·simp [*,Bool.or_assoc,Bool.or_comm,Bool.or_left_comm]
 ·simp [*]
theorem QGf:Qf Tryz.prog Qix:=Qj fun x _=>Qzn x.1 x.2.1 x.2.2.1
def JL (t:(List Int) × (List Int) × Bool):TRes:=zra (.tp [(zcs [TI] t.1),(zcs [TI] t.2.1),(zcb t.2.2)])
def Qkk:TRow:=Qg 193 [(.a ctOp),(.c (.sl [TI])),(.c (.sl [TI]))] fun x=>(none,JL (ZA x.1 x.2.1 x.2.2.1))
def QpT:TTab:=⟨[QeW,YU,QjH,Qhq,QfJ,Qik,QhE,QhP,Qg4],false⟩
def QCJ:TCode :=
 (zsq [(.reg [zop 3 (.box 134 0 4),zmv 6 (.k (.n [TI])),zmv 7 (.k (.n [TI])),zmv 8 (zkb false)]),(zsq [(.reg [zLd 19 3 4,zca 20 222 [19],zno 21 20,zmv 22 21,.grp 22 false [zmv 23 1,zca 24 97 [23],zno 25 24] 26 25,zmv 27 26,.grp 27 false [zmv 28 1,zle 29 28,zfa 30 3 1,zld 31 30 1,zbi 32 .neq 29 31] 33 32,zmv 34 33,.grp 34 false [zmv 35 2,zca 36 97 [35],zno 37 36] 38 37,zmv 39 38,.grp 39 false [zmv 40 2,zle 41 40,zfa 42 3 2,zld 43 42 1,zbi 44 .neq 41 43] 45 44]),(.cond 45 (zsq [(.reg [zop 46 (.bsl 3 [TI] []),zop 47 (.bsl 3 [TI] []),zmv 6 46,zmv 7 47,zmv 8 (zkb false)]),.ret]) .skip)]),(zsq [(.reg [zfa 48 3 0,zld 49 48 1]),(.block 0 (zsq [(.reg [zbi 51 .eql 49 (zki 2),zmv 50 51]),(.cond 50 (zsq [(.reg [zop 52 (.bsl 3 [TI] []),zmv 53 2,zop 54 (.app 52 53 3 [TI]),zop 55 (.bsl 3 [TI] []),zmv 56 2,zop 57 (.app 55 56 3 [TI]),zmv 6 54,zmv 7 57,zmv 8 (zkb false)]),.ret]) (zsq [(.reg [zbi 59 .eql 49 (zki 3),zmv 58 59]),(.cond 58 (zsq [(.reg [zmv 60 1,zmv 61 2,zca 62 241 [60,61],zop 63 (.bsl 3 [TI] []),zmv 6 62,zmv 7 63,zmv 8 (zkb false)]),.ret]) (zsq [(.reg [zbi 65 .eql 49 (zki 4),zmv 64 65]),(.cond 64 (zsq [(.reg [zfa 67 3 3,zld 68 67 1,zia 69 68 (zki 0) [TI],zld 70 69 1,zmv 71 2,zca 72 227 [70,71],zmv 66 72,zex 73 66 0,zex 74 66 1,zmv 9 73,zmv 10 74]),(.reg [zmv 76 2,zmv 77 1,zca 78 184 [76,77],zmv 75 78,zex 79 75 0,zex 80 75 1,zmv 11 79,zmv 12 80]),(.reg [zmv 81 9,zmv 82 11,zop 83 (.bsl 3 [TI] [82]),zmv 84 10,zmv 85 84,.grp 85 false [zmv 86 12] 87 86,zmv 6 81,zmv 7 83,zmv 8 87]),.ret]) .skip)]))]))]))]),(.reg [zLd 89 3 4,zca 90 224 [89],zmv 91 2,zca 92 242 [90,91],zmv 88 92,zex 93 88 0,zex 94 88 1,zmv 13 93,zmv 14 94]),(.reg [zmv 96 2,zmv 97 1,zca 98 243 [96,97],zmv 95 98,zex 99 95 0,zex 100 95 1,zop 15 (.new 235 (z0s [TI,TI,(.sl [TI])])),zst 15 99 3,zmv 16 100]),(zsq [(.reg [zfa 101 3 0,zld 102 101 1,zbi 103 .eql 102 (zki 1)]),(.cond 103 (zsq [(.draw [zmv 104 13,zfa 105 15 2,zld 106 105 1,zmv 107 14,zmv 108 107,.grp 108 false [zmv 109 16] 110 109,zmv 6 104,zmv 7 106,zmv 8 110] []),.ret]) .skip)]),(.reg [zmv 112 2,zmv 113 13,zca 114 225 [112,113],zmv 111 114,zex 115 111 0,zex 116 111 1,zmv 17 115,zmv 18 116]),(.draw [zmv 117 17,zfa 118 15 2,zld 119 118 1,zmv 120 14,zmv 121 120,.grp 121 false [zmv 122 16] 123 122,zmv 124 123,.grp 124 false [zmv 125 18] 126 125,zmv 6 117,zmv 7 119,zmv 8 126] []),.ret])
def QIl:List (ARv × Md):=[(.t 6,.one .d),(.t 7,.one .d),(.t 8,.one .d)]
theorem QGI (o:TOp') (x:List Int) (d:List Int) (h :
 (zif (((((!(Q3 o))||(!(QA x)))||((x.length:Int) != o.2.1))||(!(QA d)))||((d.length:Int) != o.2.2.1)) (K (JL (([]:List Int),([]:List Int),false))) (zif (o.1==(2:Int)) ((((0=0∨0+d.length≤0)∧0+d.length≤big)∧((0=0∨0+d.length≤0)∧0+d.length≤big))∧K (JL ((List.take (0+d.length) (List.drop 0 (d:List Int))),(List.take (0+d.length) (List.drop 0 (d:List Int))),false))) (zif (o.1==(3:Int)) (K (JL ((Zu x d),([]:List Int),false))) (zif (o.1==(4:Int)) (((0:Int)≤(0:Int)∧Int.toNat (0:Int)<(o.2.2.2).length)∧K (JL ((Zc (gtd (0:Int) o.2.2.2 (Int.toNat (0:Int))) d).1,[(QQ d x).1],(((Zc (gtd (0:Int) o.2.2.2 (Int.toNat (0:Int))) d).2)||((QQ d x).2))))) (zif (o.1==(1:Int)) (K (JL ((Q2 (Zf o) d).1,((QS d x).1).2.2,(((Q2 (Zf o) d).2)||((QS d x).2))))) (K (JL ((Zb d ((Q2 (Zf o) d).1)).1,((QS d x).1).2.2,((((Q2 (Zf o) d).2)||((QS d x).2))||((Zb d ((Q2 (Zf o) d).1)).2))))))))))):Hold (tawp QpT (0+0) QCJ (TQ 0 0 QIl K) (Qd [(.a (Tup.cells ctOp o)),(.c (.sl [TI]) x),(.c (.sl [TI]) d)])) :=
 Hold.of (by kernel_rfl) h
theorem QIu (o:TOp') (x:List Int) (d:List Int):TCon Tryz.prog 193 [(.a (Tup.cells ctOp o)),(.c (.sl [TI]) x),(.c (.sl [TI]) d)] (JL (ZA o x d)):=by
 refine Qh rfl fun hb=>tcg (Γ:=QpT) (n:=127) (sg:=Qkk.sg) Qi (TOkL.cons Qmi (TOkL.cons JW (TOkL.cons QIb (TOkL.cons QE5 (TOkL.cons Qp4 (TOkL.cons QAh (TOkL.cons QIX (TOkL.cons Qzw (TOkL.cons QJM TOkL.nil))))))))) (by kernel_rfl) (by kernel_rfl) (QGI _ o x d ?_)
 have hl_o_3:(o.2.2.2).length≤9223372036854775807:=hb.1.2.2.2.1.1
 have hl_x:x.length≤9223372036854775807:=hb.2.1.1
 have hl_d:d.length≤9223372036854775807:=hb.2.2.1.1
 rw [show (!(Q3 o)||!(QA x)||((x.length:Int) != o.2.1)||!(QA d)||((d.length:Int) != o.2.2.1))=(!(Q3 o)||!(Qq x o.2.1)||!(Qq d o.2.2.1)) by rw [← Qo2,← Qo2];simp only [Bool.or_assoc]]
 refine ⟨fun h=>R_eq (by rw [Qpf];intro h2;simp [h2.1,h2.2] at h),fun h=>?_⟩
 have hp:(Q3 o=true∧Qq x o.2.1=true)∧Qq d o.2.2.1=true:=by simpa using h
 have hk:=QpF hp.1.1
 have hdl:=(ZV.1 (Qjg.1 hp.2).1).1
 have hv:(ZA o x d)=(if o.1=1 then ((Q2 (Zf o) d).1,(QS d x).1.2.2,(Q2 (Zf o) d).2||(QS d x).2)
    else if o.1=2 then (d,d,false)
    else if o.1=4 then ((Zc (gtd 0 o.2.2.2 0) d).1,[(QQ d x).1],(Zc (gtd 0 o.2.2.2 0) d).2||(QQ d x).2)
    else if o.1=5 then ((Zb d (Q2 (Zf o) d).1).1,(QS d x).1.2.2,(Q2 (Zf o) d).2||(QS d x).2||(Zb d (Q2 (Zf o) d).1).2)
    else (Zu x d,[],false)):=by
  unfold ZA;rw [if_pos (by rw [hp.1.1,hp.1.2,hp.2];rfl)]
 refine ⟨fun h2=>⟨⟨⟨.inl rfl,by rw [Zz];omega⟩,.inl rfl,by rw [Zz];omega⟩,R_eq ?_⟩,fun h2=>⟨fun h3=>R_eq ?_,fun h3=>⟨fun h4=>⟨⟨by omega,Qr0 hp.1.1 (by simpa using h4)⟩,R_eq ?_⟩,fun h4=>⟨fun h1=>R_eq ?_,fun h1=>R_eq ?_⟩⟩⟩⟩
 all_goals (rw [hv];clear hv;simp at *)
 ·simp [*]
 ·simp [*]
 ·simp [*]
 ·simp [*]
 ·have h5:o.1=5:=by omega
  simp [h5]
theorem QF7:Qf Tryz.prog Qkk:=Qj fun x _=>QIu x.1 x.2.1 x.2.2.1
end
end Go.Proofs.YtdplaepmjogjjaaGreat.Am

