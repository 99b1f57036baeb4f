/-
  Written by program: the code of functions, what it asks, and that it comes to what the models say.
-/
import Derived.Test.YtjbdljkhbglnhaaGreatZJD1
import Derived.Test.YtjbdljkhbglnhaaGreatZJD9
import Derived.Test.YtjbdljkhbglnhaaGreatZJP8
import Derived.Test.YtjbdljkhbglnhaaGreatZJP1
import Derived.Test.YtjbdljkhbglnhaaGreatZJP3
import Derived.Test.YtjbdljkhbglnhaaGreatZJPP
import Derived.Test.YtjbdljkhbglnhaaGreatZJPS
import Derived.Test.YtjbdljkhbglnhaaGreatZJKO
namespace Go.Proofs.YtjbdljkhbglnhaaGreat.Am
open Go Go.RowKit Go.Proofs.YtjbdljkhbglnhaaGreat
set_option linter.all false
set_option maxHeartbeats 2000000
noncomputable section
variable (K:TRes→Prop)
def Qbl (t:Bool):TRes:=zre (zcb t)
def QB2:TRow:=Qg 6 [(.c (.sl [(.int .u8)]))] fun x=>(none,Qbl (Qit x.1))
def Qw4:List TRow:=[Qho,Qj8,QbO,Ys,Qcc,QjA,Qiu,Qjp,QiT,Qfj,QiW,Qj3]
def QCd:TCode :=
 (zsq [(.reg [zmv 2 (zkb false)]),(zsq [(.reg [zmv 9 0,zca 10 13 [9]]),(.cond 10 (zsq [(.reg [zmv 2 (zkb true)]),.ret]) .skip)]),(.reg [zmv 12 0,zca 13 40 [12],zmv 11 13,zex 14 11 0,zex 15 11 1,zex 16 11 2,zex 17 11 3,zop 3 (.new 63 (z0s Qn)),zst 3 14 14,zmv 4 15,zmv 5 16,zmv 6 17]),(.reg [zop 18 (.bsl 76 Qz []),zfa 19 3 5,zst 19 18 1]),(.reg [zop 20 (.bsl 129 [(.sl [TI])] []),zfa 21 3 6,zst 21 20 1]),(zsq [(.reg [zLd 22 3 14,zca 23 41 [22],zno 24 23,zmv 25 24,.grp 25 false [zmv 26 5,zca 27 42 [26],zno 28 27] 29 28,zmv 30 29,.grp 30 false [zmv 31 5,zle 32 31,zfa 33 3 2,zld 34 33 1,zia 35 34 (zki 0) ctOp,zfa 36 35 1,zld 37 36 1,zbi 38 .neq 32 37] 39 38,zmv 40 39,.grp 40 false [zfa 41 3 5,zld 42 41 1,zmv 43 4,zca 44 43 [42,43],zbi 45 .geq 44 (zki 0)] 46 45,zmv 47 46,.grp 47 false [zmv 48 6,zca 49 42 [48],zno 50 49] 51 50,zmv 52 51,.grp 52 false [zmv 53 6,zle 54 53,zfa 55 3 2,zld 56 55 1,zfa 57 3 2,zld 58 57 1,zle 59 58,zbi 60 .sub 59 (zki 1),zia 61 56 60 ctOp,zfa 62 61 2,zld 63 62 1,zbi 64 .neq 54 63] 65 64,zmv 66 65,.grp 66 false [zfa 67 3 5,zld 68 67 1,zle 69 68,zbi 70 .gtr 69 (zki 0)] 71 70]),(.cond 71 (zsq [(.reg [zmv 2 (zkb true)]),.ret]) .skip)]),(.reg [zLd 72 3 14,zop 7 (.new 63 (z0s Qn)),zst 7 72 14]),(.reg [zfa 73 7 4,zst 73 (zkb false) 1]),(.reg [zLd 74 3 14,zop 8 (.new 63 (z0s Qn)),zst 8 74 14]),(.reg [zfa 75 8 4,zst 75 (zkb true) 1]),(.reg [zLd 76 7 14,zmv 77 4,zmv 78 5,zmv 79 6,zca 80 44 [76,77,78,79],zst 7 80 14]),(.reg [zLd 81 8 14,zmv 82 4,zmv 83 5,zmv 84 6,zca 85 44 [81,82,83,84],zst 8 85 14]),(zsq [(.draw [zLd 86 8 14,zca 87 45 [86],zLd 88 7 14,zca 89 45 [88],zbi 90 .gtr 87 89,zmv 91 90,.grp 91 false [zfa 92 7 11,zLd 93 92 3,zfa 94 8 11,zLd 95 94 3,zca 96 24 [93,95],zno 97 96] 98 97] [(1,2)]),(.cond 98 (zsq [(.reg [zmv 2 (zkb false)]),.ret]) .skip)]),(.reg [zLd 99 8 14,zmv 100 4,zca 101 46 [99,100],zst 8 101 14]),(zsq [(.draw [zfa 102 7 5,zld 103 102 1,zle 104 103,zbi 105 .neq 104 (zki 1),zmv 106 105,.grp 106 false [zfa 107 8 6,zld 108 107 1,zfa 109 7 5,zld 110 109 1,zia 111 110 (zki 0) Qz,zfa 112 111 1,zld 113 112 1,zca 114 47 [108,113],zno 115 114] 116 115] []),(.cond 116 (zsq [(.reg [zmv 2 (zkb false)]),.ret]) .skip)]),(.reg [zmv 117 6,zfa 118 7 9,zst 118 117 1]),(.reg [zmv 119 6,zfa 120 8 9,zst 120 119 1]),(.reg [zLd 121 7 14,zmv 122 4,zmv 123 6,zca 124 48 [121,122,123],zst 7 124 14]),(.reg [zLd 125 8 14,zmv 126 4,zmv 127 6,zca 128 48 [125,126,127],zst 8 128 14]),(.draw [zfa 129 7 11,zLd 130 129 3,zfa 131 8 11,zLd 132 131 3,zca 133 24 [130,132],zmv 134 133,.grp 134 true [zfa 135 7 10,zld 136 135 1,zfa 137 8 10,zld 138 137 1,zca 139 31 [136,138]] 140 139,zmv 141 140,.grp 141 true [zfa 142 7 5,zld 143 142 1,zle 144 143,zbi 145 .eql 144 (zki 0)] 146 145,zmv 147 146,.grp 147 true [zfa 148 8 5,zld 149 148 1,zle 150 149,zbi 151 .eql 150 (zki 0)] 152 151,zmv 153 152,.grp 153 true [zfa 154 8 6,zld 155 154 1,zle 156 155,zbi 157 .eql 156 (zki 0)] 158 157,zmv 159 158,.grp 159 true [zfa 160 7 10,zld 161 160 1,zle 162 161,zfa 163 3 2,zld 164 163 1,zia 165 164 (zki 0) ctOp,zfa 166 165 1,zld 167 166 1,zbi 168 .eql 162 167] 169 168,zmv 2 169] []),.ret])
def QEP:List (ARv × Md):=[(.t 2,.one .d)]
theorem QDg (code:List Int) (h :
 let z3:=Qdd code
 let z2:=ZM ((z3.1).1,(z3.1).2.1,(z3.1).2.2.1,(z3.1).2.2.2.1,false,([]:List Q5),([]:List (List Int)),(z3.1).2.2.2.2.2.2.2.1,(z3.1).2.2.2.2.2.2.2.2.1,(z3.1).2.2.2.2.2.2.2.2.2.1,(z3.1).2.2.2.2.2.2.2.2.2.2.1,(z3.1).2.2.2.2.2.2.2.2.2.2.2.1,(z3.1).2.2.2.2.2.2.2.2.2.2.2.2.1,(z3.1).2.2.2.2.2.2.2.2.2.2.2.2.2) (z3.2.1) (z3.2.2.1) (z3.2.2.2)
 let z5:=Zg (z2.1,z2.2.1,z2.2.2.1,z2.2.2.2.1,z2.2.2.2.2.1,z2.2.2.2.2.2.1,z2.2.2.2.2.2.2.1,z2.2.2.2.2.2.2.2.1,z2.2.2.2.2.2.2.2.2.1,z3.2.2.2,z2.2.2.2.2.2.2.2.2.2.2.1,z2.2.2.2.2.2.2.2.2.2.2.2.1,z2.2.2.2.2.2.2.2.2.2.2.2.2.1,z2.2.2.2.2.2.2.2.2.2.2.2.2.2) (z3.2.1) (z3.2.2.2)
 let z6:=ZM ((z3.1).1,(z3.1).2.1,(z3.1).2.2.1,(z3.1).2.2.2.1,true,([]:List Q5),([]:List (List Int)),(z3.1).2.2.2.2.2.2.2.1,(z3.1).2.2.2.2.2.2.2.2.1,(z3.1).2.2.2.2.2.2.2.2.2.1,(z3.1).2.2.2.2.2.2.2.2.2.2.1,(z3.1).2.2.2.2.2.2.2.2.2.2.2.1,(z3.1).2.2.2.2.2.2.2.2.2.2.2.2.1,(z3.1).2.2.2.2.2.2.2.2.2.2.2.2.2) (z3.2.1) (z3.2.2.1) (z3.2.2.2)
 let z1:=Z1 z6 (z3.2.1)
 let z4:=Zg (z1.1,z1.2.1,z1.2.2.1,z1.2.2.2.1,z1.2.2.2.2.1,z1.2.2.2.2.2.1,z1.2.2.2.2.2.2.1,z1.2.2.2.2.2.2.2.1,z1.2.2.2.2.2.2.2.2.1,z3.2.2.2,z1.2.2.2.2.2.2.2.2.2.2.1,z1.2.2.2.2.2.2.2.2.2.2.2.1,z1.2.2.2.2.2.2.2.2.2.2.2.2.1,z1.2.2.2.2.2.2.2.2.2.2.2.2.2) (z3.2.1) (z3.2.2.2)
 let z7:=Qv ((z3.1).1,(z3.1).2.1,(z3.1).2.2.1,(z3.1).2.2.2.1,(z3.1).2.2.2.2.1,([]:List Q5),([]:List (List Int)),(z3.1).2.2.2.2.2.2.2.1,(z3.1).2.2.2.2.2.2.2.2.1,(z3.1).2.2.2.2.2.2.2.2.2.1,(z3.1).2.2.2.2.2.2.2.2.2.2.1,(z3.1).2.2.2.2.2.2.2.2.2.2.2.1,(z3.1).2.2.2.2.2.2.2.2.2.2.2.2.1,(z3.1).2.2.2.2.2.2.2.2.2.2.2.2.2)
 let z8:=gtd dOp ((z3.1).2.2.1) (Int.toNat (0:Int))
 let z9:=m_eq (α:=List Int) (z5.2.2.2.2.2.2.2.2.2.2.1) (z4.2.2.2.2.2.2.2.2.2.2.1)
 let z10:=m_eq (α:=QK) (z5.2.2.2.2.2.2.2.2.2.2.2) (z4.2.2.2.2.2.2.2.2.2.2.2)
 let z11:=w64 ((((z3.1).2.2.1).length:Int)-(1:Int))
 (zif (Qdo code) (K (Qbl true)) ((YQ code)∧((((!((!z7)||(!(Qu (z3.2.2.1)))))=true→((0:Int)≤(0:Int)∧Int.toNat (0:Int)<((z3.1).2.2.1).length))∧((!(((((!z7)||(!(Qu (z3.2.2.1))))||(((z3.2.2.1).length:Int) != (z8.2.1)))||(decide ((Qo ([]:List Q5) (z3.2.1))≥(0:Int))))||(!(Qu (z3.2.2.2)))))=true→((0:Int)≤w64 ((((z3.1).2.2.1).length:Int)-(1:Int))∧Int.toNat z11<((z3.1).2.2.1).length)))∧(zif (((((((!z7)||(!(Qu (z3.2.2.1))))||(((z3.2.2.1).length:Int) != (z8.2.1)))||(decide ((Qo ([]:List Q5) (z3.2.1))≥(0:Int))))||(!(Qu (z3.2.2.2))))||(((z3.2.2.2).length:Int) != ((gtd dOp ((z3.1).2.2.1) (Int.toNat z11)).2.2.1)))||(decide (((0:Nat):Int)>(0:Int)))) (K (Qbl true)) ((JH ((z3.1).1,(z3.1).2.1,(z3.1).2.2.1,(z3.1).2.2.2.1,false,([]:List Q5),([]:List (List Int)),(z3.1).2.2.2.2.2.2.2.1,(z3.1).2.2.2.2.2.2.2.2.1,(z3.1).2.2.2.2.2.2.2.2.2.1,(z3.1).2.2.2.2.2.2.2.2.2.2.1,(z3.1).2.2.2.2.2.2.2.2.2.2.2.1,(z3.1).2.2.2.2.2.2.2.2.2.2.2.2.1,(z3.1).2.2.2.2.2.2.2.2.2.2.2.2.2) (z3.2.1) (z3.2.2.1) (z3.2.2.2))∧((JH ((z3.1).1,(z3.1).2.1,(z3.1).2.2.1,(z3.1).2.2.2.1,true,([]:List Q5),([]:List (List Int)),(z3.1).2.2.2.2.2.2.2.1,(z3.1).2.2.2.2.2.2.2.2.1,(z3.1).2.2.2.2.2.2.2.2.2.1,(z3.1).2.2.2.2.2.2.2.2.2.2.1,(z3.1).2.2.2.2.2.2.2.2.2.2.2.1,(z3.1).2.2.2.2.2.2.2.2.2.2.2.2.1,(z3.1).2.2.2.2.2.2.2.2.2.2.2.2.2) (z3.2.1) (z3.2.2.1) (z3.2.2.2))∧(zif ((decide ((Y9 z6)>(Y9 z2)))||(!(m_eq (α:=QK) (z2.2.2.2.2.2.2.2.2.2.2.2) (z6.2.2.2.2.2.2.2.2.2.2.2)))) (K (Qbl false)) ((Qa6 z6 (z3.2.1))∧(((!(((z2.2.2.2.2.2.1).length:Int) != (1:Int)))=true→((0:Int)≤(0:Int)∧Int.toNat (0:Int)<(z2.2.2.2.2.2.1).length))∧(zif ((((z2.2.2.2.2.2.1).length:Int) != (1:Int))||(!(m_eq (α:=List (List Int)) (z1.2.2.2.2.2.2.1) ((gtd Zb (z2.2.2.2.2.2.1) (Int.toNat (0:Int))).2)))) (K (Qbl false)) ((JR (z2.1,z2.2.1,z2.2.2.1,z2.2.2.2.1,z2.2.2.2.2.1,z2.2.2.2.2.2.1,z2.2.2.2.2.2.2.1,z2.2.2.2.2.2.2.2.1,z2.2.2.2.2.2.2.2.2.1,z3.2.2.2,z2.2.2.2.2.2.2.2.2.2.2.1,z2.2.2.2.2.2.2.2.2.2.2.2.1,z2.2.2.2.2.2.2.2.2.2.2.2.2.1,z2.2.2.2.2.2.2.2.2.2.2.2.2.2) (z3.2.1) (z3.2.2.2))∧((JR (z1.1,z1.2.1,z1.2.2.1,z1.2.2.2.1,z1.2.2.2.2.1,z1.2.2.2.2.2.1,z1.2.2.2.2.2.2.1,z1.2.2.2.2.2.2.2.1,z1.2.2.2.2.2.2.2.2.1,z3.2.2.2,z1.2.2.2.2.2.2.2.2.2.2.1,z1.2.2.2.2.2.2.2.2.2.2.2.1,z1.2.2.2.2.2.2.2.2.2.2.2.2.1,z1.2.2.2.2.2.2.2.2.2.2.2.2.2) (z3.2.1) (z3.2.2.2))∧((((((z10&&z9)&&(((z5.2.2.2.2.2.1).length:Int)==(0:Int)))&&(((z4.2.2.2.2.2.1).length:Int)==(0:Int)))&&(((z4.2.2.2.2.2.2.1).length:Int)==(0:Int)))=true→((0:Int)≤(0:Int)∧Int.toNat (0:Int)<((z3.1).2.2.1).length))∧K (Qbl (((((z10&&z9)&&(((z5.2.2.2.2.2.1).length:Int)==(0:Int)))&&(((z4.2.2.2.2.2.1).length:Int)==(0:Int)))&&(((z4.2.2.2.2.2.2.1).length:Int)==(0:Int)))&&(((z5.2.2.2.2.2.2.2.2.2.2.1).length:Int)==(z8.2.1)))))))))))))))))):Hold (tawp Qw4 (0+0) QCd (TQ 0 0 QEP K) (Qe [(.c (.sl [(.int .u8)]) code)])) :=
 Hold.of (by kernel_rfl) h
theorem l_FnOnceMore_h (code:List Int):TCon Tryz.prog 6 [(.c (.sl [(.int .u8)]) code)] (Qbl (Qit code)):=by
 refine Ql rfl fun hb=>tcg (n:=170) (sg:=QB2.sg) Qi (TOk.cons QEv (TOk.cons QC4 (TOk.cons Qey (TOk.cons YF (TOk.cons Qgj (TOk.cons QAl (TOk.cons Qx3 (TOk.cons QEb (TOk.cons Qwk (TOk.cons QtH (TOk.cons QGi (TOk.cons QFt TOk.nil)))))))))))) (by kernel_rfl) (by kernel_rfl) (QDg _ code ?_)
 have hl_code:code.length≤9223372036854775807:=hb.1.1
 conv=>zeta
 refine ⟨fun _=>R_eq rfl,fun hb=>?_⟩
 have hn:=QI0 hb
 have hpost:=QCV code hn
 obtain ⟨⟨⟨pc,plan,ops,last,redo,QcZ,full,X,Y,G,D,rows,loss,sat⟩,m,x,t⟩,hr⟩:∃ r,Qdd code=r:=⟨_,rfl⟩
 rw [hr] at hpost ⊢
 simp only
 obtain ⟨hM,hz⟩:QC ops=true∧Sz.sz ((pc,plan,ops,last,redo,QcZ,full,X,Y,G,D,rows,loss,sat):Qb)≤3100:=hpost
 have hml:=Zw hM
 have hw:w64 ((ops.length:Int)-1)=(ops.length:Int)-1:=Qs (by omega) (by omega)
 have hwn:Int.toNat ((ops.length:Int)-1)=ops.length-1:=by omega
 rw [hw,hwn]
 refine ⟨hn,⟨fun _=>⟨by omega,by show 0<_;omega⟩,fun _=>⟨by omega,by omega⟩⟩,fun _=>R_eq rfl,fun hT=>?_⟩
 simp only [Bool.or_eq_false_iff,Bool.not_eq_false',bne_eq_false_iff_eq,decide_eq_false_iff_not] at hT
 obtain ⟨⟨⟨⟨⟨⟨q1,q2⟩,q3⟩,_⟩,q5⟩,q6⟩,_⟩:=hT
 have q3:(x.length:Int)=(gtd dOp ops 0).2.1:=q3
 have H0:Qv (pc,plan,ops,last,false,[],[],X,Y,G,D,rows,loss,sat)=true:=q1
 have H1:Qf x (QV ops)=true:=by
  unfold Qf;rw [q2,Qhe hM,q3];simp
 have H2:Qf t (QP ops)=true:=by
  unfold Qf;rw [q5,Qk3 hM,q6];simp
 have s0:Sz.sz ((pc,plan,ops,last,redo,QcZ,full,X,Y,G,D,rows,loss,sat):Qb)=Sz.sz plan+Sz.sz ops+Sz.sz QcZ+Sz.sz full+Sz.sz X+Sz.sz Y+Sz.sz G+Sz.sz D+Sz.sz rows:=ZB _
 have z1:=ZF Y
 have z2:=ZF G
 have z3:=ZF D
 have z4:=ZF t
 have t6:=YO H2
 have sa:Sz.sz ((pc,plan,ops,last,false,[],[],X,Y,G,D,rows,loss,sat):Qb)=Sz.sz plan+Sz.sz ops+0+0+Sz.sz X+Sz.sz Y+Sz.sz G+Sz.sz D+Sz.sz rows:=ZB _
 have sb:Sz.sz ((pc,plan,ops,last,true,[],[],X,Y,G,D,rows,loss,sat):Qb)=Sz.sz plan+Sz.sz ops+0+0+Sz.sz X+Sz.sz Y+Sz.sz G+Sz.sz D+Sz.sz rows:=ZB _
 have fa:=Qjh (pc,plan,ops,last,false,[],[],X,Y,G,D,rows,loss,sat) m x t
 have fb:=Qjh (pc,plan,ops,last,true,[],[],X,Y,G,D,rows,loss,sat) m x t
 obtain ⟨R,Y',l',s',z,d,e1,e2,e3,e4,e5,e6,e7⟩:=QwE (m:=m) H0 H1 H2 (by omega)
 rw [e1] at fa
 rw [e2] at fb
 have fr:=Qsc (pc,plan,ops,last,true,[(m,R.take 1)],[],[],Y',G,D,rows,l',s') m
 rw [e3] at fr
 have ga:Sz.sz ((pc,plan,ops,last,false,[(m,R)],[],[],Y',G,D,rows,l',s'):Qb)=Sz.sz plan+Sz.sz ops+Sz.sz [(m,R)]+0+0+Sz.sz Y'+Sz.sz G+Sz.sz D+Sz.sz rows:=ZB _
 have ga':Sz.sz ((pc,plan,ops,last,false,[(m,R)],[],[],Y',t,D,rows,l',s'):Qb)=Sz.sz plan+Sz.sz ops+Sz.sz [(m,R)]+0+0+Sz.sz Y'+Sz.sz t+Sz.sz D+Sz.sz rows:=ZB _
 have gb:Sz.sz ((pc,plan,ops,last,true,[(m,R.take 1)],R,[],Y',G,D,rows,l',s'):Qb)=Sz.sz plan+Sz.sz ops+Sz.sz [(m,R.take 1)]+Sz.sz R+0+Sz.sz Y'+Sz.sz G+Sz.sz D+Sz.sz rows:=ZB _
 have gb':Sz.sz ((pc,plan,ops,last,true,[(m,R.take 1)],R,[],Y',t,D,rows,l',s'):Qb)=Sz.sz plan+Sz.sz ops+Sz.sz [(m,R.take 1)]+Sz.sz R+0+Sz.sz Y'+Sz.sz t+Sz.sz D+Sz.sz rows:=ZB _
 rw [e1,e2]
 simp only
 rw [e3]
 simp only
 rw [e4,e5]
 simp only
 refine ⟨by unfold JH;omega,by unfold JH;omega,fun h=>?_,fun _=>⟨by unfold Qa6;omega,fun _=>⟨by omega,by show 0<([(m,R)]:List Q5).length;simp⟩,fun h=>?_,fun _=>⟨by unfold JR;omega,by unfold JR;omega,fun _=>⟨by omega,by show 0<_;omega⟩,R_eq ?_⟩⟩⟩
 ·simp [m_eq] at h;omega
 ·have e:(gtd Zb ([(m,R)]:List Q5) (Int.toNat 0))=(m,R):=rfl
  rw [e] at h
  simp [m_eq] at h
 ·have e:(d.length:Int)=(gtd dOp ops (Int.toNat 0)).2.1:=by rw [e6,Qhe hM];rfl
  simp [m_eq,Qit,e]
end
end Go.Proofs.YtjbdljkhbglnhaaGreat.Am

