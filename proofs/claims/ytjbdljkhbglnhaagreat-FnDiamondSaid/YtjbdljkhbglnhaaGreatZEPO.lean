/- -/
import Derived.Test.YtjbdljkhbglnhaaGreatZEPF
import Derived.Test.YtjbdljkhbglnhaaGreatZEP2
import Derived.Test.YtjbdljkhbglnhaaGreatZEP1
import Derived.Test.YtjbdljkhbglnhaaGreatZEG9
namespace Go.Proofs.YtjbdljkhbglnhaaGreat.Am
open Go Go.RowKit Go.Proofs.YtjbdljkhbglnhaaGreat
set_option linter.all false
noncomputable section
variable (K:TRes→Prop)
def Qct (t:Qd):TRes:=⟨(.a [(zci t.1),(.r QO 0 0 ((t.2).length))]),[(.sl 114 QO true t.2)],[],true,[]⟩
def QfF:TRow:=Qk 157 [(.a Qi)] fun x=>(some (Qu (α:=Qd) x.1),Qct (id (α:=Qd) x.1))
def Ql8:List TRow:=[Qao]
def Qzi:TCode :=
 (zsq [(.reg [zbi 13 .lss 12 11]),(.cond 13 .skip (.exit 0)),(.block 1 (zsq [(.reg [zia 14 10 12 QO,zLd 15 14 2,zop 5 (.new 114 (z0s QO)),zst 5 15 2]),(.draw [zfa 16 3 1,zld 17 16 1,zfa 18 5 0,zld 19 18 1,zfa 20 5 1,zld 21 20 1,zca 22 119 [21],zop 23 (.build (z0s QO) [(0,1,19),(1,1,22)]),zop 24 (.bsl 114 QO [23]),zop 25 (.app 17 24 114 QO),zfa 26 3 1,zst 26 25 1] [(0,6),(1,6),(2,6),(3,6),(0,8),(1,8)])])),(.reg [zbi 27 .add 12 (zki 1),zmv 12 27])])
def QsW:List (Nat × Md):=[(2,.b [.d,.d]),(3,.b [.d,.o 114]),(10,.one .d),(11,.one .d),(12,.one .d)]
def Qrw:TCode :=
 (zsq [(.reg [zLd 28 3 2,zst 2 28 2]),.ret])
def QUS:TCode :=
 (zsq [(.reg [zop 1 (.box 97 0 2),zop 2 (.new 97 (z0s Qi))]),(.reg [zfa 6 1 0,zld 7 6 1,zop 8 (.build (z0s Qi) [(0,1,7)]),zop 3 (.new 97 (z0s Qi)),zst 3 8 2]),(zsq [(.reg [zfa 9 1 1,zld 10 9 1,zle 11 10,zmv 12 (zki 0)]),(.block 0 (.loop QsW Qzi))]),Qrw])
def QuX:List (ARv × Md):=[(.l 2 2 true,.b [.d,.o 114])]
def QsM:Qb:=TQ 0 0 QuX K
def QNA:Qb:=Qseq (tawp Ql8 0 Qrw (QsM K)) (QsM K)
def QWF:Qb:=Qblk 0 (QNA K)
def Qpn (q:Qd) (x:Int) (r1:List Zb):Prop:=Loop Ql8 0 QsW Qzi (QWF K) ⟨[(2,(.p 0 0 0)),(3,(.p 2 0 0)),(10,(zcs QO q.2)),(11,(zci ((q.2).length:Int))),(12,(zci x))],[(0,(.box [(zci 0),(zcs QO ([]))])),(1,(.sl 114 QO true r1)),(2,(.box [(zci q.1),(.r QO 1 0 r1.length)]))],3⟩
theorem QBg (q:Qd) (x:Int) (r1:List Zb) (h :
 (zif (decide (x<((q.2).length:Int))) (((0:Int)≤x∧Int.toNat x<(q.2).length)∧(((Qu (α:=List Int) ((gtd ((0,[]):Zb) q.2 (Int.toNat x)).2))∧((r1.length=r1.length∨r1.length+1≤r1.length)∧r1.length+1≤big))∧(Qpn K q (w64 (x+(1:Int))) (List.take (r1.length+1) ((List.take r1.length r1)++([((gtd ((0,[]):Zb) q.2 (Int.toNat x)).1,(List.take ((id (α:=List Int) ((gtd ((0,[]):Zb) q.2 (Int.toNat x)).2)).length) (List.drop 0 (id (α:=List Int) ((gtd ((0,[]):Zb) q.2 (Int.toNat x)).2)))))])))))) (K (Qct (q.1,(List.take r1.length r1)))))):Qpn K q x r1 :=
 Loop.of (by kernel_rfl) h
theorem QYO (q:Qd) (h :
 (Qpn K q 0 ([]:List Zb))):Hold (tawp Ql8 (0+0) QUS (TQ 0 0 QuX K) (Qg [(.a [(.c TI q.1),(.c (.sl QO) q.2)])])) :=
 Hold.of (by kernel_rfl) h
theorem QFr (q:Qd) (hp:Qu (α:=Qd) q):TCon Tryz.prog 157 [(.a [(.c TI q.1),(.c (.sl QO) q.2)])] (Qct (id (α:=Qd) q)):=by
 refine Qo rfl fun hb=>tcg (n:=29) (sg:=QfF.sg) Qm (TOk.cons Qa8 TOk.nil) (by kernel_rfl) (by kernel_rfl) (QYO _ q ?_)
 have hl_q_1:(q.2).length≤9223372036854775807:=hb.1.2.1.1
 unfold Qu at hp
 simp only [ZP,ZF] at hp
 refine Jk (l:=q.2) (Q:=fun z=>Qct (q.1,z)=Qct (id (α:=Qd) q)) (by omega) (fun k x v hk hl hg hv hx ih=>?_) (fun hq=>?_) (R_eq rfl)
 ·refine QBg (fun r'=>r'=Qct (id (α:=Qd) q)) q _ _ ⟨fun _=>?_,fun h=>by simp at h;omega⟩
  simp only [ZP,ZF] at hx
  rw [Int.toNat_natCast,hg,sc1 (by omega),Q8,Qd7]
  exact ⟨⟨by omega,hk⟩,⟨(show Sz.sz (_:List Int)≤2147483648 by omega),room (by omega)⟩,ih⟩
 ·refine QBg (fun r'=>r'=Qct (id (α:=Qd) q)) q _ _ ⟨fun h=>by simp at h,fun _=>?_⟩
  rw [List.take_length];exact hq
theorem Qk7:Qj Tryz.prog QfF:=Qn fun x h=>QFr x.1 h
def Qc0 (t:Qd):TRes:=⟨(.a [(zci t.1),(.r QO 0 0 ((t.2).length))]),[(.sl 114 QO true t.2)],[],true,[]⟩
def Qfh:TRow:=Qk 169 [(.a Qi)] fun x=>(some (Qu (α:=Qd) x.1),Qc0 (id (α:=Qd) x.1))
def Qn6:List TRow:=[]
def QxQ:TCode :=
 (zsq [(zsq [(.reg [zmv 6 4,zfa 7 1 1,zld 8 7 1,zle 9 8,zbi 10 .lss 6 9]),(.cond 10 .skip (.exit 0))]),(.block 1 (.draw [zmv 13 3,zfa 14 1 1,zld 15 14 1,zmv 16 4,zia 17 15 16 QO,zfa 18 17 0,zld 19 18 1,zop 20 (.bsl 3 [TI] []),zfa 21 1 1,zld 22 21 1,zmv 23 4,zia 24 22 23 QO,zfa 25 24 1,zld 26 25 1,zop 27 (.app 20 26 3 [TI]),zop 28 (.build (z0s QO) [(0,1,19),(1,1,27)]),zop 29 (.bsl 114 QO [28]),zop 30 (.app 13 29 114 QO),zmv 3 30] [(1,7),(2,7),(4,7),(5,7),(6,7),(7,8),(7,9),(7,11),(7,12),(7,13),(1,14),(2,14),(4,14),(5,14),(6,14)])),(.reg [zmv 11 4,zbi 12 .add 11 (zki 1),zmv 4 12])])
def Qya:List (Nat × Md):=[(1,.b [.d,.d]),(2,.b [.d,.d]),(3,.one .f),(4,.one .d)]
def QxY:TCode :=
 (zsq [(.reg [zmv 31 3,zfa 32 1 1,zst 32 31 1]),(.reg [zLd 33 1 2,zst 2 33 2]),.ret])
def QGs:TCode :=
 (zsq [(.reg [zop 1 (.box 97 0 2),zop 2 (.new 97 (z0s Qi))]),(.reg [zop 5 (.bsl 114 QO []),zmv 3 5]),(zsq [(.reg [zmv 4 (zki 0)]),(.block 0 (.loop Qya QxQ))]),QxY])
def Qzg:List (ARv × Md):=[(.l 2 2 true,.b [.d,.o 114])]
def Qre:Qb:=TQ 0 0 Qzg K
def QHp:Qb:=Qseq (tawp Qn6 0 QxY (Qre K)) (Qre K)
def QE3:Qb:=Qblk 0 (QHp K)
def Qp5 (q:Qd) (i:Int) (l:List Zb):Prop:=Loop Qn6 0 Qya QxQ (QE3 K) ⟨[(1,(.p 0 0 0)),(2,(.p 1 0 0)),(3,(.r QO 2 0 l.length)),(4,(zci i))],[(0,(.box [(zci q.1),(zcs QO q.2)])),(1,(.box [(zci 0),(zcs QO ([]))])),(2,(.sl 114 QO true l))],3⟩
theorem QrD (q:Qd) (i:Int) (l:List Zb) (h :
 (zif (decide (i<((q.2).length:Int))) ((((0:Int)≤i∧Int.toNat i<(q.2).length)∧(((0:Int)≤i∧Int.toNat i<(q.2).length)∧(((0=0∨0+((gtd ((0,[]):Zb) q.2 (Int.toNat i)).2).length≤0)∧0+((gtd ((0,[]):Zb) q.2 (Int.toNat i)).2).length≤big)∧((l.length=l.length∨l.length+1≤l.length)∧l.length+1≤big))))∧(Qp5 K q (w64 (i+(1:Int))) (List.take (l.length+1) ((List.take l.length l)++([((gtd ((0,[]):Zb) q.2 (Int.toNat i)).1,(List.take (0+((gtd ((0,[]):Zb) q.2 (Int.toNat i)).2).length) (List.drop 0 ((gtd ((0,[]):Zb) q.2 (Int.toNat i)).2))))]))))) (K (Qc0 (q.1,(List.take l.length l)))))):Qp5 K q i l :=
 Loop.of (by kernel_rfl) h
theorem QSM (q:Qd) (h :
 (Qp5 K q 0 ([]:List Zb))):Hold (tawp Qn6 (0+0) QGs (TQ 0 0 Qzg K) (Qg [(.a [(.c TI q.1),(.c (.sl QO) q.2)])])) :=
 Hold.of (by kernel_rfl) h
theorem QWb (q:Qd) (hp:Qu (α:=Qd) q):TCon Tryz.prog 169 [(.a [(.c TI q.1),(.c (.sl QO) q.2)])] (Qc0 (id (α:=Qd) q)):=by
 refine Qo rfl fun hb=>tcg (n:=34) (sg:=Qfh.sg) Qm TOk.nil (by kernel_rfl) (by kernel_rfl) (QSM _ q ?_)
 have hl_q_1:(q.2).length≤9223372036854775807:=hb.1.2.1.1
 unfold Qu at hp
 simp only [ZP,ZF] at hp
 refine Jk (l:=q.2) (Q:=fun z=>Qc0 (q.1,z)=Qc0 (id (α:=Qd) q)) (by omega) (fun k x v hk hl hg hv hx ih=>?_) (fun hq=>?_) (R_eq rfl)
 ·refine QrD (fun r'=>r'=Qc0 (id (α:=Qd) q)) q _ _ ⟨fun _=>?_,fun h=>by simp at h;omega⟩
  simp only [ZP,ZF] at hx
  rw [Int.toNat_natCast,hg,sc1 (by omega),Q8,Qb1]
  have:=ZS x.2
  exact ⟨⟨⟨by omega,hk⟩,⟨by omega,hk⟩,⟨.inl rfl,by rw [Q9];omega⟩,room (by omega)⟩,ih⟩
 ·refine QrD (fun r'=>r'=Qc0 (id (α:=Qd) q)) q _ _ ⟨fun h=>by simp at h,fun _=>?_⟩
  rw [List.take_length];exact hq
theorem QnD:Qj Tryz.prog Qfh:=Qn fun x h=>QWb x.1 h
def QhC (t:Qd × Bool):TRes:=⟨(.tp [(.a [(zci t.1.1),(.r QO 0 0 ((t.1.2).length))]),(zcb t.2)]),[(.sl 114 QO true t.1.2)],[],true,[]⟩
def QlX:TRow:=Qk 98 [(.a Qi),(.a QO)] fun x=>(some (ZZ (α:=Qd) (β:=Zb) x.1 x.2.1),QhC (Yz x.1 x.2.1))
def QHy:List TRow:=[QfF,Qf5,QhT,Qao]
def QJT:TCode :=
 (zsq [(.reg [zop 2 (.box 97 0 2),zop 3 (.box 114 1 2),zop 4 (.new 97 (z0s Qi)),zmv 5 (zkb false)]),(.reg [zLd 7 2 2,zca 8 157 [7],zop 6 (.new 97 (z0s Qi)),zst 6 8 2]),(zsq [(.reg [zLd 9 2 2,zca 10 135 [9],zno 11 10,zmv 12 11,.grp 12 false [zLd 13 3 2,zca 14 178 [13],zno 15 14] 16 15,zmv 17 16,.grp 17 false [zfa 18 2 1,zld 19 18 1,zle 20 19,zfa 21 2 0,zld 22 21 1,zbi 23 .eql 20 22] 24 23]),(.cond 24 (zsq [(.reg [zLd 25 6 2,zst 4 25 2,zmv 5 (zkb false)]),.ret]) .skip)]),(.draw [zfa 26 6 1,zld 27 26 1,zfa 28 3 0,zld 29 28 1,zfa 30 3 1,zld 31 30 1,zca 32 119 [31],zop 33 (.build (z0s QO) [(0,1,29),(1,1,32)]),zop 34 (.bsl 114 QO [33]),zop 35 (.app 27 34 114 QO),zfa 36 6 1,zst 36 35 1] [(0,6),(1,6),(2,6),(3,6),(0,8),(1,8)]),(.reg [zLd 37 6 2,zst 4 37 2,zmv 5 (zkb true)]),.ret])
def QMG:List (ARv × Md):=[(.l 4 2 true,.b [.d,.o 114]),(.t 5,.one .d)]
theorem QJc (q:Qd) (x:Zb) (h :
 ((Qu (α:=Qd) q)∧(zif (((!(Q1 q))||(!(Yv x)))||(((q.2).length:Int)==q.1)) (K (QhC (((id (α:=Qd) q).1,(List.take (((id (α:=Qd) q).2).length) ((id (α:=Qd) q).2))),false))) (((Qu (α:=List Int) x.2)∧((((id (α:=Qd) q).2).length=((id (α:=Qd) q).2).length∨((id (α:=Qd) q).2).length+1≤((id (α:=Qd) q).2).length)∧((id (α:=Qd) q).2).length+1≤big))∧K (QhC (((id (α:=Qd) q).1,(List.take (((id (α:=Qd) q).2).length+1) ((List.take (((id (α:=Qd) q).2).length) ((id (α:=Qd) q).2))++([(x.1,(List.take ((id (α:=List Int) x.2).length) (List.drop 0 (id (α:=List Int) x.2))))])))),true)))))):Hold (tawp QHy (0+0) QJT (TQ 0 0 QMG K) (Qg [(.a [(.c TI q.1),(.c (.sl QO) q.2)]),(.a [(.c TI x.1),(.c (.sl [TI]) x.2)])])) :=
 Hold.of (by kernel_rfl) h
theorem QLz (q:Qd) (x:Zb) (hp:ZZ (α:=Qd) (β:=Zb) q x):TCon Tryz.prog 98 [(.a [(.c TI q.1),(.c (.sl QO) q.2)]),(.a [(.c TI x.1),(.c (.sl [TI]) x.2)])] (QhC (Yz q x)):=by
 refine Qo rfl fun hb=>tcg (n:=38) (sg:=QlX.sg) Qm (TOk.cons Qk7 (TOk.cons QnG (TOk.cons Qyh (TOk.cons Qa8 TOk.nil)))) (by kernel_rfl) (by kernel_rfl) (QJc _ q x ?_)
 have hl_q_1:(q.2).length≤9223372036854775807:=hb.1.2.1.1
 have hl_x_1:(x.2).length≤9223372036854775807:=hb.2.1.2.1.1
 unfold ZZ at hp
 have hq:Qu q:=by unfold Qu;omega
 simp only [ZP,ZF] at hp
 have h1:=YF q.2
 have h2:=ZS x.2
 have e:((((!(Q1 q))||(!(Yv x)))||(((q.2).length:Int)==q.1))) = !(Q1 q&&Yv x&&decide ((q.2.length:Int)<q.1)):=by
  cases hk:Q1 q
  ·rfl
  ·have:(q.2.length:Int)≤q.1:=by
    simp only [Q1,Bool.and_eq_true,decide_eq_true_eq] at hk
    exact hk.1.2
   cases Yv x
   ·rfl
   ·rw [Bool.eq_iff_iff];simp;omega
 rw [e]
 refine ⟨hq,fun h=>R_eq ?_,fun h=>⟨⟨(show Sz.sz (_:List Int)≤2147483648 by omega),⟨.inl rfl,by rw [Q9];simp only [id];omega⟩⟩,R_eq ?_⟩⟩
 ·simp only [Bool.not_eq_true'] at h
  simp [Yz,h]
 ·simp only [Bool.not_eq_false'] at h
  simp [Yz,h,List.take_of_length_le]
theorem QVx:Qj Tryz.prog QlX:=Qn fun x h=>QLz x.1 x.2.1 h
def Qkq (t:Qd × Bool):TRes:=⟨(.tp [(.a [(zci t.1.1),(.r QO 0 0 ((t.1.2).length))]),(zcb t.2)]),[(.sl 114 QO true t.1.2)],[],true,[]⟩
def QoS:TRow:=Qk 173 [(.a Qi),(.a QO)] fun x=>(some (ZZ (α:=Qd) (β:=Zb) x.1 x.2.1),Qkq (Yz x.1 x.2.1))
def QGW:List TRow:=[Qfh,QfS,Y7,YO]
def QFA:TCode :=
 (zsq [(.reg [zop 2 (.box 97 0 2),zop 3 (.box 114 1 2),zop 4 (.new 97 (z0s Qi)),zmv 5 (zkb false)]),(.reg [zLd 7 2 2,zca 8 169 [7],zop 6 (.new 97 (z0s Qi)),zst 6 8 2]),(zsq [(.reg [zLd 9 2 2,zca 10 103 [9],zno 11 10,zmv 12 11,.grp 12 false [zfa 13 2 1,zld 14 13 1,zle 15 14,zfa 16 2 0,zld 17 16 1,zbi 18 .geq 15 17] 19 18,zmv 20 19,.grp 20 false [zfa 21 3 1,zld 22 21 1,zca 23 42 [22],zno 24 23] 25 24,zmv 26 25,.grp 26 false [zfa 27 3 0,zld 28 27 1,zca 29 77 [28,(zki 0),(zki 4)],zno 30 29] 31 30]),(.cond 31 (zsq [(.reg [zLd 32 6 2,zst 4 32 2,zmv 5 (zkb false)]),.ret]) .skip)]),(.draw [zfa 33 6 1,zld 34 33 1,zfa 35 3 0,zld 36 35 1,zop 37 (.bsl 3 [TI] []),zfa 38 3 1,zld 39 38 1,zop 40 (.app 37 39 3 [TI]),zop 41 (.build (z0s QO) [(0,1,36),(1,1,40)]),zop 42 (.bsl 114 QO [41]),zop 43 (.app 34 42 114 QO),zfa 44 6 1,zst 44 43 1] [(0,4),(1,4),(2,4),(3,4),(4,5),(4,6),(0,7),(1,7),(2,7),(3,7),(0,9),(1,9)]),(.reg [zLd 45 6 2,zst 4 45 2,zmv 5 (zkb true)]),.ret])
def QQG:List (ARv × Md):=[(.l 4 2 true,.b [.d,.o 114]),(.t 5,.one .d)]
theorem QTa (q:Qd) (x:Zb) (h :
 ((Qu (α:=Qd) q)∧(zif ((((!(Q1 q))||(decide (((q.2).length:Int)≥q.1)))||(!(QJ x.2)))||(!(m_in x.1 (0:Int) (4:Int)))) (K (Qkq (((id (α:=Qd) q).1,(List.take (((id (α:=Qd) q).2).length) ((id (α:=Qd) q).2))),false))) ((((0=0∨0+(x.2).length≤0)∧0+(x.2).length≤big)∧((((id (α:=Qd) q).2).length=((id (α:=Qd) q).2).length∨((id (α:=Qd) q).2).length+1≤((id (α:=Qd) q).2).length)∧((id (α:=Qd) q).2).length+1≤big))∧K (Qkq (((id (α:=Qd) q).1,(List.take (((id (α:=Qd) q).2).length+1) ((List.take (((id (α:=Qd) q).2).length) ((id (α:=Qd) q).2))++([(x.1,(List.take (0+(x.2).length) (List.drop 0 (x.2:List Int))))])))),true)))))):Hold (tawp QGW (0+0) QFA (TQ 0 0 QQG K) (Qg [(.a [(.c TI q.1),(.c (.sl QO) q.2)]),(.a [(.c TI x.1),(.c (.sl [TI]) x.2)])])) :=
 Hold.of (by kernel_rfl) h
theorem QTZ (q:Qd) (x:Zb) (hp:ZZ (α:=Qd) (β:=Zb) q x):TCon Tryz.prog 173 [(.a [(.c TI q.1),(.c (.sl QO) q.2)]),(.a [(.c TI x.1),(.c (.sl [TI]) x.2)])] (Qkq (Yz q x)):=by
 refine Qo rfl fun hb=>tcg (n:=46) (sg:=QoS.sg) Qm (TOk.cons QnD (TOk.cons Qmn (TOk.cons Jp (TOk.cons YX TOk.nil)))) (by kernel_rfl) (by kernel_rfl) (QTa _ q x ?_)
 have hl_q_1:(q.2).length≤9223372036854775807:=hb.1.2.1.1
 have hl_x_1:(x.2).length≤9223372036854775807:=hb.2.1.2.1.1
 unfold ZZ at hp
 have hq:Qu q:=by unfold Qu;omega
 simp only [ZP,ZF] at hp
 have h1:=YF q.2
 have h2:=ZS x.2
 have e:(((((!(Q1 q))||(decide (((q.2).length:Int)≥q.1)))||(!(QJ x.2)))||(!(m_in x.1 0 4)))) = !(Q1 q&&Yv x&&decide ((q.2.length:Int)<q.1)):=by
  cases hk:Q1 q
  ·rfl
  ·cases hv:QJ x.2
   ·simp [Yv,hv]
   ·rw [Bool.eq_iff_iff];simp [Yv,hv,m_in];omega
 rw [e]
 refine ⟨hq,fun h=>R_eq ?_,fun h=>⟨⟨⟨.inl rfl,by rw [Q9];omega⟩,⟨.inl rfl,by rw [Q9];simp only [id];omega⟩⟩,R_eq ?_⟩⟩
 ·simp only [Bool.not_eq_true'] at h
  simp [Yz,h]
 ·simp only [Bool.not_eq_false'] at h
  simp [Yz,h,List.take_of_length_le]
theorem QSI:Qj Tryz.prog QoS:=Qn fun x h=>QTZ x.1 x.2.1 h
def Qjp (t:Qd × Zb × Bool):TRes:=zra (.tp [(.a [(zci t.1.1),(zcs QO t.1.2)]),(.a [(zci t.2.1.1),(zcs [TI] t.2.1.2)]),(zcb t.2.2)])
def Qqm:TRow:=Qk 97 [(.a Qi)] fun x=>(some (Qu (α:=Qd) x.1),Qjp (Zv x.1))
def QSd:List TRow:=[QfF,Qf5]
def QS8:TCode :=
 (zsq [(.reg [zop 1 (.box 97 0 2),zop 2 (.new 97 (z0s Qi)),zop 3 (.new 114 (z0s QO)),zmv 4 (zkb false)]),(.reg [zLd 7 1 2,zca 8 157 [7],zop 5 (.new 97 (z0s Qi)),zst 5 8 2]),(zsq [(.reg [zLd 9 1 2,zca 10 135 [9],zno 11 10,zmv 12 11,.grp 12 false [zfa 13 1 1,zld 14 13 1,zle 15 14,zbi 16 .eql 15 (zki 0)] 17 16]),(.cond 17 (zsq [(.reg [zLd 18 5 2,zop 19 (.build (z0s QO) []),zst 2 18 2,zst 3 19 2,zmv 4 (zkb false)]),.ret]) .skip)]),(.reg [zfa 20 5 1,zld 21 20 1,zia 22 21 (zki 0) QO,zLd 23 22 2,zop 6 (.new 114 (z0s QO)),zst 6 23 2]),(.reg [zfa 24 5 1,zld 25 24 1,zop 26 (.slc 25 (some (zki 1)) none QO),zfa 27 5 1,zst 27 26 1]),(.draw [zLd 28 5 2,zLd 29 6 2,zst 2 28 2,zst 3 29 2,zmv 4 (zkb true)] [(1,2)]),.ret])
def QOm:List (ARv × Md):=[(.l 2 2 true,.b [.d,.d]),(.l 3 2 true,.b [.d,.d]),(.t 4,.one .d)]
theorem QP0 (q:Qd) (h :
 ((Qu (α:=Qd) q)∧(zif ((!(Q1 q))||(((q.2).length:Int)==(0:Int))) (K (Qjp (((id (α:=Qd) q).1,(List.take (((id (α:=Qd) q).2).length) (List.drop 0 ((id (α:=Qd) q).2)))),((0:Int),[]),false))) ((((0:Int)≤(0:Int)∧Int.toNat (0:Int)<((id (α:=Qd) q).2).length)∧((0+(Int.toNat (0:Int)))<((id (α:=Qd) q).2).length))∧(((0:Int)≤(1:Int)∧(1:Int)≤((((id (α:=Qd) q).2).length:Nat):Int)∧((((id (α:=Qd) q).2).length:Nat):Int)≤((((id (α:=Qd) q).2).length:Nat):Int))∧K (Qjp (((id (α:=Qd) q).1,(List.take (Int.toNat ((((id (α:=Qd) q).2).length:Nat):Int)-Int.toNat (1:Int)) (List.drop (0+Int.toNat (1:Int)) ((id (α:=Qd) q).2)))),(gtd ((0,[]):Zb) ((id (α:=Qd) q).2) (0+(Int.toNat (0:Int)))),true))))))):Hold (tawp QSd (0+0) QS8 (TQ 0 0 QOm K) (Qg [(.a [(.c TI q.1),(.c (.sl QO) q.2)])])) :=
 Hold.of (by kernel_rfl) h
theorem QJo (q:Qd) (hp:Qu (α:=Qd) q):TCon Tryz.prog 97 [(.a [(.c TI q.1),(.c (.sl QO) q.2)])] (Qjp (Zv q)):=by
 refine Qo rfl fun hb=>tcg (n:=30) (sg:=Qqm.sg) Qm (TOk.cons Qk7 (TOk.cons QnG TOk.nil)) (by kernel_rfl) (by kernel_rfl) (QP0 _ q ?_)
 have hl_q_1:(q.2).length≤9223372036854775807:=hb.1.2.1.1
 have hq:=hp
 unfold Qu at hp
 simp only [ZP,ZF] at hp
 have h1:=YF q.2
 have e:((!(Q1 q))||(((q.2).length:Int)==0)) = !(Q1 q&&decide (0<q.2.length)):=by
  rw [Bool.eq_iff_iff];simp
 rw [e]
 refine ⟨hq,fun h=>R_eq ?_,fun h=>?_⟩
 ·simp only [Bool.not_eq_true'] at h
  simp only [Zv,h];simp
 ·simp only [Bool.not_eq_false'] at h
  have h2:0<q.2.length:=by simp at h;exact h.2
  have h3:=Qgs (Y5 h2 (0,[]))
  have h4:=ZS (gtd (0,[]) q.2 0).2
  simp only [ZP,ZF] at h3
  have hM:(Zv q)=((q.1,q.2.tail),gtd (0,[]) q.2 0,true):=by simp only [Zv,h];simp
  simp only [id]
  exact ⟨⟨⟨by omega,by simpa using h2⟩,by simpa using h2⟩,⟨by omega,by omega,by omega⟩,R_eq (by rw [hM];simp [List.take_of_length_le])⟩
theorem QPH:Qj Tryz.prog Qqm:=Qn fun x h=>QJo x.1 h
def Qhc (t:Qd × Zb × Bool):TRes:=zra (.tp [(.a [(zci t.1.1),(zcs QO t.1.2)]),(.a [(zci t.2.1.1),(zcs [TI] t.2.1.2)]),(zcb t.2.2)])
def Qoa:TRow:=Qk 171 [(.a Qi)] fun x=>(some (Qu (α:=Qd) x.1),Qhc (Zv x.1))
def QSR:List TRow:=[Qfh,QfS]
def QJ7:TCode :=
 (zsq [(.reg [zop 1 (.box 97 0 2),zop 2 (.new 97 (z0s Qi)),zop 3 (.new 114 (z0s QO)),zmv 4 (zkb false)]),(.reg [zLd 7 1 2,zca 8 169 [7],zop 5 (.new 97 (z0s Qi)),zst 5 8 2]),(zsq [(.reg [zLd 9 1 2,zca 10 103 [9],zno 11 10,zmv 12 11,.grp 12 false [zfa 13 1 1,zld 14 13 1,zle 15 14,zbi 16 .eql 15 (zki 0)] 17 16]),(.cond 17 (zsq [(.reg [zLd 18 5 2,zop 19 (.build (z0s QO) []),zst 2 18 2,zst 3 19 2,zmv 4 (zkb false)]),.ret]) .skip)]),(.reg [zfa 20 1 1,zld 21 20 1,zia 22 21 (zki 0) QO,zLd 23 22 2,zop 6 (.new 114 (z0s QO)),zst 6 23 2]),(.reg [zfa 24 5 1,zld 25 24 1,zop 26 (.slc 25 (some (zki 1)) none QO),zfa 27 5 1,zst 27 26 1]),(.draw [zLd 28 5 2,zfa 29 6 0,zld 30 29 1,zop 31 (.bsl 3 [TI] []),zfa 32 6 1,zld 33 32 1,zop 34 (.app 31 33 3 [TI]),zop 35 (.build (z0s QO) [(0,1,30),(1,1,34)]),zst 2 28 2,zst 3 35 2,zmv 4 (zkb true)] [(0,3),(1,3),(2,3),(3,4),(3,5),(0,6),(1,6),(2,6),(1,8),(2,8)]),.ret])
def QJN:List (ARv × Md):=[(.l 2 2 true,.b [.d,.d]),(.l 3 2 true,.b [.d,.d]),(.t 4,.one .d)]
theorem QJz (q:Qd) (h :
 ((Qu (α:=Qd) q)∧(zif ((!(Q1 q))||(((q.2).length:Int)==(0:Int))) (K (Qhc (((id (α:=Qd) q).1,(List.take (((id (α:=Qd) q).2).length) (List.drop 0 ((id (α:=Qd) q).2)))),((0:Int),[]),false))) (((0:Int)≤(0:Int)∧Int.toNat (0:Int)<(q.2).length)∧(((0:Int)≤(1:Int)∧(1:Int)≤((((id (α:=Qd) q).2).length:Nat):Int)∧((((id (α:=Qd) q).2).length:Nat):Int)≤((((id (α:=Qd) q).2).length:Nat):Int))∧(((0=0∨0+((gtd ((0,[]):Zb) q.2 (Int.toNat (0:Int))).2).length≤0)∧0+((gtd ((0,[]):Zb) q.2 (Int.toNat (0:Int))).2).length≤big)∧K (Qhc (((id (α:=Qd) q).1,(List.take (Int.toNat ((((id (α:=Qd) q).2).length:Nat):Int)-Int.toNat (1:Int)) (List.drop (0+Int.toNat (1:Int)) ((id (α:=Qd) q).2)))),((gtd ((0,[]):Zb) q.2 (Int.toNat (0:Int))).1,(List.take (0+((gtd ((0,[]):Zb) q.2 (Int.toNat (0:Int))).2).length) (List.drop 0 ((gtd ((0,[]):Zb) q.2 (Int.toNat (0:Int))).2)))),true)))))))):Hold (tawp QSR (0+0) QJ7 (TQ 0 0 QJN K) (Qg [(.a [(.c TI q.1),(.c (.sl QO) q.2)])])) :=
 Hold.of (by kernel_rfl) h
theorem QNP (q:Qd) (hp:Qu (α:=Qd) q):TCon Tryz.prog 171 [(.a [(.c TI q.1),(.c (.sl QO) q.2)])] (Qhc (Zv q)):=by
 refine Qo rfl fun hb=>tcg (n:=36) (sg:=Qoa.sg) Qm (TOk.cons QnD (TOk.cons Qmn TOk.nil)) (by kernel_rfl) (by kernel_rfl) (QJz _ q ?_)
 have hl_q_1:(q.2).length≤9223372036854775807:=hb.1.2.1.1
 have hq:=hp
 unfold Qu at hp
 simp only [ZP,ZF] at hp
 have h1:=YF q.2
 have e:((!(Q1 q))||(((q.2).length:Int)==0)) = !(Q1 q&&decide (0<q.2.length)):=by
  rw [Bool.eq_iff_iff];simp
 rw [e]
 refine ⟨hq,fun h=>R_eq ?_,fun h=>?_⟩
 ·simp only [Bool.not_eq_true'] at h
  simp only [Zv,h];simp
 ·simp only [Bool.not_eq_false'] at h
  have h2:0<q.2.length:=by simp at h;exact h.2
  have h3:=Qgs (Y5 h2 (0,[]))
  have h4:=ZS (gtd (0,[]) q.2 0).2
  simp only [ZP,ZF] at h3
  have hM:(Zv q)=((q.1,q.2.tail),gtd (0,[]) q.2 0,true):=by simp only [Zv,h];simp
  simp only [id]
  exact ⟨⟨by omega,by simpa using h2⟩,⟨by omega,by omega,by omega⟩,⟨by simp,by rw [Q9];simp;omega⟩,R_eq (by rw [hM];simp [List.take_of_length_le])⟩
theorem QJk:Qj Tryz.prog Qoa:=Qn fun x h=>QNP x.1 h
end
end Go.Proofs.YtjbdljkhbglnhaaGreat.Am

