/- -/
import Derived.Test.YtjbdljkhbglnhaaGreatZDPF
import Derived.Test.YtjbdljkhbglnhaaGreatZDP2
import Derived.Test.YtjbdljkhbglnhaaGreatZDP1
import Derived.Test.YtjbdljkhbglnhaaGreatZDG9
namespace Go.Proofs.YtjbdljkhbglnhaaGreat.Am
open Go Go.RowKit Go.Proofs.YtjbdljkhbglnhaaGreat
set_option linter.all false
noncomputable section
variable (K:TRes→Prop)
def Qdw (t:Qd):TRes:=⟨(.a [(zci t.1),(.r QO 0 0 ((t.2).length))]),[(.sl 114 QO true t.2)],[],true,[]⟩
def Qfb:TRow:=Qj 157 [(.a Qk)] fun x=>(some (Qu (α:=Qd) x.1),Qdw (id (α:=Qd) x.1))
def Qpr:List TRow:=[Qaw]
def QDy:TCode :=
 (zsq [(.reg [zbi 13 .lss 12 11]),(.cond 13 .skip (.exit 0)),(.block 1 (zsq [(.reg [zia 14 10 12 QO,zLd 15 14 2,zop 5 (.new 114 (z0s QO)),zst 5 15 2]),(.draw [zfa 16 3 1,zld 17 16 1,zfa 18 5 0,zld 19 18 1,zfa 20 5 1,zld 21 20 1,zca 22 119 [21],zop 23 (.build (z0s QO) [(0,1,19),(1,1,22)]),zop 24 (.bsl 114 QO [23]),zop 25 (.app 17 24 114 QO),zfa 26 3 1,zst 26 25 1] [(0,6),(1,6),(2,6),(3,6),(0,8),(1,8)])])),(.reg [zbi 27 .add 12 (zki 1),zmv 12 27])])
def QCW:List (Nat × Md):=[(2,.b [.d,.d]),(3,.b [.d,.o 114]),(10,.one .d),(11,.one .d),(12,.one .d)]
def QvB:TCode :=
 (zsq [(.reg [zLd 28 3 2,zst 2 28 2]),.ret])
def QH7:TCode :=
 (zsq [(.reg [zop 1 (.box 97 0 2),zop 2 (.new 97 (z0s Qk))]),(.reg [zfa 6 1 0,zld 7 6 1,zop 8 (.build (z0s Qk) [(0,1,7)]),zop 3 (.new 97 (z0s Qk)),zst 3 8 2]),(zsq [(.reg [zfa 9 1 1,zld 10 9 1,zle 11 10,zmv 12 (zki 0)]),(.block 0 (.loop QCW QDy))]),QvB])
def QyV:List (ARv × Md):=[(.l 2 2 true,.b [.d,.o 114])]
def QwH:Qb:=TQ 0 0 QyV K
def QLK:Qb:=Qseq (tawp Qpr 0 QvB (QwH K)) (QwH K)
def QIU:Qb:=Qblk 0 (QLK K)
def QlR (q:Qd) (x:Int) (r1:List Zc):Prop:=Loop Qpr 0 QCW QDy (QIU K) ⟨[(2,(.p 0 0 0)),(3,(.p 2 0 0)),(10,(zcs QO q.2)),(11,(zci ((q.2).length:Int))),(12,(zci x))],[(0,(.box [(zci 0),(zcs QO ([]))])),(1,(.sl 114 QO true r1)),(2,(.box [(zci q.1),(.r QO 1 0 r1.length)]))],3⟩
theorem Qzq (q:Qd) (x:Int) (r1:List Zc) (h :
 (zif (decide (x<((q.2).length:Int))) (((0:Int)≤x∧Int.toNat x<(q.2).length)∧(((Qu (α:=List Int) ((gtd ((0,[]):Zc) q.2 (Int.toNat x)).2))∧((r1.length=r1.length∨r1.length+1≤r1.length)∧r1.length+1≤big))∧(QlR K q (w64 (x+(1:Int))) (List.take (r1.length+1) ((List.take r1.length r1)++([((gtd ((0,[]):Zc) q.2 (Int.toNat x)).1,(List.take ((id (α:=List Int) ((gtd ((0,[]):Zc) q.2 (Int.toNat x)).2)).length) (List.drop 0 (id (α:=List Int) ((gtd ((0,[]):Zc) q.2 (Int.toNat x)).2)))))])))))) (K (Qdw (q.1,(List.take r1.length r1)))))):QlR K q x r1 :=
 Loop.of (by kernel_rfl) h
theorem QGc (q:Qd) (h :
 (QlR K q 0 ([]:List Zc))):Hold (tawp Qpr (0+0) QH7 (TQ 0 0 QyV K) (Qh [(.a [(.c TI q.1),(.c (.sl QO) q.2)])])) :=
 Hold.of (by kernel_rfl) h
theorem QLa (q:Qd) (hp:Qu (α:=Qd) q):TCon Tryz.prog 157 [(.a [(.c TI q.1),(.c (.sl QO) q.2)])] (Qdw (id (α:=Qd) q)):=by
 refine Qo rfl fun hb=>tcg (n:=29) (sg:=Qfb.sg) Ql (TOk.cons Qa7 TOk.nil) (by kernel_rfl) (by kernel_rfl) (QGc _ q ?_)
 have hl_q_1:(q.2).length≤9223372036854775807:=hb.1.2.1.1
 unfold Qu at hp
 simp only [ZQ,ZE] at hp
 refine Jj (l:=q.2) (Q:=fun z=>Qdw (q.1,z)=Qdw (id (α:=Qd) q)) (by omega) (fun k x v hk hl hg hv hx ih=>?_) (fun hq=>?_) (R_eq rfl)
 ·refine Qzq (fun r'=>r'=Qdw (id (α:=Qd) q)) q _ _ ⟨fun _=>?_,fun h=>by simp at h;omega⟩
  simp only [ZQ,ZE] at hx
  rw [Int.toNat_natCast,hg,sc1 (by omega),Za,Qel]
  exact ⟨⟨by omega,hk⟩,⟨(show Sz.sz (_:List Int)≤2147483648 by omega),room (by omega)⟩,ih⟩
 ·refine Qzq (fun r'=>r'=Qdw (id (α:=Qd) q)) q _ _ ⟨fun h=>by simp at h,fun _=>?_⟩
  rw [List.take_length];exact hq
theorem QqV:Qi Tryz.prog Qfb:=Qm fun x h=>QLa x.1 h
def Qdt (t:Qd):TRes:=⟨(.a [(zci t.1),(.r QO 0 0 ((t.2).length))]),[(.sl 114 QO true t.2)],[],true,[]⟩
def Qgm:TRow:=Qj 169 [(.a Qk)] fun x=>(some (Qu (α:=Qd) x.1),Qdt (id (α:=Qd) x.1))
def Qmd:List TRow:=[]
def QsO:TCode :=
 (zsq [(zsq [(.reg [zmv 6 4,zfa 7 1 1,zld 8 7 1,zle 9 8,zbi 10 .lss 6 9]),(.cond 10 .skip (.exit 0))]),(.block 1 (.draw [zmv 13 3,zfa 14 1 1,zld 15 14 1,zmv 16 4,zia 17 15 16 QO,zfa 18 17 0,zld 19 18 1,zop 20 (.bsl 3 [TI] []),zfa 21 1 1,zld 22 21 1,zmv 23 4,zia 24 22 23 QO,zfa 25 24 1,zld 26 25 1,zop 27 (.app 20 26 3 [TI]),zop 28 (.build (z0s QO) [(0,1,19),(1,1,27)]),zop 29 (.bsl 114 QO [28]),zop 30 (.app 13 29 114 QO),zmv 3 30] [(1,7),(2,7),(4,7),(5,7),(6,7),(7,8),(7,9),(7,11),(7,12),(7,13),(1,14),(2,14),(4,14),(5,14),(6,14)])),(.reg [zmv 11 4,zbi 12 .add 11 (zki 1),zmv 4 12])])
def Qxp:List (Nat × Md):=[(1,.b [.d,.d]),(2,.b [.d,.d]),(3,.one .f),(4,.one .d)]
def Qrj:TCode :=
 (zsq [(.reg [zmv 31 3,zfa 32 1 1,zst 32 31 1]),(.reg [zLd 33 1 2,zst 2 33 2]),.ret])
def QG2:TCode :=
 (zsq [(.reg [zop 1 (.box 97 0 2),zop 2 (.new 97 (z0s Qk))]),(.reg [zop 5 (.bsl 114 QO []),zmv 3 5]),(zsq [(.reg [zmv 4 (zki 0)]),(.block 0 (.loop Qxp QsO))]),Qrj])
def QDt:List (ARv × Md):=[(.l 2 2 true,.b [.d,.o 114])]
def Qtq:Qb:=TQ 0 0 QDt K
def QG7:Qb:=Qseq (tawp Qmd 0 Qrj (Qtq K)) (Qtq K)
def QXR:Qb:=Qblk 0 (QG7 K)
def Qnb (q:Qd) (i:Int) (l:List Zc):Prop:=Loop Qmd 0 Qxp QsO (QXR K) ⟨[(1,(.p 0 0 0)),(2,(.p 1 0 0)),(3,(.r QO 2 0 l.length)),(4,(zci i))],[(0,(.box [(zci q.1),(zcs QO q.2)])),(1,(.box [(zci 0),(zcs QO ([]))])),(2,(.sl 114 QO true l))],3⟩
theorem QzB (q:Qd) (i:Int) (l:List Zc) (h :
 (zif (decide (i<((q.2).length:Int))) ((((0:Int)≤i∧Int.toNat i<(q.2).length)∧(((0:Int)≤i∧Int.toNat i<(q.2).length)∧(((0=0∨0+((gtd ((0,[]):Zc) q.2 (Int.toNat i)).2).length≤0)∧0+((gtd ((0,[]):Zc) q.2 (Int.toNat i)).2).length≤big)∧((l.length=l.length∨l.length+1≤l.length)∧l.length+1≤big))))∧(Qnb K q (w64 (i+(1:Int))) (List.take (l.length+1) ((List.take l.length l)++([((gtd ((0,[]):Zc) q.2 (Int.toNat i)).1,(List.take (0+((gtd ((0,[]):Zc) q.2 (Int.toNat i)).2).length) (List.drop 0 ((gtd ((0,[]):Zc) q.2 (Int.toNat i)).2))))]))))) (K (Qdt (q.1,(List.take l.length l)))))):Qnb K q i l :=
 Loop.of (by kernel_rfl) h
theorem QQX (q:Qd) (h :
 (Qnb K q 0 ([]:List Zc))):Hold (tawp Qmd (0+0) QG2 (TQ 0 0 QDt K) (Qh [(.a [(.c TI q.1),(.c (.sl QO) q.2)])])) :=
 Hold.of (by kernel_rfl) h
theorem QIK (q:Qd) (hp:Qu (α:=Qd) q):TCon Tryz.prog 169 [(.a [(.c TI q.1),(.c (.sl QO) q.2)])] (Qdt (id (α:=Qd) q)):=by
 refine Qo rfl fun hb=>tcg (n:=34) (sg:=Qgm.sg) Ql TOk.nil (by kernel_rfl) (by kernel_rfl) (QQX _ q ?_)
 have hl_q_1:(q.2).length≤9223372036854775807:=hb.1.2.1.1
 unfold Qu at hp
 simp only [ZQ,ZE] at hp
 refine Jj (l:=q.2) (Q:=fun z=>Qdt (q.1,z)=Qdt (id (α:=Qd) q)) (by omega) (fun k x v hk hl hg hv hx ih=>?_) (fun hq=>?_) (R_eq rfl)
 ·refine QzB (fun r'=>r'=Qdt (id (α:=Qd) q)) q _ _ ⟨fun _=>?_,fun h=>by simp at h;omega⟩
  simp only [ZQ,ZE] at hx
  rw [Int.toNat_natCast,hg,sc1 (by omega),Za,QbW]
  have:=ZR x.2
  exact ⟨⟨⟨by omega,hk⟩,⟨by omega,hk⟩,⟨.inl rfl,by rw [Q9];omega⟩,room (by omega)⟩,ih⟩
 ·refine QzB (fun r'=>r'=Qdt (id (α:=Qd) q)) q _ _ ⟨fun h=>by simp at h,fun _=>?_⟩
  rw [List.take_length];exact hq
theorem Ql2:Qi Tryz.prog Qgm:=Qm fun x h=>QIK x.1 h
def Qjp (t:Qd × Bool):TRes:=⟨(.tp [(.a [(zci t.1.1),(.r QO 0 0 ((t.1.2).length))]),(zcb t.2)]),[(.sl 114 QO true t.1.2)],[],true,[]⟩
def QoB:TRow:=Qj 98 [(.a Qk),(.a QO)] fun x=>(some (Z0 (α:=Qd) (β:=Zc) x.1 x.2.1),Qjp (Yw x.1 x.2.1))
def QMR:List TRow:=[Qfb,Qgs,Qi4,Qaw]
def QJW:TCode :=
 (zsq [(.reg [zop 2 (.box 97 0 2),zop 3 (.box 114 1 2),zop 4 (.new 97 (z0s Qk)),zmv 5 (zkb false)]),(.reg [zLd 7 2 2,zca 8 157 [7],zop 6 (.new 97 (z0s Qk)),zst 6 8 2]),(zsq [(.reg [zLd 9 2 2,zca 10 135 [9],zno 11 10,zmv 12 11,.grp 12 false [zLd 13 3 2,zca 14 178 [13],zno 15 14] 16 15,zmv 17 16,.grp 17 false [zfa 18 2 1,zld 19 18 1,zle 20 19,zfa 21 2 0,zld 22 21 1,zbi 23 .eql 20 22] 24 23]),(.cond 24 (zsq [(.reg [zLd 25 6 2,zst 4 25 2,zmv 5 (zkb false)]),.ret]) .skip)]),(.draw [zfa 26 6 1,zld 27 26 1,zfa 28 3 0,zld 29 28 1,zfa 30 3 1,zld 31 30 1,zca 32 119 [31],zop 33 (.build (z0s QO) [(0,1,29),(1,1,32)]),zop 34 (.bsl 114 QO [33]),zop 35 (.app 27 34 114 QO),zfa 36 6 1,zst 36 35 1] [(0,6),(1,6),(2,6),(3,6),(0,8),(1,8)]),(.reg [zLd 37 6 2,zst 4 37 2,zmv 5 (zkb true)]),.ret])
def QTr:List (ARv × Md):=[(.l 4 2 true,.b [.d,.o 114]),(.t 5,.one .d)]
theorem QLl (q:Qd) (x:Zc) (h :
 ((Qu (α:=Qd) q)∧(zif (((!(Q0 q))||(!(Yv x)))||(((q.2).length:Int)==q.1)) (K (Qjp (((id (α:=Qd) q).1,(List.take (((id (α:=Qd) q).2).length) ((id (α:=Qd) q).2))),false))) (((Qu (α:=List Int) x.2)∧((((id (α:=Qd) q).2).length=((id (α:=Qd) q).2).length∨((id (α:=Qd) q).2).length+1≤((id (α:=Qd) q).2).length)∧((id (α:=Qd) q).2).length+1≤big))∧K (Qjp (((id (α:=Qd) q).1,(List.take (((id (α:=Qd) q).2).length+1) ((List.take (((id (α:=Qd) q).2).length) ((id (α:=Qd) q).2))++([(x.1,(List.take ((id (α:=List Int) x.2).length) (List.drop 0 (id (α:=List Int) x.2))))])))),true)))))):Hold (tawp QMR (0+0) QJW (TQ 0 0 QTr K) (Qh [(.a [(.c TI q.1),(.c (.sl QO) q.2)]),(.a [(.c TI x.1),(.c (.sl [TI]) x.2)])])) :=
 Hold.of (by kernel_rfl) h
theorem QPY (q:Qd) (x:Zc) (hp:Z0 (α:=Qd) (β:=Zc) q x):TCon Tryz.prog 98 [(.a [(.c TI q.1),(.c (.sl QO) q.2)]),(.a [(.c TI x.1),(.c (.sl [TI]) x.2)])] (Qjp (Yw q x)):=by
 refine Qo rfl fun hb=>tcg (n:=38) (sg:=QoB.sg) Ql (TOk.cons QqV (TOk.cons Qqm (TOk.cons Qq2 (TOk.cons Qa7 TOk.nil)))) (by kernel_rfl) (by kernel_rfl) (QLl _ q x ?_)
 have hl_q_1:(q.2).length≤9223372036854775807:=hb.1.2.1.1
 have hl_x_1:(x.2).length≤9223372036854775807:=hb.2.1.2.1.1
 unfold Z0 at hp
 have hq:Qu q:=by unfold Qu;omega
 simp only [ZQ,ZE] at hp
 have h1:=YP q.2
 have h2:=ZR x.2
 have e:((((!(Q0 q))||(!(Yv x)))||(((q.2).length:Int)==q.1))) = !(Q0 q&&Yv x&&decide ((q.2.length:Int)<q.1)):=by
  cases hk:Q0 q
  ·rfl
  ·have:(q.2.length:Int)≤q.1:=by
    simp only [Q0,Bool.and_eq_true,decide_eq_true_eq] at hk
    exact hk.1.2
   cases Yv x
   ·rfl
   ·rw [Bool.eq_iff_iff];simp;omega
 rw [e]
 refine ⟨hq,fun h=>R_eq ?_,fun h=>⟨⟨(show Sz.sz (_:List Int)≤2147483648 by omega),⟨.inl rfl,by rw [Q9];simp only [id];omega⟩⟩,R_eq ?_⟩⟩
 ·simp only [Bool.not_eq_true'] at h
  simp [Yw,h]
 ·simp only [Bool.not_eq_false'] at h
  simp [Yw,h,List.take_of_length_le]
theorem QKz:Qi Tryz.prog QoB:=Qm fun x h=>QPY x.1 x.2.1 h
def Qhl (t:Qd × Bool):TRes:=⟨(.tp [(.a [(zci t.1.1),(.r QO 0 0 ((t.1.2).length))]),(zcb t.2)]),[(.sl 114 QO true t.1.2)],[],true,[]⟩
def Qqr:TRow:=Qj 173 [(.a Qk),(.a QO)] fun x=>(some (Z0 (α:=Qd) (β:=Zc) x.1 x.2.1),Qhl (Yw x.1 x.2.1))
def QON:List TRow:=[Qgm,Qfk,Y6,YL]
def QGL:TCode :=
 (zsq [(.reg [zop 2 (.box 97 0 2),zop 3 (.box 114 1 2),zop 4 (.new 97 (z0s Qk)),zmv 5 (zkb false)]),(.reg [zLd 7 2 2,zca 8 169 [7],zop 6 (.new 97 (z0s Qk)),zst 6 8 2]),(zsq [(.reg [zLd 9 2 2,zca 10 103 [9],zno 11 10,zmv 12 11,.grp 12 false [zfa 13 2 1,zld 14 13 1,zle 15 14,zfa 16 2 0,zld 17 16 1,zbi 18 .geq 15 17] 19 18,zmv 20 19,.grp 20 false [zfa 21 3 1,zld 22 21 1,zca 23 42 [22],zno 24 23] 25 24,zmv 26 25,.grp 26 false [zfa 27 3 0,zld 28 27 1,zca 29 77 [28,(zki 0),(zki 4)],zno 30 29] 31 30]),(.cond 31 (zsq [(.reg [zLd 32 6 2,zst 4 32 2,zmv 5 (zkb false)]),.ret]) .skip)]),(.draw [zfa 33 6 1,zld 34 33 1,zfa 35 3 0,zld 36 35 1,zop 37 (.bsl 3 [TI] []),zfa 38 3 1,zld 39 38 1,zop 40 (.app 37 39 3 [TI]),zop 41 (.build (z0s QO) [(0,1,36),(1,1,40)]),zop 42 (.bsl 114 QO [41]),zop 43 (.app 34 42 114 QO),zfa 44 6 1,zst 44 43 1] [(0,4),(1,4),(2,4),(3,4),(4,5),(4,6),(0,7),(1,7),(2,7),(3,7),(0,9),(1,9)]),(.reg [zLd 45 6 2,zst 4 45 2,zmv 5 (zkb true)]),.ret])
def QU2:List (ARv × Md):=[(.l 4 2 true,.b [.d,.o 114]),(.t 5,.one .d)]
theorem QYy (q:Qd) (x:Zc) (h :
 ((Qu (α:=Qd) q)∧(zif ((((!(Q0 q))||(decide (((q.2).length:Int)≥q.1)))||(!(QK x.2)))||(!(m_in x.1 (0:Int) (4:Int)))) (K (Qhl (((id (α:=Qd) q).1,(List.take (((id (α:=Qd) q).2).length) ((id (α:=Qd) q).2))),false))) ((((0=0∨0+(x.2).length≤0)∧0+(x.2).length≤big)∧((((id (α:=Qd) q).2).length=((id (α:=Qd) q).2).length∨((id (α:=Qd) q).2).length+1≤((id (α:=Qd) q).2).length)∧((id (α:=Qd) q).2).length+1≤big))∧K (Qhl (((id (α:=Qd) q).1,(List.take (((id (α:=Qd) q).2).length+1) ((List.take (((id (α:=Qd) q).2).length) ((id (α:=Qd) q).2))++([(x.1,(List.take (0+(x.2).length) (List.drop 0 (x.2:List Int))))])))),true)))))):Hold (tawp QON (0+0) QGL (TQ 0 0 QU2 K) (Qh [(.a [(.c TI q.1),(.c (.sl QO) q.2)]),(.a [(.c TI x.1),(.c (.sl [TI]) x.2)])])) :=
 Hold.of (by kernel_rfl) h
theorem QZi (q:Qd) (x:Zc) (hp:Z0 (α:=Qd) (β:=Zc) q x):TCon Tryz.prog 173 [(.a [(.c TI q.1),(.c (.sl QO) q.2)]),(.a [(.c TI x.1),(.c (.sl [TI]) x.2)])] (Qhl (Yw q x)):=by
 refine Qo rfl fun hb=>tcg (n:=46) (sg:=Qqr.sg) Ql (TOk.cons Ql2 (TOk.cons QpP (TOk.cons Jp (TOk.cons Y2 TOk.nil)))) (by kernel_rfl) (by kernel_rfl) (QYy _ q x ?_)
 have hl_q_1:(q.2).length≤9223372036854775807:=hb.1.2.1.1
 have hl_x_1:(x.2).length≤9223372036854775807:=hb.2.1.2.1.1
 unfold Z0 at hp
 have hq:Qu q:=by unfold Qu;omega
 simp only [ZQ,ZE] at hp
 have h1:=YP q.2
 have h2:=ZR x.2
 have e:(((((!(Q0 q))||(decide (((q.2).length:Int)≥q.1)))||(!(QK x.2)))||(!(m_in x.1 0 4)))) = !(Q0 q&&Yv x&&decide ((q.2.length:Int)<q.1)):=by
  cases hk:Q0 q
  ·rfl
  ·cases hv:QK x.2
   ·simp [Yv,hv]
   ·rw [Bool.eq_iff_iff];simp [Yv,hv,m_in];omega
 rw [e]
 refine ⟨hq,fun h=>R_eq ?_,fun h=>⟨⟨⟨.inl rfl,by rw [Q9];omega⟩,⟨.inl rfl,by rw [Q9];simp only [id];omega⟩⟩,R_eq ?_⟩⟩
 ·simp only [Bool.not_eq_true'] at h
  simp [Yw,h]
 ·simp only [Bool.not_eq_false'] at h
  simp [Yw,h,List.take_of_length_le]
theorem QMr:Qi Tryz.prog Qqr:=Qm fun x h=>QZi x.1 x.2.1 h
def QkJ (t:Qd × Zc × Bool):TRes:=zra (.tp [(.a [(zci t.1.1),(zcs QO t.1.2)]),(.a [(zci t.2.1.1),(zcs [TI] t.2.1.2)]),(zcb t.2.2)])
def Qnn:TRow:=Qj 97 [(.a Qk)] fun x=>(some (Qu (α:=Qd) x.1),QkJ (Zv x.1))
def QJS:List TRow:=[Qfb,Qgs]
def QLP:TCode :=
 (zsq [(.reg [zop 1 (.box 97 0 2),zop 2 (.new 97 (z0s Qk)),zop 3 (.new 114 (z0s QO)),zmv 4 (zkb false)]),(.reg [zLd 7 1 2,zca 8 157 [7],zop 5 (.new 97 (z0s Qk)),zst 5 8 2]),(zsq [(.reg [zLd 9 1 2,zca 10 135 [9],zno 11 10,zmv 12 11,.grp 12 false [zfa 13 1 1,zld 14 13 1,zle 15 14,zbi 16 .eql 15 (zki 0)] 17 16]),(.cond 17 (zsq [(.reg [zLd 18 5 2,zop 19 (.build (z0s QO) []),zst 2 18 2,zst 3 19 2,zmv 4 (zkb false)]),.ret]) .skip)]),(.reg [zfa 20 5 1,zld 21 20 1,zia 22 21 (zki 0) QO,zLd 23 22 2,zop 6 (.new 114 (z0s QO)),zst 6 23 2]),(.reg [zfa 24 5 1,zld 25 24 1,zop 26 (.slc 25 (some (zki 1)) none QO),zfa 27 5 1,zst 27 26 1]),(.draw [zLd 28 5 2,zLd 29 6 2,zst 2 28 2,zst 3 29 2,zmv 4 (zkb true)] [(1,2)]),.ret])
def QTI:List (ARv × Md):=[(.l 2 2 true,.b [.d,.d]),(.l 3 2 true,.b [.d,.d]),(.t 4,.one .d)]
theorem QX6 (q:Qd) (h :
 ((Qu (α:=Qd) q)∧(zif ((!(Q0 q))||(((q.2).length:Int)==(0:Int))) (K (QkJ (((id (α:=Qd) q).1,(List.take (((id (α:=Qd) q).2).length) (List.drop 0 ((id (α:=Qd) q).2)))),((0:Int),[]),false))) ((((0:Int)≤(0:Int)∧Int.toNat (0:Int)<((id (α:=Qd) q).2).length)∧((0+(Int.toNat (0:Int)))<((id (α:=Qd) q).2).length))∧(((0:Int)≤(1:Int)∧(1:Int)≤((((id (α:=Qd) q).2).length:Nat):Int)∧((((id (α:=Qd) q).2).length:Nat):Int)≤((((id (α:=Qd) q).2).length:Nat):Int))∧K (QkJ (((id (α:=Qd) q).1,(List.take (Int.toNat ((((id (α:=Qd) q).2).length:Nat):Int)-Int.toNat (1:Int)) (List.drop (0+Int.toNat (1:Int)) ((id (α:=Qd) q).2)))),(gtd ((0,[]):Zc) ((id (α:=Qd) q).2) (0+(Int.toNat (0:Int)))),true))))))):Hold (tawp QJS (0+0) QLP (TQ 0 0 QTI K) (Qh [(.a [(.c TI q.1),(.c (.sl QO) q.2)])])) :=
 Hold.of (by kernel_rfl) h
theorem QWR (q:Qd) (hp:Qu (α:=Qd) q):TCon Tryz.prog 97 [(.a [(.c TI q.1),(.c (.sl QO) q.2)])] (QkJ (Zv q)):=by
 refine Qo rfl fun hb=>tcg (n:=30) (sg:=Qnn.sg) Ql (TOk.cons QqV (TOk.cons Qqm TOk.nil)) (by kernel_rfl) (by kernel_rfl) (QX6 _ q ?_)
 have hl_q_1:(q.2).length≤9223372036854775807:=hb.1.2.1.1
 have hq:=hp
 unfold Qu at hp
 simp only [ZQ,ZE] at hp
 have h1:=YP q.2
 have e:((!(Q0 q))||(((q.2).length:Int)==0)) = !(Q0 q&&decide (0<q.2.length)):=by
  rw [Bool.eq_iff_iff];simp
 rw [e]
 refine ⟨hq,fun h=>R_eq ?_,fun h=>?_⟩
 ·simp only [Bool.not_eq_true'] at h
  simp only [Zv,h];simp
 ·simp only [Bool.not_eq_false'] at h
  have h2:0<q.2.length:=by simp at h;exact h.2
  have h3:=Qfn (Jc h2 (0,[]))
  have h4:=ZR (gtd (0,[]) q.2 0).2
  simp only [ZQ,ZE] at h3
  have hM:(Zv q)=((q.1,q.2.tail),gtd (0,[]) q.2 0,true):=by simp only [Zv,h];simp
  simp only [id]
  exact ⟨⟨⟨by omega,by simpa using h2⟩,by simpa using h2⟩,⟨by omega,by omega,by omega⟩,R_eq (by rw [hM];simp [List.take_of_length_le])⟩
theorem QVh:Qi Tryz.prog Qnn:=Qm fun x h=>QWR x.1 h
def Qjx (t:Qd × Zc × Bool):TRes:=zra (.tp [(.a [(zci t.1.1),(zcs QO t.1.2)]),(.a [(zci t.2.1.1),(zcs [TI] t.2.1.2)]),(zcb t.2.2)])
def QqH:TRow:=Qj 171 [(.a Qk)] fun x=>(some (Qu (α:=Qd) x.1),Qjx (Zv x.1))
def QSh:List TRow:=[Qgm,Qfk]
def QTS:TCode :=
 (zsq [(.reg [zop 1 (.box 97 0 2),zop 2 (.new 97 (z0s Qk)),zop 3 (.new 114 (z0s QO)),zmv 4 (zkb false)]),(.reg [zLd 7 1 2,zca 8 169 [7],zop 5 (.new 97 (z0s Qk)),zst 5 8 2]),(zsq [(.reg [zLd 9 1 2,zca 10 103 [9],zno 11 10,zmv 12 11,.grp 12 false [zfa 13 1 1,zld 14 13 1,zle 15 14,zbi 16 .eql 15 (zki 0)] 17 16]),(.cond 17 (zsq [(.reg [zLd 18 5 2,zop 19 (.build (z0s QO) []),zst 2 18 2,zst 3 19 2,zmv 4 (zkb false)]),.ret]) .skip)]),(.reg [zfa 20 1 1,zld 21 20 1,zia 22 21 (zki 0) QO,zLd 23 22 2,zop 6 (.new 114 (z0s QO)),zst 6 23 2]),(.reg [zfa 24 5 1,zld 25 24 1,zop 26 (.slc 25 (some (zki 1)) none QO),zfa 27 5 1,zst 27 26 1]),(.draw [zLd 28 5 2,zfa 29 6 0,zld 30 29 1,zop 31 (.bsl 3 [TI] []),zfa 32 6 1,zld 33 32 1,zop 34 (.app 31 33 3 [TI]),zop 35 (.build (z0s QO) [(0,1,30),(1,1,34)]),zst 2 28 2,zst 3 35 2,zmv 4 (zkb true)] [(0,3),(1,3),(2,3),(3,4),(3,5),(0,6),(1,6),(2,6),(1,8),(2,8)]),.ret])
def QNN:List (ARv × Md):=[(.l 2 2 true,.b [.d,.d]),(.l 3 2 true,.b [.d,.d]),(.t 4,.one .d)]
theorem QJo (q:Qd) (h :
 ((Qu (α:=Qd) q)∧(zif ((!(Q0 q))||(((q.2).length:Int)==(0:Int))) (K (Qjx (((id (α:=Qd) q).1,(List.take (((id (α:=Qd) q).2).length) (List.drop 0 ((id (α:=Qd) q).2)))),((0:Int),[]),false))) (((0:Int)≤(0:Int)∧Int.toNat (0:Int)<(q.2).length)∧(((0:Int)≤(1:Int)∧(1:Int)≤((((id (α:=Qd) q).2).length:Nat):Int)∧((((id (α:=Qd) q).2).length:Nat):Int)≤((((id (α:=Qd) q).2).length:Nat):Int))∧(((0=0∨0+((gtd ((0,[]):Zc) q.2 (Int.toNat (0:Int))).2).length≤0)∧0+((gtd ((0,[]):Zc) q.2 (Int.toNat (0:Int))).2).length≤big)∧K (Qjx (((id (α:=Qd) q).1,(List.take (Int.toNat ((((id (α:=Qd) q).2).length:Nat):Int)-Int.toNat (1:Int)) (List.drop (0+Int.toNat (1:Int)) ((id (α:=Qd) q).2)))),((gtd ((0,[]):Zc) q.2 (Int.toNat (0:Int))).1,(List.take (0+((gtd ((0,[]):Zc) q.2 (Int.toNat (0:Int))).2).length) (List.drop 0 ((gtd ((0,[]):Zc) q.2 (Int.toNat (0:Int))).2)))),true)))))))):Hold (tawp QSh (0+0) QTS (TQ 0 0 QNN K) (Qh [(.a [(.c TI q.1),(.c (.sl QO) q.2)])])) :=
 Hold.of (by kernel_rfl) h
theorem QMX (q:Qd) (hp:Qu (α:=Qd) q):TCon Tryz.prog 171 [(.a [(.c TI q.1),(.c (.sl QO) q.2)])] (Qjx (Zv q)):=by
 refine Qo rfl fun hb=>tcg (n:=36) (sg:=QqH.sg) Ql (TOk.cons Ql2 (TOk.cons QpP TOk.nil)) (by kernel_rfl) (by kernel_rfl) (QJo _ q ?_)
 have hl_q_1:(q.2).length≤9223372036854775807:=hb.1.2.1.1
 have hq:=hp
 unfold Qu at hp
 simp only [ZQ,ZE] at hp
 have h1:=YP q.2
 have e:((!(Q0 q))||(((q.2).length:Int)==0)) = !(Q0 q&&decide (0<q.2.length)):=by
  rw [Bool.eq_iff_iff];simp
 rw [e]
 refine ⟨hq,fun h=>R_eq ?_,fun h=>?_⟩
 ·simp only [Bool.not_eq_true'] at h
  simp only [Zv,h];simp
 ·simp only [Bool.not_eq_false'] at h
  have h2:0<q.2.length:=by simp at h;exact h.2
  have h3:=Qfn (Jc h2 (0,[]))
  have h4:=ZR (gtd (0,[]) q.2 0).2
  simp only [ZQ,ZE] at h3
  have hM:(Zv q)=((q.1,q.2.tail),gtd (0,[]) q.2 0,true):=by simp only [Zv,h];simp
  simp only [id]
  exact ⟨⟨by omega,by simpa using h2⟩,⟨by omega,by omega,by omega⟩,⟨by simp,by rw [Q9];simp;omega⟩,R_eq (by rw [hM];simp [List.take_of_length_le])⟩
theorem QPe:Qi Tryz.prog QqH:=Qm fun x h=>QMX x.1 h
end
end Go.Proofs.YtjbdljkhbglnhaaGreat.Am

