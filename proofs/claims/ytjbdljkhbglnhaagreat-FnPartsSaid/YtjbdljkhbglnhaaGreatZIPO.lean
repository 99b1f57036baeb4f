/- -/
import Derived.Test.YtjbdljkhbglnhaaGreatZIPF
import Derived.Test.YtjbdljkhbglnhaaGreatZIP2
import Derived.Test.YtjbdljkhbglnhaaGreatZIP1
import Derived.Test.YtjbdljkhbglnhaaGreatZIG9
namespace Go.Proofs.YtjbdljkhbglnhaaGreat.Am
open Go Go.RowKit Go.Proofs.YtjbdljkhbglnhaaGreat
set_option linter.all false
noncomputable section
variable (K:TRes→Prop)
def Qdd (t:Qd):TRes:=⟨(.a [(zci t.1),(.r QN 0 0 ((t.2).length))]),[(.sl 114 QN true t.2)],[],true,[]⟩
def Qfn:TRow:=Qk 157 [(.a Qh)] fun x=>(some (Qx (α:=Qd) x.1),Qdd (id (α:=Qd) x.1))
def Qnu:List TRow:=[Qax]
def Qw1:TCode :=
 (zsq [(.reg [zbi 13 .lss 12 11]),(.cond 13 .skip (.exit 0)),(.block 1 (zsq [(.reg [zia 14 10 12 QN,zLd 15 14 2,zop 5 (.new 114 (z0s QN)),zst 5 15 2]),(.draw [zfa 16 3 1,zld 17 16 1,zfa 18 5 0,zld 19 18 1,zfa 20 5 1,zld 21 20 1,zca 22 119 [21],zop 23 (.build (z0s QN) [(0,1,19),(1,1,22)]),zop 24 (.bsl 114 QN [23]),zop 25 (.app 17 24 114 QN),zfa 26 3 1,zst 26 25 1] [(0,6),(1,6),(2,6),(3,6),(0,8),(1,8)])])),(.reg [zbi 27 .add 12 (zki 1),zmv 12 27])])
def QqS:List (Nat × Md):=[(2,.b [.d,.d]),(3,.b [.d,.o 114]),(10,.one .d),(11,.one .d),(12,.one .d)]
def QDe:TCode :=
 (zsq [(.reg [zLd 28 3 2,zst 2 28 2]),.ret])
def QT6:TCode :=
 (zsq [(.reg [zop 1 (.box 97 0 2),zop 2 (.new 97 (z0s Qh))]),(.reg [zfa 6 1 0,zld 7 6 1,zop 8 (.build (z0s Qh) [(0,1,7)]),zop 3 (.new 97 (z0s Qh)),zst 3 8 2]),(zsq [(.reg [zfa 9 1 1,zld 10 9 1,zle 11 10,zmv 12 (zki 0)]),(.block 0 (.loop QqS Qw1))]),QDe])
def QAl:List (ARv × Md):=[(.l 2 2 true,.b [.d,.o 114])]
def QwS:Qb:=TQ 0 0 QAl K
def QIl:Qb:=Qseq (tawp Qnu 0 QDe (QwS K)) (QwS K)
def QT7:Qb:=Qblk 0 (QIl K)
def Qob (q:Qd) (x:Int) (r1:List Za):Prop:=Loop Qnu 0 QqS Qw1 (QT7 K) ⟨[(2,(.p 0 0 0)),(3,(.p 2 0 0)),(10,(zcs QN q.2)),(11,(zci ((q.2).length:Int))),(12,(zci x))],[(0,(.box [(zci 0),(zcs QN ([]))])),(1,(.sl 114 QN true r1)),(2,(.box [(zci q.1),(.r QN 1 0 r1.length)]))],3⟩
theorem QCM (q:Qd) (x:Int) (r1:List Za) (h :
 (zif (decide (x<((q.2).length:Int))) (((0:Int)≤x∧Int.toNat x<(q.2).length)∧(((Qx (α:=List Int) ((gtd ((0,[]):Za) q.2 (Int.toNat x)).2))∧((r1.length=r1.length∨r1.length+1≤r1.length)∧r1.length+1≤big))∧(Qob K q (w64 (x+(1:Int))) (List.take (r1.length+1) ((List.take r1.length r1)++([((gtd ((0,[]):Za) q.2 (Int.toNat x)).1,(List.take ((id (α:=List Int) ((gtd ((0,[]):Za) q.2 (Int.toNat x)).2)).length) (List.drop 0 (id (α:=List Int) ((gtd ((0,[]):Za) q.2 (Int.toNat x)).2)))))])))))) (K (Qdd (q.1,(List.take r1.length r1)))))):Qob K q x r1 :=
 Loop.of (by kernel_rfl) h
theorem QPt (q:Qd) (h :
 (Qob K q 0 ([]:List Za))):Hold (tawp Qnu (0+0) QT6 (TQ 0 0 QAl K) (Qi [(.a [(.c TI q.1),(.c (.sl QN) q.2)])])) :=
 Hold.of (by kernel_rfl) h
theorem QXS (q:Qd) (hp:Qx (α:=Qd) q):TCon Tryz.prog 157 [(.a [(.c TI q.1),(.c (.sl QN) q.2)])] (Qdd (id (α:=Qd) q)):=by
 refine Qo rfl fun hb=>tcg (n:=29) (sg:=Qfn.sg) Qm (TOk.cons Qbg TOk.nil) (by kernel_rfl) (by kernel_rfl) (QPt _ q ?_)
 have hl_q_1:(q.2).length≤9223372036854775807:=hb.1.2.1.1
 unfold Qx at hp
 simp only [ZO,ZF] at hp
 refine Jm (l:=q.2) (Q:=fun z=>Qdd (q.1,z)=Qdd (id (α:=Qd) q)) (by omega) (fun k x v hk hl hg hv hx ih=>?_) (fun hq=>?_) (R_eq rfl)
 ·refine QCM (fun r'=>r'=Qdd (id (α:=Qd) q)) q _ _ ⟨fun _=>?_,fun h=>by simp at h;omega⟩
  simp only [ZO,ZF] at hx
  rw [Int.toNat_natCast,hg,sc1 (by omega),Zc,QdR]
  exact ⟨⟨by omega,hk⟩,⟨(show Sz.sz (_:List Int)≤2147483648 by omega),room (by omega)⟩,ih⟩
 ·refine QCM (fun r'=>r'=Qdd (id (α:=Qd) q)) q _ _ ⟨fun h=>by simp at h,fun _=>?_⟩
  rw [List.take_length];exact hq
theorem QpZ:Ql Tryz.prog Qfn:=Qn fun x h=>QXS x.1 h
def Qc2 (t:Qd):TRes:=⟨(.a [(zci t.1),(.r QN 0 0 ((t.2).length))]),[(.sl 114 QN true t.2)],[],true,[]⟩
def Qf7:TRow:=Qk 169 [(.a Qh)] fun x=>(some (Qx (α:=Qd) x.1),Qc2 (id (α:=Qd) x.1))
def QoW:List TRow:=[]
def Quu:TCode :=
 (zsq [(zsq [(.reg [zmv 6 4,zfa 7 1 1,zld 8 7 1,zle 9 8,zbi 10 .lss 6 9]),(.cond 10 .skip (.exit 0))]),(.block 1 (.draw [zmv 13 3,zfa 14 1 1,zld 15 14 1,zmv 16 4,zia 17 15 16 QN,zfa 18 17 0,zld 19 18 1,zop 20 (.bsl 3 [TI] []),zfa 21 1 1,zld 22 21 1,zmv 23 4,zia 24 22 23 QN,zfa 25 24 1,zld 26 25 1,zop 27 (.app 20 26 3 [TI]),zop 28 (.build (z0s QN) [(0,1,19),(1,1,27)]),zop 29 (.bsl 114 QN [28]),zop 30 (.app 13 29 114 QN),zmv 3 30] [(1,7),(2,7),(4,7),(5,7),(6,7),(7,8),(7,9),(7,11),(7,12),(7,13),(1,14),(2,14),(4,14),(5,14),(6,14)])),(.reg [zmv 11 4,zbi 12 .add 11 (zki 1),zmv 4 12])])
def QyO:List (Nat × Md):=[(1,.b [.d,.d]),(2,.b [.d,.d]),(3,.one .f),(4,.one .d)]
def Qr4:TCode :=
 (zsq [(.reg [zmv 31 3,zfa 32 1 1,zst 32 31 1]),(.reg [zLd 33 1 2,zst 2 33 2]),.ret])
def QNY:TCode :=
 (zsq [(.reg [zop 1 (.box 97 0 2),zop 2 (.new 97 (z0s Qh))]),(.reg [zop 5 (.bsl 114 QN []),zmv 3 5]),(zsq [(.reg [zmv 4 (zki 0)]),(.block 0 (.loop QyO Quu))]),Qr4])
def QCZ:List (ARv × Md):=[(.l 2 2 true,.b [.d,.o 114])]
def QBD:Qb:=TQ 0 0 QCZ K
def QET:Qb:=Qseq (tawp QoW 0 Qr4 (QBD K)) (QBD K)
def QRA:Qb:=Qblk 0 (QET K)
def QkH (q:Qd) (i:Int) (l:List Za):Prop:=Loop QoW 0 QyO Quu (QRA K) ⟨[(1,(.p 0 0 0)),(2,(.p 1 0 0)),(3,(.r QN 2 0 l.length)),(4,(zci i))],[(0,(.box [(zci q.1),(zcs QN q.2)])),(1,(.box [(zci 0),(zcs QN ([]))])),(2,(.sl 114 QN true l))],3⟩
theorem Qr2 (q:Qd) (i:Int) (l:List Za) (h :
 (zif (decide (i<((q.2).length:Int))) ((((0:Int)≤i∧Int.toNat i<(q.2).length)∧(((0:Int)≤i∧Int.toNat i<(q.2).length)∧(((0=0∨0+((gtd ((0,[]):Za) q.2 (Int.toNat i)).2).length≤0)∧0+((gtd ((0,[]):Za) q.2 (Int.toNat i)).2).length≤big)∧((l.length=l.length∨l.length+1≤l.length)∧l.length+1≤big))))∧(QkH K q (w64 (i+(1:Int))) (List.take (l.length+1) ((List.take l.length l)++([((gtd ((0,[]):Za) q.2 (Int.toNat i)).1,(List.take (0+((gtd ((0,[]):Za) q.2 (Int.toNat i)).2).length) (List.drop 0 ((gtd ((0,[]):Za) q.2 (Int.toNat i)).2))))]))))) (K (Qc2 (q.1,(List.take l.length l)))))):QkH K q i l :=
 Loop.of (by kernel_rfl) h
theorem QT0 (q:Qd) (h :
 (QkH K q 0 ([]:List Za))):Hold (tawp QoW (0+0) QNY (TQ 0 0 QCZ K) (Qi [(.a [(.c TI q.1),(.c (.sl QN) q.2)])])) :=
 Hold.of (by kernel_rfl) h
theorem QIw (q:Qd) (hp:Qx (α:=Qd) q):TCon Tryz.prog 169 [(.a [(.c TI q.1),(.c (.sl QN) q.2)])] (Qc2 (id (α:=Qd) q)):=by
 refine Qo rfl fun hb=>tcg (n:=34) (sg:=Qf7.sg) Qm TOk.nil (by kernel_rfl) (by kernel_rfl) (QT0 _ q ?_)
 have hl_q_1:(q.2).length≤9223372036854775807:=hb.1.2.1.1
 unfold Qx at hp
 simp only [ZO,ZF] at hp
 refine Jm (l:=q.2) (Q:=fun z=>Qc2 (q.1,z)=Qc2 (id (α:=Qd) q)) (by omega) (fun k x v hk hl hg hv hx ih=>?_) (fun hq=>?_) (R_eq rfl)
 ·refine Qr2 (fun r'=>r'=Qc2 (id (α:=Qd) q)) q _ _ ⟨fun _=>?_,fun h=>by simp at h;omega⟩
  simp only [ZO,ZF] at hx
  rw [Int.toNat_natCast,hg,sc1 (by omega),Zc,QbX]
  have:=ZN x.2
  exact ⟨⟨⟨by omega,hk⟩,⟨by omega,hk⟩,⟨.inl rfl,by rw [Q9];omega⟩,room (by omega)⟩,ih⟩
 ·refine Qr2 (fun r'=>r'=Qc2 (id (α:=Qd) q)) q _ _ ⟨fun h=>by simp at h,fun _=>?_⟩
  rw [List.take_length];exact hq
theorem QmR:Ql Tryz.prog Qf7:=Qn fun x h=>QIw x.1 h
def Qir (t:Qd × Bool):TRes:=⟨(.tp [(.a [(zci t.1.1),(.r QN 0 0 ((t.1.2).length))]),(zcb t.2)]),[(.sl 114 QN true t.1.2)],[],true,[]⟩
def Qll:TRow:=Qk 98 [(.a Qh),(.a QN)] fun x=>(some (Z2 (α:=Qd) (β:=Za) x.1 x.2.1),Qir (Yw x.1 x.2.1))
def QQC:List TRow:=[Qfn,QeU,QjC,Qax]
def QRe:TCode :=
 (zsq [(.reg [zop 2 (.box 97 0 2),zop 3 (.box 114 1 2),zop 4 (.new 97 (z0s Qh)),zmv 5 (zkb false)]),(.reg [zLd 7 2 2,zca 8 157 [7],zop 6 (.new 97 (z0s Qh)),zst 6 8 2]),(zsq [(.reg [zLd 9 2 2,zca 10 135 [9],zno 11 10,zmv 12 11,.grp 12 false [zLd 13 3 2,zca 14 178 [13],zno 15 14] 16 15,zmv 17 16,.grp 17 false [zfa 18 2 1,zld 19 18 1,zle 20 19,zfa 21 2 0,zld 22 21 1,zbi 23 .eql 20 22] 24 23]),(.cond 24 (zsq [(.reg [zLd 25 6 2,zst 4 25 2,zmv 5 (zkb false)]),.ret]) .skip)]),(.draw [zfa 26 6 1,zld 27 26 1,zfa 28 3 0,zld 29 28 1,zfa 30 3 1,zld 31 30 1,zca 32 119 [31],zop 33 (.build (z0s QN) [(0,1,29),(1,1,32)]),zop 34 (.bsl 114 QN [33]),zop 35 (.app 27 34 114 QN),zfa 36 6 1,zst 36 35 1] [(0,6),(1,6),(2,6),(3,6),(0,8),(1,8)]),(.reg [zLd 37 6 2,zst 4 37 2,zmv 5 (zkb true)]),.ret])
def QJ1:List (ARv × Md):=[(.l 4 2 true,.b [.d,.o 114]),(.t 5,.one .d)]
theorem QNW (q:Qd) (x:Za) (h :
 ((Qx (α:=Qd) q)∧(zif (((!(Q3 q))||(!(Yy x)))||(((q.2).length:Int)==q.1)) (K (Qir (((id (α:=Qd) q).1,(List.take (((id (α:=Qd) q).2).length) ((id (α:=Qd) q).2))),false))) (((Qx (α:=List Int) x.2)∧((((id (α:=Qd) q).2).length=((id (α:=Qd) q).2).length∨((id (α:=Qd) q).2).length+1≤((id (α:=Qd) q).2).length)∧((id (α:=Qd) q).2).length+1≤big))∧K (Qir (((id (α:=Qd) q).1,(List.take (((id (α:=Qd) q).2).length+1) ((List.take (((id (α:=Qd) q).2).length) ((id (α:=Qd) q).2))++([(x.1,(List.take ((id (α:=List Int) x.2).length) (List.drop 0 (id (α:=List Int) x.2))))])))),true)))))):Hold (tawp QQC (0+0) QRe (TQ 0 0 QJ1 K) (Qi [(.a [(.c TI q.1),(.c (.sl QN) q.2)]),(.a [(.c TI x.1),(.c (.sl [TI]) x.2)])])) :=
 Hold.of (by kernel_rfl) h
theorem QNk (q:Qd) (x:Za) (hp:Z2 (α:=Qd) (β:=Za) q x):TCon Tryz.prog 98 [(.a [(.c TI q.1),(.c (.sl QN) q.2)]),(.a [(.c TI x.1),(.c (.sl [TI]) x.2)])] (Qir (Yw q x)):=by
 refine Qo rfl fun hb=>tcg (n:=38) (sg:=Qll.sg) Qm (TOk.cons QpZ (TOk.cons Qml (TOk.cons QB1 (TOk.cons Qbg TOk.nil)))) (by kernel_rfl) (by kernel_rfl) (QNW _ q x ?_)
 have hl_q_1:(q.2).length≤9223372036854775807:=hb.1.2.1.1
 have hl_x_1:(x.2).length≤9223372036854775807:=hb.2.1.2.1.1
 unfold Z2 at hp
 have hq:Qx q:=by unfold Qx;omega
 simp only [ZO,ZF] at hp
 have h1:=YW q.2
 have h2:=ZN x.2
 have e:((((!(Q3 q))||(!(Yy x)))||(((q.2).length:Int)==q.1))) = !(Q3 q&&Yy x&&decide ((q.2.length:Int)<q.1)):=by
  cases hk:Q3 q
  ·rfl
  ·have:(q.2.length:Int)≤q.1:=by
    simp only [Q3,Bool.and_eq_true,decide_eq_true_eq] at hk
    exact hk.1.2
   cases Yy x
   ·rfl
   ·rw [Bool.eq_iff_iff];simp;omega
 rw [e]
 refine ⟨hq,fun h=>R_eq ?_,fun h=>⟨⟨(show Sz.sz (_:List Int)≤2147483648 by omega),⟨.inl rfl,by rw [Q9];simp only [id];omega⟩⟩,R_eq ?_⟩⟩
 ·simp only [Bool.not_eq_true'] at h
  simp [Yw,h]
 ·simp only [Bool.not_eq_false'] at h
  simp [Yw,h,List.take_of_length_le]
theorem QYa:Ql Tryz.prog Qll:=Qn fun x h=>QNk x.1 x.2.1 h
def Qhm (t:Qd × Bool):TRes:=⟨(.tp [(.a [(zci t.1.1),(.r QN 0 0 ((t.1.2).length))]),(zcb t.2)]),[(.sl 114 QN true t.1.2)],[],true,[]⟩
def Qk7:TRow:=Qk 173 [(.a Qh),(.a QN)] fun x=>(some (Z2 (α:=Qd) (β:=Za) x.1 x.2.1),Qhm (Yw x.1 x.2.1))
def QO8:List TRow:=[Qf7,Qf1,Jc,YN]
def QJS:TCode :=
 (zsq [(.reg [zop 2 (.box 97 0 2),zop 3 (.box 114 1 2),zop 4 (.new 97 (z0s Qh)),zmv 5 (zkb false)]),(.reg [zLd 7 2 2,zca 8 169 [7],zop 6 (.new 97 (z0s Qh)),zst 6 8 2]),(zsq [(.reg [zLd 9 2 2,zca 10 103 [9],zno 11 10,zmv 12 11,.grp 12 false [zfa 13 2 1,zld 14 13 1,zle 15 14,zfa 16 2 0,zld 17 16 1,zbi 18 .geq 15 17] 19 18,zmv 20 19,.grp 20 false [zfa 21 3 1,zld 22 21 1,zca 23 42 [22],zno 24 23] 25 24,zmv 26 25,.grp 26 false [zfa 27 3 0,zld 28 27 1,zca 29 77 [28,(zki 0),(zki 4)],zno 30 29] 31 30]),(.cond 31 (zsq [(.reg [zLd 32 6 2,zst 4 32 2,zmv 5 (zkb false)]),.ret]) .skip)]),(.draw [zfa 33 6 1,zld 34 33 1,zfa 35 3 0,zld 36 35 1,zop 37 (.bsl 3 [TI] []),zfa 38 3 1,zld 39 38 1,zop 40 (.app 37 39 3 [TI]),zop 41 (.build (z0s QN) [(0,1,36),(1,1,40)]),zop 42 (.bsl 114 QN [41]),zop 43 (.app 34 42 114 QN),zfa 44 6 1,zst 44 43 1] [(0,4),(1,4),(2,4),(3,4),(4,5),(4,6),(0,7),(1,7),(2,7),(3,7),(0,9),(1,9)]),(.reg [zLd 45 6 2,zst 4 45 2,zmv 5 (zkb true)]),.ret])
def QOr:List (ARv × Md):=[(.l 4 2 true,.b [.d,.o 114]),(.t 5,.one .d)]
theorem QLN (q:Qd) (x:Za) (h :
 ((Qx (α:=Qd) q)∧(zif ((((!(Q3 q))||(decide (((q.2).length:Int)≥q.1)))||(!(QJ x.2)))||(!(m_in x.1 (0:Int) (4:Int)))) (K (Qhm (((id (α:=Qd) q).1,(List.take (((id (α:=Qd) q).2).length) ((id (α:=Qd) q).2))),false))) ((((0=0∨0+(x.2).length≤0)∧0+(x.2).length≤big)∧((((id (α:=Qd) q).2).length=((id (α:=Qd) q).2).length∨((id (α:=Qd) q).2).length+1≤((id (α:=Qd) q).2).length)∧((id (α:=Qd) q).2).length+1≤big))∧K (Qhm (((id (α:=Qd) q).1,(List.take (((id (α:=Qd) q).2).length+1) ((List.take (((id (α:=Qd) q).2).length) ((id (α:=Qd) q).2))++([(x.1,(List.take (0+(x.2).length) (List.drop 0 (x.2:List Int))))])))),true)))))):Hold (tawp QO8 (0+0) QJS (TQ 0 0 QOr K) (Qi [(.a [(.c TI q.1),(.c (.sl QN) q.2)]),(.a [(.c TI x.1),(.c (.sl [TI]) x.2)])])) :=
 Hold.of (by kernel_rfl) h
theorem QXo (q:Qd) (x:Za) (hp:Z2 (α:=Qd) (β:=Za) q x):TCon Tryz.prog 173 [(.a [(.c TI q.1),(.c (.sl QN) q.2)]),(.a [(.c TI x.1),(.c (.sl [TI]) x.2)])] (Qhm (Yw q x)):=by
 refine Qo rfl fun hb=>tcg (n:=46) (sg:=Qk7.sg) Qm (TOk.cons QmR (TOk.cons Qna (TOk.cons Jr (TOk.cons Y5 TOk.nil)))) (by kernel_rfl) (by kernel_rfl) (QLN _ q x ?_)
 have hl_q_1:(q.2).length≤9223372036854775807:=hb.1.2.1.1
 have hl_x_1:(x.2).length≤9223372036854775807:=hb.2.1.2.1.1
 unfold Z2 at hp
 have hq:Qx q:=by unfold Qx;omega
 simp only [ZO,ZF] at hp
 have h1:=YW q.2
 have h2:=ZN x.2
 have e:(((((!(Q3 q))||(decide (((q.2).length:Int)≥q.1)))||(!(QJ x.2)))||(!(m_in x.1 0 4)))) = !(Q3 q&&Yy x&&decide ((q.2.length:Int)<q.1)):=by
  cases hk:Q3 q
  ·rfl
  ·cases hv:QJ x.2
   ·simp [Yy,hv]
   ·rw [Bool.eq_iff_iff];simp [Yy,hv,m_in];omega
 rw [e]
 refine ⟨hq,fun h=>R_eq ?_,fun h=>⟨⟨⟨.inl rfl,by rw [Q9];omega⟩,⟨.inl rfl,by rw [Q9];simp only [id];omega⟩⟩,R_eq ?_⟩⟩
 ·simp only [Bool.not_eq_true'] at h
  simp [Yw,h]
 ·simp only [Bool.not_eq_false'] at h
  simp [Yw,h,List.take_of_length_le]
theorem QNc:Ql Tryz.prog Qk7:=Qn fun x h=>QXo x.1 x.2.1 h
def Qhz (t:Qd × Za × Bool):TRes:=zra (.tp [(.a [(zci t.1.1),(zcs QN t.1.2)]),(.a [(zci t.2.1.1),(zcs [TI] t.2.1.2)]),(zcb t.2.2)])
def Qm0:TRow:=Qk 97 [(.a Qh)] fun x=>(some (Qx (α:=Qd) x.1),Qhz (Zt x.1))
def QQ7:List TRow:=[Qfn,QeU]
def QTw:TCode :=
 (zsq [(.reg [zop 1 (.box 97 0 2),zop 2 (.new 97 (z0s Qh)),zop 3 (.new 114 (z0s QN)),zmv 4 (zkb false)]),(.reg [zLd 7 1 2,zca 8 157 [7],zop 5 (.new 97 (z0s Qh)),zst 5 8 2]),(zsq [(.reg [zLd 9 1 2,zca 10 135 [9],zno 11 10,zmv 12 11,.grp 12 false [zfa 13 1 1,zld 14 13 1,zle 15 14,zbi 16 .eql 15 (zki 0)] 17 16]),(.cond 17 (zsq [(.reg [zLd 18 5 2,zop 19 (.build (z0s QN) []),zst 2 18 2,zst 3 19 2,zmv 4 (zkb false)]),.ret]) .skip)]),(.reg [zfa 20 5 1,zld 21 20 1,zia 22 21 (zki 0) QN,zLd 23 22 2,zop 6 (.new 114 (z0s QN)),zst 6 23 2]),(.reg [zfa 24 5 1,zld 25 24 1,zop 26 (.slc 25 (some (zki 1)) none QN),zfa 27 5 1,zst 27 26 1]),(.draw [zLd 28 5 2,zLd 29 6 2,zst 2 28 2,zst 3 29 2,zmv 4 (zkb true)] [(1,2)]),.ret])
def QO4:List (ARv × Md):=[(.l 2 2 true,.b [.d,.d]),(.l 3 2 true,.b [.d,.d]),(.t 4,.one .d)]
theorem QN0 (q:Qd) (h :
 ((Qx (α:=Qd) q)∧(zif ((!(Q3 q))||(((q.2).length:Int)==(0:Int))) (K (Qhz (((id (α:=Qd) q).1,(List.take (((id (α:=Qd) q).2).length) (List.drop 0 ((id (α:=Qd) q).2)))),((0:Int),[]),false))) ((((0:Int)≤(0:Int)∧Int.toNat (0:Int)<((id (α:=Qd) q).2).length)∧((0+(Int.toNat (0:Int)))<((id (α:=Qd) q).2).length))∧(((0:Int)≤(1:Int)∧(1:Int)≤((((id (α:=Qd) q).2).length:Nat):Int)∧((((id (α:=Qd) q).2).length:Nat):Int)≤((((id (α:=Qd) q).2).length:Nat):Int))∧K (Qhz (((id (α:=Qd) q).1,(List.take (Int.toNat ((((id (α:=Qd) q).2).length:Nat):Int)-Int.toNat (1:Int)) (List.drop (0+Int.toNat (1:Int)) ((id (α:=Qd) q).2)))),(gtd ((0,[]):Za) ((id (α:=Qd) q).2) (0+(Int.toNat (0:Int)))),true))))))):Hold (tawp QQ7 (0+0) QTw (TQ 0 0 QO4 K) (Qi [(.a [(.c TI q.1),(.c (.sl QN) q.2)])])) :=
 Hold.of (by kernel_rfl) h
theorem QSn (q:Qd) (hp:Qx (α:=Qd) q):TCon Tryz.prog 97 [(.a [(.c TI q.1),(.c (.sl QN) q.2)])] (Qhz (Zt q)):=by
 refine Qo rfl fun hb=>tcg (n:=30) (sg:=Qm0.sg) Qm (TOk.cons QpZ (TOk.cons Qml TOk.nil)) (by kernel_rfl) (by kernel_rfl) (QN0 _ q ?_)
 have hl_q_1:(q.2).length≤9223372036854775807:=hb.1.2.1.1
 have hq:=hp
 unfold Qx at hp
 simp only [ZO,ZF] at hp
 have h1:=YW q.2
 have e:((!(Q3 q))||(((q.2).length:Int)==0)) = !(Q3 q&&decide (0<q.2.length)):=by
  rw [Bool.eq_iff_iff];simp
 rw [e]
 refine ⟨hq,fun h=>R_eq ?_,fun h=>?_⟩
 ·simp only [Bool.not_eq_true'] at h
  simp only [Zt,h];simp
 ·simp only [Bool.not_eq_false'] at h
  have h2:0<q.2.length:=by simp at h;exact h.2
  have h3:=Qe6 (Jb h2 (0,[]))
  have h4:=ZN (gtd (0,[]) q.2 0).2
  simp only [ZO,ZF] at h3
  have hM:(Zt q)=((q.1,q.2.tail),gtd (0,[]) q.2 0,true):=by simp only [Zt,h];simp
  simp only [id]
  exact ⟨⟨⟨by omega,by simpa using h2⟩,by simpa using h2⟩,⟨by omega,by omega,by omega⟩,R_eq (by rw [hM];simp [List.take_of_length_le])⟩
theorem QVG:Ql Tryz.prog Qm0:=Qn fun x h=>QSn x.1 h
def QgJ (t:Qd × Za × Bool):TRes:=zra (.tp [(.a [(zci t.1.1),(zcs QN t.1.2)]),(.a [(zci t.2.1.1),(zcs [TI] t.2.1.2)]),(zcb t.2.2)])
def QnT:TRow:=Qk 171 [(.a Qh)] fun x=>(some (Qx (α:=Qd) x.1),QgJ (Zt x.1))
def QMw:List TRow:=[Qf7,Qf1]
def QTy:TCode :=
 (zsq [(.reg [zop 1 (.box 97 0 2),zop 2 (.new 97 (z0s Qh)),zop 3 (.new 114 (z0s QN)),zmv 4 (zkb false)]),(.reg [zLd 7 1 2,zca 8 169 [7],zop 5 (.new 97 (z0s Qh)),zst 5 8 2]),(zsq [(.reg [zLd 9 1 2,zca 10 103 [9],zno 11 10,zmv 12 11,.grp 12 false [zfa 13 1 1,zld 14 13 1,zle 15 14,zbi 16 .eql 15 (zki 0)] 17 16]),(.cond 17 (zsq [(.reg [zLd 18 5 2,zop 19 (.build (z0s QN) []),zst 2 18 2,zst 3 19 2,zmv 4 (zkb false)]),.ret]) .skip)]),(.reg [zfa 20 1 1,zld 21 20 1,zia 22 21 (zki 0) QN,zLd 23 22 2,zop 6 (.new 114 (z0s QN)),zst 6 23 2]),(.reg [zfa 24 5 1,zld 25 24 1,zop 26 (.slc 25 (some (zki 1)) none QN),zfa 27 5 1,zst 27 26 1]),(.draw [zLd 28 5 2,zfa 29 6 0,zld 30 29 1,zop 31 (.bsl 3 [TI] []),zfa 32 6 1,zld 33 32 1,zop 34 (.app 31 33 3 [TI]),zop 35 (.build (z0s QN) [(0,1,30),(1,1,34)]),zst 2 28 2,zst 3 35 2,zmv 4 (zkb true)] [(0,3),(1,3),(2,3),(3,4),(3,5),(0,6),(1,6),(2,6),(1,8),(2,8)]),.ret])
def QQr:List (ARv × Md):=[(.l 2 2 true,.b [.d,.d]),(.l 3 2 true,.b [.d,.d]),(.t 4,.one .d)]
theorem QHA (q:Qd) (h :
 ((Qx (α:=Qd) q)∧(zif ((!(Q3 q))||(((q.2).length:Int)==(0:Int))) (K (QgJ (((id (α:=Qd) q).1,(List.take (((id (α:=Qd) q).2).length) (List.drop 0 ((id (α:=Qd) q).2)))),((0:Int),[]),false))) (((0:Int)≤(0:Int)∧Int.toNat (0:Int)<(q.2).length)∧(((0:Int)≤(1:Int)∧(1:Int)≤((((id (α:=Qd) q).2).length:Nat):Int)∧((((id (α:=Qd) q).2).length:Nat):Int)≤((((id (α:=Qd) q).2).length:Nat):Int))∧(((0=0∨0+((gtd ((0,[]):Za) q.2 (Int.toNat (0:Int))).2).length≤0)∧0+((gtd ((0,[]):Za) q.2 (Int.toNat (0:Int))).2).length≤big)∧K (QgJ (((id (α:=Qd) q).1,(List.take (Int.toNat ((((id (α:=Qd) q).2).length:Nat):Int)-Int.toNat (1:Int)) (List.drop (0+Int.toNat (1:Int)) ((id (α:=Qd) q).2)))),((gtd ((0,[]):Za) q.2 (Int.toNat (0:Int))).1,(List.take (0+((gtd ((0,[]):Za) q.2 (Int.toNat (0:Int))).2).length) (List.drop 0 ((gtd ((0,[]):Za) q.2 (Int.toNat (0:Int))).2)))),true)))))))):Hold (tawp QMw (0+0) QTy (TQ 0 0 QQr K) (Qi [(.a [(.c TI q.1),(.c (.sl QN) q.2)])])) :=
 Hold.of (by kernel_rfl) h
theorem QUS (q:Qd) (hp:Qx (α:=Qd) q):TCon Tryz.prog 171 [(.a [(.c TI q.1),(.c (.sl QN) q.2)])] (QgJ (Zt q)):=by
 refine Qo rfl fun hb=>tcg (n:=36) (sg:=QnT.sg) Qm (TOk.cons QmR (TOk.cons Qna TOk.nil)) (by kernel_rfl) (by kernel_rfl) (QHA _ q ?_)
 have hl_q_1:(q.2).length≤9223372036854775807:=hb.1.2.1.1
 have hq:=hp
 unfold Qx at hp
 simp only [ZO,ZF] at hp
 have h1:=YW q.2
 have e:((!(Q3 q))||(((q.2).length:Int)==0)) = !(Q3 q&&decide (0<q.2.length)):=by
  rw [Bool.eq_iff_iff];simp
 rw [e]
 refine ⟨hq,fun h=>R_eq ?_,fun h=>?_⟩
 ·simp only [Bool.not_eq_true'] at h
  simp only [Zt,h];simp
 ·simp only [Bool.not_eq_false'] at h
  have h2:0<q.2.length:=by simp at h;exact h.2
  have h3:=Qe6 (Jb h2 (0,[]))
  have h4:=ZN (gtd (0,[]) q.2 0).2
  simp only [ZO,ZF] at h3
  have hM:(Zt q)=((q.1,q.2.tail),gtd (0,[]) q.2 0,true):=by simp only [Zt,h];simp
  simp only [id]
  exact ⟨⟨by omega,by simpa using h2⟩,⟨by omega,by omega,by omega⟩,⟨by simp,by rw [Q9];simp;omega⟩,R_eq (by rw [hM];simp [List.take_of_length_le])⟩
theorem QYf:Ql Tryz.prog QnT:=Qn fun x h=>QUS x.1 h
end
end Go.Proofs.YtjbdljkhbglnhaaGreat.Am

