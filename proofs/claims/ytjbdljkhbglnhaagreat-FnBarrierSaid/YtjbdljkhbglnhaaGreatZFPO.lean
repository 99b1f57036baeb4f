/- -/
import Derived.Test.YtjbdljkhbglnhaaGreatZFPF
import Derived.Test.YtjbdljkhbglnhaaGreatZFP2
import Derived.Test.YtjbdljkhbglnhaaGreatZFP1
import Derived.Test.YtjbdljkhbglnhaaGreatZFG9
namespace Go.Proofs.YtjbdljkhbglnhaaGreat.Am
open Go Go.RowKit Go.Proofs.YtjbdljkhbglnhaaGreat
set_option linter.all false
noncomputable section
variable (K:TRes→Prop)
def Qc0 (t:Qd):TRes:=⟨(.a [(zci t.1),(.r QQ 0 0 ((t.2).length))]),[(.sl 114 QQ true t.2)],[],true,[]⟩
def Qgs:TRow:=Qh 157 [(.a Qm)] fun x=>(some (Qv (α:=Qd) x.1),Qc0 (id (α:=Qd) x.1))
def QoJ:List TRow:=[QaJ]
def QFj:TCode :=
 (zsq [(.reg [zbi 13 .lss 12 11]),(.cond 13 .skip (.exit 0)),(.block 1 (zsq [(.reg [zia 14 10 12 QQ,zLd 15 14 2,zop 5 (.new 114 (z0s QQ)),zst 5 15 2]),(.draw [zfa 16 3 1,zld 17 16 1,zfa 18 5 0,zld 19 18 1,zfa 20 5 1,zld 21 20 1,zca 22 119 [21],zop 23 (.build (z0s QQ) [(0,1,19),(1,1,22)]),zop 24 (.bsl 114 QQ [23]),zop 25 (.app 17 24 114 QQ),zfa 26 3 1,zst 26 25 1] [(0,6),(1,6),(2,6),(3,6),(0,8),(1,8)])])),(.reg [zbi 27 .add 12 (zki 1),zmv 12 27])])
def Qtw:List (Nat × Md):=[(2,.b [.d,.d]),(3,.b [.d,.o 114]),(10,.one .d),(11,.one .d),(12,.one .d)]
def QzW:TCode :=
 (zsq [(.reg [zLd 28 3 2,zst 2 28 2]),.ret])
def QII:TCode :=
 (zsq [(.reg [zop 1 (.box 97 0 2),zop 2 (.new 97 (z0s Qm))]),(.reg [zfa 6 1 0,zld 7 6 1,zop 8 (.build (z0s Qm) [(0,1,7)]),zop 3 (.new 97 (z0s Qm)),zst 3 8 2]),(zsq [(.reg [zfa 9 1 1,zld 10 9 1,zle 11 10,zmv 12 (zki 0)]),(.block 0 (.loop Qtw QFj))]),QzW])
def QDN:List (ARv × Md):=[(.l 2 2 true,.b [.d,.o 114])]
def QEb:Qb:=TQ 0 0 QDN K
def QYv:Qb:=Qseq (tawp QoJ 0 QzW (QEb K)) (QEb K)
def QXP:Qb:=Qblk 0 (QYv K)
def Qrb (q:Qd) (x:Int) (r1:List Zd):Prop:=Loop QoJ 0 Qtw QFj (QXP K) ⟨[(2,(.p 0 0 0)),(3,(.p 2 0 0)),(10,(zcs QQ q.2)),(11,(zci ((q.2).length:Int))),(12,(zci x))],[(0,(.box [(zci 0),(zcs QQ ([]))])),(1,(.sl 114 QQ true r1)),(2,(.box [(zci q.1),(.r QQ 1 0 r1.length)]))],3⟩
theorem QA7 (q:Qd) (x:Int) (r1:List Zd) (h :
 (zif (decide (x<((q.2).length:Int))) (((0:Int)≤x∧Int.toNat x<(q.2).length)∧(((Qv (α:=List Int) ((gtd ((0,[]):Zd) q.2 (Int.toNat x)).2))∧((r1.length=r1.length∨r1.length+1≤r1.length)∧r1.length+1≤big))∧(Qrb K q (w64 (x+(1:Int))) (List.take (r1.length+1) ((List.take r1.length r1)++([((gtd ((0,[]):Zd) q.2 (Int.toNat x)).1,(List.take ((id (α:=List Int) ((gtd ((0,[]):Zd) q.2 (Int.toNat x)).2)).length) (List.drop 0 (id (α:=List Int) ((gtd ((0,[]):Zd) q.2 (Int.toNat x)).2)))))])))))) (K (Qc0 (q.1,(List.take r1.length r1)))))):Qrb K q x r1 :=
 Loop.of (by kernel_rfl) h
theorem QI9 (q:Qd) (h :
 (Qrb K q 0 ([]:List Zd))):Hold (tawp QoJ (0+0) QII (TQ 0 0 QDN K) (Qf [(.a [(.c TI q.1),(.c (.sl QQ) q.2)])])) :=
 Hold.of (by kernel_rfl) h
theorem QSt (q:Qd) (hp:Qv (α:=Qd) q):TCon Tryz.prog 157 [(.a [(.c TI q.1),(.c (.sl QQ) q.2)])] (Qc0 (id (α:=Qd) q)):=by
 refine Qo rfl fun hb=>tcg (n:=29) (sg:=Qgs.sg) Qj (TOk.cons Qbq TOk.nil) (by kernel_rfl) (by kernel_rfl) (QI9 _ q ?_)
 have hl_q_1:(q.2).length≤9223372036854775807:=hb.1.2.1.1
 unfold Qv at hp
 simp only [ZU,ZK] at hp
 refine Jx (l:=q.2) (Q:=fun z=>Qc0 (q.1,z)=Qc0 (id (α:=Qd) q)) (by omega) (fun k x v hk hl hg hv hx ih=>?_) (fun hq=>?_) (R_eq rfl)
 ·refine QA7 (fun r'=>r'=Qc0 (id (α:=Qd) q)) q _ _ ⟨fun _=>?_,fun h=>by simp at h;omega⟩
  simp only [ZU,ZK] at hx
  rw [Int.toNat_natCast,hg,sc1 (by omega),Q7,Qep]
  exact ⟨⟨by omega,hk⟩,⟨(show Sz.sz (_:List Int)≤2147483648 by omega),room (by omega)⟩,ih⟩
 ·refine QA7 (fun r'=>r'=Qc0 (id (α:=Qd) q)) q _ _ ⟨fun h=>by simp at h,fun _=>?_⟩
  rw [List.take_length];exact hq
theorem Qp3:Qg Tryz.prog Qgs:=Qk fun x h=>QSt x.1 h
def QdD (t:Qd):TRes:=⟨(.a [(zci t.1),(.r QQ 0 0 ((t.2).length))]),[(.sl 114 QQ true t.2)],[],true,[]⟩
def QfW:TRow:=Qh 169 [(.a Qm)] fun x=>(some (Qv (α:=Qd) x.1),QdD (id (α:=Qd) x.1))
def Qnk:List TRow:=[]
def QGJ:TCode :=
 (zsq [(zsq [(.reg [zmv 6 4,zfa 7 1 1,zld 8 7 1,zle 9 8,zbi 10 .lss 6 9]),(.cond 10 .skip (.exit 0))]),(.block 1 (.draw [zmv 13 3,zfa 14 1 1,zld 15 14 1,zmv 16 4,zia 17 15 16 QQ,zfa 18 17 0,zld 19 18 1,zop 20 (.bsl 3 [TI] []),zfa 21 1 1,zld 22 21 1,zmv 23 4,zia 24 22 23 QQ,zfa 25 24 1,zld 26 25 1,zop 27 (.app 20 26 3 [TI]),zop 28 (.build (z0s QQ) [(0,1,19),(1,1,27)]),zop 29 (.bsl 114 QQ [28]),zop 30 (.app 13 29 114 QQ),zmv 3 30] [(1,7),(2,7),(4,7),(5,7),(6,7),(7,8),(7,9),(7,11),(7,12),(7,13),(1,14),(2,14),(4,14),(5,14),(6,14)])),(.reg [zmv 11 4,zbi 12 .add 11 (zki 1),zmv 4 12])])
def QAW:List (Nat × Md):=[(1,.b [.d,.d]),(2,.b [.d,.d]),(3,.one .f),(4,.one .d)]
def QBI:TCode :=
 (zsq [(.reg [zmv 31 3,zfa 32 1 1,zst 32 31 1]),(.reg [zLd 33 1 2,zst 2 33 2]),.ret])
def QMS:TCode :=
 (zsq [(.reg [zop 1 (.box 97 0 2),zop 2 (.new 97 (z0s Qm))]),(.reg [zop 5 (.bsl 114 QQ []),zmv 3 5]),(zsq [(.reg [zmv 4 (zki 0)]),(.block 0 (.loop QAW QGJ))]),QBI])
def Qy9:List (ARv × Md):=[(.l 2 2 true,.b [.d,.o 114])]
def QAo:Qb:=TQ 0 0 Qy9 K
def QUZ:Qb:=Qseq (tawp Qnk 0 QBI (QAo K)) (QAo K)
def QRf:Qb:=Qblk 0 (QUZ K)
def QmY (q:Qd) (i:Int) (l:List Zd):Prop:=Loop Qnk 0 QAW QGJ (QRf K) ⟨[(1,(.p 0 0 0)),(2,(.p 1 0 0)),(3,(.r QQ 2 0 l.length)),(4,(zci i))],[(0,(.box [(zci q.1),(zcs QQ q.2)])),(1,(.box [(zci 0),(zcs QQ ([]))])),(2,(.sl 114 QQ true l))],3⟩
theorem QxK (q:Qd) (i:Int) (l:List Zd) (h :
 (zif (decide (i<((q.2).length:Int))) ((((0:Int)≤i∧Int.toNat i<(q.2).length)∧(((0:Int)≤i∧Int.toNat i<(q.2).length)∧(((0=0∨0+((gtd ((0,[]):Zd) q.2 (Int.toNat i)).2).length≤0)∧0+((gtd ((0,[]):Zd) q.2 (Int.toNat i)).2).length≤big)∧((l.length=l.length∨l.length+1≤l.length)∧l.length+1≤big))))∧(QmY K q (w64 (i+(1:Int))) (List.take (l.length+1) ((List.take l.length l)++([((gtd ((0,[]):Zd) q.2 (Int.toNat i)).1,(List.take (0+((gtd ((0,[]):Zd) q.2 (Int.toNat i)).2).length) (List.drop 0 ((gtd ((0,[]):Zd) q.2 (Int.toNat i)).2))))]))))) (K (QdD (q.1,(List.take l.length l)))))):QmY K q i l :=
 Loop.of (by kernel_rfl) h
theorem QRy (q:Qd) (h :
 (QmY K q 0 ([]:List Zd))):Hold (tawp Qnk (0+0) QMS (TQ 0 0 Qy9 K) (Qf [(.a [(.c TI q.1),(.c (.sl QQ) q.2)])])) :=
 Hold.of (by kernel_rfl) h
theorem QJc (q:Qd) (hp:Qv (α:=Qd) q):TCon Tryz.prog 169 [(.a [(.c TI q.1),(.c (.sl QQ) q.2)])] (QdD (id (α:=Qd) q)):=by
 refine Qo rfl fun hb=>tcg (n:=34) (sg:=QfW.sg) Qj TOk.nil (by kernel_rfl) (by kernel_rfl) (QRy _ q ?_)
 have hl_q_1:(q.2).length≤9223372036854775807:=hb.1.2.1.1
 unfold Qv at hp
 simp only [ZU,ZK] at hp
 refine Jx (l:=q.2) (Q:=fun z=>QdD (q.1,z)=QdD (id (α:=Qd) q)) (by omega) (fun k x v hk hl hg hv hx ih=>?_) (fun hq=>?_) (R_eq rfl)
 ·refine QxK (fun r'=>r'=QdD (id (α:=Qd) q)) q _ _ ⟨fun _=>?_,fun h=>by simp at h;omega⟩
  simp only [ZU,ZK] at hx
  rw [Int.toNat_natCast,hg,sc1 (by omega),Q7,Qcu]
  have:=ZW x.2
  exact ⟨⟨⟨by omega,hk⟩,⟨by omega,hk⟩,⟨.inl rfl,by rw [Q1];omega⟩,room (by omega)⟩,ih⟩
 ·refine QxK (fun r'=>r'=QdD (id (α:=Qd) q)) q _ _ ⟨fun h=>by simp at h,fun _=>?_⟩
  rw [List.take_length];exact hq
theorem QqH:Qg Tryz.prog QfW:=Qk fun x h=>QJc x.1 h
def Qg1 (t:Qd × Bool):TRes:=⟨(.tp [(.a [(zci t.1.1),(.r QQ 0 0 ((t.1.2).length))]),(zcb t.2)]),[(.sl 114 QQ true t.1.2)],[],true,[]⟩
def Qo8:TRow:=Qh 98 [(.a Qm),(.a QQ)] fun x=>(some (Z9 (α:=Qd) (β:=Zd) x.1 x.2.1),Qg1 (YC x.1 x.2.1))
def QKK:List TRow:=[Qgs,Qgd,Qkb,QaJ]
def QXE:TCode :=
 (zsq [(.reg [zop 2 (.box 97 0 2),zop 3 (.box 114 1 2),zop 4 (.new 97 (z0s Qm)),zmv 5 (zkb false)]),(.reg [zLd 7 2 2,zca 8 157 [7],zop 6 (.new 97 (z0s Qm)),zst 6 8 2]),(zsq [(.reg [zLd 9 2 2,zca 10 135 [9],zno 11 10,zmv 12 11,.grp 12 false [zLd 13 3 2,zca 14 178 [13],zno 15 14] 16 15,zmv 17 16,.grp 17 false [zfa 18 2 1,zld 19 18 1,zle 20 19,zfa 21 2 0,zld 22 21 1,zbi 23 .eql 20 22] 24 23]),(.cond 24 (zsq [(.reg [zLd 25 6 2,zst 4 25 2,zmv 5 (zkb false)]),.ret]) .skip)]),(.draw [zfa 26 6 1,zld 27 26 1,zfa 28 3 0,zld 29 28 1,zfa 30 3 1,zld 31 30 1,zca 32 119 [31],zop 33 (.build (z0s QQ) [(0,1,29),(1,1,32)]),zop 34 (.bsl 114 QQ [33]),zop 35 (.app 27 34 114 QQ),zfa 36 6 1,zst 36 35 1] [(0,6),(1,6),(2,6),(3,6),(0,8),(1,8)]),(.reg [zLd 37 6 2,zst 4 37 2,zmv 5 (zkb true)]),.ret])
def QLO:List (ARv × Md):=[(.l 4 2 true,.b [.d,.o 114]),(.t 5,.one .d)]
theorem QWc (q:Qd) (x:Zd) (h :
 ((Qv (α:=Qd) q)∧(zif (((!(Q4 q))||(!(YE x)))||(((q.2).length:Int)==q.1)) (K (Qg1 (((id (α:=Qd) q).1,(List.take (((id (α:=Qd) q).2).length) ((id (α:=Qd) q).2))),false))) (((Qv (α:=List Int) x.2)∧((((id (α:=Qd) q).2).length=((id (α:=Qd) q).2).length∨((id (α:=Qd) q).2).length+1≤((id (α:=Qd) q).2).length)∧((id (α:=Qd) q).2).length+1≤big))∧K (Qg1 (((id (α:=Qd) q).1,(List.take (((id (α:=Qd) q).2).length+1) ((List.take (((id (α:=Qd) q).2).length) ((id (α:=Qd) q).2))++([(x.1,(List.take ((id (α:=List Int) x.2).length) (List.drop 0 (id (α:=List Int) x.2))))])))),true)))))):Hold (tawp QKK (0+0) QXE (TQ 0 0 QLO K) (Qf [(.a [(.c TI q.1),(.c (.sl QQ) q.2)]),(.a [(.c TI x.1),(.c (.sl [TI]) x.2)])])) :=
 Hold.of (by kernel_rfl) h
theorem QUQ (q:Qd) (x:Zd) (hp:Z9 (α:=Qd) (β:=Zd) q x):TCon Tryz.prog 98 [(.a [(.c TI q.1),(.c (.sl QQ) q.2)]),(.a [(.c TI x.1),(.c (.sl [TI]) x.2)])] (Qg1 (YC q x)):=by
 refine Qo rfl fun hb=>tcg (n:=38) (sg:=Qo8.sg) Qj (TOk.cons Qp3 (TOk.cons Ql4 (TOk.cons QCz (TOk.cons Qbq TOk.nil)))) (by kernel_rfl) (by kernel_rfl) (QWc _ q x ?_)
 have hl_q_1:(q.2).length≤9223372036854775807:=hb.1.2.1.1
 have hl_x_1:(x.2).length≤9223372036854775807:=hb.2.1.2.1.1
 unfold Z9 at hp
 have hq:Qv q:=by unfold Qv;omega
 simp only [ZU,ZK] at hp
 have h1:=YT q.2
 have h2:=ZW x.2
 have e:((((!(Q4 q))||(!(YE x)))||(((q.2).length:Int)==q.1))) = !(Q4 q&&YE x&&decide ((q.2.length:Int)<q.1)):=by
  cases hk:Q4 q
  ·rfl
  ·have:(q.2.length:Int)≤q.1:=by
    simp only [Q4,Bool.and_eq_true,decide_eq_true_eq] at hk
    exact hk.1.2
   cases YE x
   ·rfl
   ·rw [Bool.eq_iff_iff];simp;omega
 rw [e]
 refine ⟨hq,fun h=>R_eq ?_,fun h=>⟨⟨(show Sz.sz (_:List Int)≤2147483648 by omega),⟨.inl rfl,by rw [Q1];simp only [id];omega⟩⟩,R_eq ?_⟩⟩
 ·simp only [Bool.not_eq_true'] at h
  simp [YC,h]
 ·simp only [Bool.not_eq_false'] at h
  simp [YC,h,List.take_of_length_le]
theorem QKR:Qg Tryz.prog Qo8:=Qk fun x h=>QUQ x.1 x.2.1 h
def Qla (t:Qd × Bool):TRes:=⟨(.tp [(.a [(zci t.1.1),(.r QQ 0 0 ((t.1.2).length))]),(zcb t.2)]),[(.sl 114 QQ true t.1.2)],[],true,[]⟩
def QmJ:TRow:=Qh 173 [(.a Qm),(.a QQ)] fun x=>(some (Z9 (α:=Qd) (β:=Zd) x.1 x.2.1),Qla (YC x.1 x.2.1))
def QPc:List TRow:=[QfW,Qfy,Jd,YR]
def QMt:TCode :=
 (zsq [(.reg [zop 2 (.box 97 0 2),zop 3 (.box 114 1 2),zop 4 (.new 97 (z0s Qm)),zmv 5 (zkb false)]),(.reg [zLd 7 2 2,zca 8 169 [7],zop 6 (.new 97 (z0s Qm)),zst 6 8 2]),(zsq [(.reg [zLd 9 2 2,zca 10 103 [9],zno 11 10,zmv 12 11,.grp 12 false [zfa 13 2 1,zld 14 13 1,zle 15 14,zfa 16 2 0,zld 17 16 1,zbi 18 .geq 15 17] 19 18,zmv 20 19,.grp 20 false [zfa 21 3 1,zld 22 21 1,zca 23 42 [22],zno 24 23] 25 24,zmv 26 25,.grp 26 false [zfa 27 3 0,zld 28 27 1,zca 29 77 [28,(zki 0),(zki 4)],zno 30 29] 31 30]),(.cond 31 (zsq [(.reg [zLd 32 6 2,zst 4 32 2,zmv 5 (zkb false)]),.ret]) .skip)]),(.draw [zfa 33 6 1,zld 34 33 1,zfa 35 3 0,zld 36 35 1,zop 37 (.bsl 3 [TI] []),zfa 38 3 1,zld 39 38 1,zop 40 (.app 37 39 3 [TI]),zop 41 (.build (z0s QQ) [(0,1,36),(1,1,40)]),zop 42 (.bsl 114 QQ [41]),zop 43 (.app 34 42 114 QQ),zfa 44 6 1,zst 44 43 1] [(0,4),(1,4),(2,4),(3,4),(4,5),(4,6),(0,7),(1,7),(2,7),(3,7),(0,9),(1,9)]),(.reg [zLd 45 6 2,zst 4 45 2,zmv 5 (zkb true)]),.ret])
def Q0t:List (ARv × Md):=[(.l 4 2 true,.b [.d,.o 114]),(.t 5,.one .d)]
theorem QJk (q:Qd) (x:Zd) (h :
 ((Qv (α:=Qd) q)∧(zif ((((!(Q4 q))||(decide (((q.2).length:Int)≥q.1)))||(!(QN x.2)))||(!(m_in x.1 (0:Int) (4:Int)))) (K (Qla (((id (α:=Qd) q).1,(List.take (((id (α:=Qd) q).2).length) ((id (α:=Qd) q).2))),false))) ((((0=0∨0+(x.2).length≤0)∧0+(x.2).length≤big)∧((((id (α:=Qd) q).2).length=((id (α:=Qd) q).2).length∨((id (α:=Qd) q).2).length+1≤((id (α:=Qd) q).2).length)∧((id (α:=Qd) q).2).length+1≤big))∧K (Qla (((id (α:=Qd) q).1,(List.take (((id (α:=Qd) q).2).length+1) ((List.take (((id (α:=Qd) q).2).length) ((id (α:=Qd) q).2))++([(x.1,(List.take (0+(x.2).length) (List.drop 0 (x.2:List Int))))])))),true)))))):Hold (tawp QPc (0+0) QMt (TQ 0 0 Q0t K) (Qf [(.a [(.c TI q.1),(.c (.sl QQ) q.2)]),(.a [(.c TI x.1),(.c (.sl [TI]) x.2)])])) :=
 Hold.of (by kernel_rfl) h
theorem QUn (q:Qd) (x:Zd) (hp:Z9 (α:=Qd) (β:=Zd) q x):TCon Tryz.prog 173 [(.a [(.c TI q.1),(.c (.sl QQ) q.2)]),(.a [(.c TI x.1),(.c (.sl [TI]) x.2)])] (Qla (YC q x)):=by
 refine Qo rfl fun hb=>tcg (n:=46) (sg:=QmJ.sg) Qj (TOk.cons QqH (TOk.cons QoF (TOk.cons Jw (TOk.cons Y9 TOk.nil)))) (by kernel_rfl) (by kernel_rfl) (QJk _ q x ?_)
 have hl_q_1:(q.2).length≤9223372036854775807:=hb.1.2.1.1
 have hl_x_1:(x.2).length≤9223372036854775807:=hb.2.1.2.1.1
 unfold Z9 at hp
 have hq:Qv q:=by unfold Qv;omega
 simp only [ZU,ZK] at hp
 have h1:=YT q.2
 have h2:=ZW x.2
 have e:(((((!(Q4 q))||(decide (((q.2).length:Int)≥q.1)))||(!(QN x.2)))||(!(m_in x.1 0 4)))) = !(Q4 q&&YE x&&decide ((q.2.length:Int)<q.1)):=by
  cases hk:Q4 q
  ·rfl
  ·cases hv:QN x.2
   ·simp [YE,hv]
   ·rw [Bool.eq_iff_iff];simp [YE,hv,m_in];omega
 rw [e]
 refine ⟨hq,fun h=>R_eq ?_,fun h=>⟨⟨⟨.inl rfl,by rw [Q1];omega⟩,⟨.inl rfl,by rw [Q1];simp only [id];omega⟩⟩,R_eq ?_⟩⟩
 ·simp only [Bool.not_eq_true'] at h
  simp [YC,h]
 ·simp only [Bool.not_eq_false'] at h
  simp [YC,h,List.take_of_length_le]
theorem QJL:Qg Tryz.prog QmJ:=Qk fun x h=>QUn x.1 x.2.1 h
def QhU (t:Qd × Zd × Bool):TRes:=zra (.tp [(.a [(zci t.1.1),(zcs QQ t.1.2)]),(.a [(zci t.2.1.1),(zcs [TI] t.2.1.2)]),(zcb t.2.2)])
def Qnj:TRow:=Qh 97 [(.a Qm)] fun x=>(some (Qv (α:=Qd) x.1),QhU (Zx x.1))
def QU8:List TRow:=[Qgs,Qgd]
def QRY:TCode :=
 (zsq [(.reg [zop 1 (.box 97 0 2),zop 2 (.new 97 (z0s Qm)),zop 3 (.new 114 (z0s QQ)),zmv 4 (zkb false)]),(.reg [zLd 7 1 2,zca 8 157 [7],zop 5 (.new 97 (z0s Qm)),zst 5 8 2]),(zsq [(.reg [zLd 9 1 2,zca 10 135 [9],zno 11 10,zmv 12 11,.grp 12 false [zfa 13 1 1,zld 14 13 1,zle 15 14,zbi 16 .eql 15 (zki 0)] 17 16]),(.cond 17 (zsq [(.reg [zLd 18 5 2,zop 19 (.build (z0s QQ) []),zst 2 18 2,zst 3 19 2,zmv 4 (zkb false)]),.ret]) .skip)]),(.reg [zfa 20 5 1,zld 21 20 1,zia 22 21 (zki 0) QQ,zLd 23 22 2,zop 6 (.new 114 (z0s QQ)),zst 6 23 2]),(.reg [zfa 24 5 1,zld 25 24 1,zop 26 (.slc 25 (some (zki 1)) none QQ),zfa 27 5 1,zst 27 26 1]),(.draw [zLd 28 5 2,zLd 29 6 2,zst 2 28 2,zst 3 29 2,zmv 4 (zkb true)] [(1,2)]),.ret])
def QOE:List (ARv × Md):=[(.l 2 2 true,.b [.d,.d]),(.l 3 2 true,.b [.d,.d]),(.t 4,.one .d)]
theorem QXm (q:Qd) (h :
 ((Qv (α:=Qd) q)∧(zif ((!(Q4 q))||(((q.2).length:Int)==(0:Int))) (K (QhU (((id (α:=Qd) q).1,(List.take (((id (α:=Qd) q).2).length) (List.drop 0 ((id (α:=Qd) q).2)))),((0:Int),[]),false))) ((((0:Int)≤(0:Int)∧Int.toNat (0:Int)<((id (α:=Qd) q).2).length)∧((0+(Int.toNat (0:Int)))<((id (α:=Qd) q).2).length))∧(((0:Int)≤(1:Int)∧(1:Int)≤((((id (α:=Qd) q).2).length:Nat):Int)∧((((id (α:=Qd) q).2).length:Nat):Int)≤((((id (α:=Qd) q).2).length:Nat):Int))∧K (QhU (((id (α:=Qd) q).1,(List.take (Int.toNat ((((id (α:=Qd) q).2).length:Nat):Int)-Int.toNat (1:Int)) (List.drop (0+Int.toNat (1:Int)) ((id (α:=Qd) q).2)))),(gtd ((0,[]):Zd) ((id (α:=Qd) q).2) (0+(Int.toNat (0:Int)))),true))))))):Hold (tawp QU8 (0+0) QRY (TQ 0 0 QOE K) (Qf [(.a [(.c TI q.1),(.c (.sl QQ) q.2)])])) :=
 Hold.of (by kernel_rfl) h
theorem QRP (q:Qd) (hp:Qv (α:=Qd) q):TCon Tryz.prog 97 [(.a [(.c TI q.1),(.c (.sl QQ) q.2)])] (QhU (Zx q)):=by
 refine Qo rfl fun hb=>tcg (n:=30) (sg:=Qnj.sg) Qj (TOk.cons Qp3 (TOk.cons Ql4 TOk.nil)) (by kernel_rfl) (by kernel_rfl) (QXm _ q ?_)
 have hl_q_1:(q.2).length≤9223372036854775807:=hb.1.2.1.1
 have hq:=hp
 unfold Qv at hp
 simp only [ZU,ZK] at hp
 have h1:=YT q.2
 have e:((!(Q4 q))||(((q.2).length:Int)==0)) = !(Q4 q&&decide (0<q.2.length)):=by
  rw [Bool.eq_iff_iff];simp
 rw [e]
 refine ⟨hq,fun h=>R_eq ?_,fun h=>?_⟩
 ·simp only [Bool.not_eq_true'] at h
  simp only [Zx,h];simp
 ·simp only [Bool.not_eq_false'] at h
  have h2:0<q.2.length:=by simp at h;exact h.2
  have h3:=Qfp (Jh h2 (0,[]))
  have h4:=ZW (gtd (0,[]) q.2 0).2
  simp only [ZU,ZK] at h3
  have hM:(Zx q)=((q.1,q.2.tail),gtd (0,[]) q.2 0,true):=by simp only [Zx,h];simp
  simp only [id]
  exact ⟨⟨⟨by omega,by simpa using h2⟩,by simpa using h2⟩,⟨by omega,by omega,by omega⟩,R_eq (by rw [hM];simp [List.take_of_length_le])⟩
theorem QMI:Qg Tryz.prog Qnj:=Qk fun x h=>QRP x.1 h
def QjS (t:Qd × Zd × Bool):TRes:=zra (.tp [(.a [(zci t.1.1),(zcs QQ t.1.2)]),(.a [(zci t.2.1.1),(zcs [TI] t.2.1.2)]),(zcb t.2.2)])
def Qmh:TRow:=Qh 171 [(.a Qm)] fun x=>(some (Qv (α:=Qd) x.1),QjS (Zx x.1))
def QWX:List TRow:=[QfW,Qfy]
def QLd:TCode :=
 (zsq [(.reg [zop 1 (.box 97 0 2),zop 2 (.new 97 (z0s Qm)),zop 3 (.new 114 (z0s QQ)),zmv 4 (zkb false)]),(.reg [zLd 7 1 2,zca 8 169 [7],zop 5 (.new 97 (z0s Qm)),zst 5 8 2]),(zsq [(.reg [zLd 9 1 2,zca 10 103 [9],zno 11 10,zmv 12 11,.grp 12 false [zfa 13 1 1,zld 14 13 1,zle 15 14,zbi 16 .eql 15 (zki 0)] 17 16]),(.cond 17 (zsq [(.reg [zLd 18 5 2,zop 19 (.build (z0s QQ) []),zst 2 18 2,zst 3 19 2,zmv 4 (zkb false)]),.ret]) .skip)]),(.reg [zfa 20 1 1,zld 21 20 1,zia 22 21 (zki 0) QQ,zLd 23 22 2,zop 6 (.new 114 (z0s QQ)),zst 6 23 2]),(.reg [zfa 24 5 1,zld 25 24 1,zop 26 (.slc 25 (some (zki 1)) none QQ),zfa 27 5 1,zst 27 26 1]),(.draw [zLd 28 5 2,zfa 29 6 0,zld 30 29 1,zop 31 (.bsl 3 [TI] []),zfa 32 6 1,zld 33 32 1,zop 34 (.app 31 33 3 [TI]),zop 35 (.build (z0s QQ) [(0,1,30),(1,1,34)]),zst 2 28 2,zst 3 35 2,zmv 4 (zkb true)] [(0,3),(1,3),(2,3),(3,4),(3,5),(0,6),(1,6),(2,6),(1,8),(2,8)]),.ret])
def QK1:List (ARv × Md):=[(.l 2 2 true,.b [.d,.d]),(.l 3 2 true,.b [.d,.d]),(.t 4,.one .d)]
theorem QSD (q:Qd) (h :
 ((Qv (α:=Qd) q)∧(zif ((!(Q4 q))||(((q.2).length:Int)==(0:Int))) (K (QjS (((id (α:=Qd) q).1,(List.take (((id (α:=Qd) q).2).length) (List.drop 0 ((id (α:=Qd) q).2)))),((0:Int),[]),false))) (((0:Int)≤(0:Int)∧Int.toNat (0:Int)<(q.2).length)∧(((0:Int)≤(1:Int)∧(1:Int)≤((((id (α:=Qd) q).2).length:Nat):Int)∧((((id (α:=Qd) q).2).length:Nat):Int)≤((((id (α:=Qd) q).2).length:Nat):Int))∧(((0=0∨0+((gtd ((0,[]):Zd) q.2 (Int.toNat (0:Int))).2).length≤0)∧0+((gtd ((0,[]):Zd) q.2 (Int.toNat (0:Int))).2).length≤big)∧K (QjS (((id (α:=Qd) q).1,(List.take (Int.toNat ((((id (α:=Qd) q).2).length:Nat):Int)-Int.toNat (1:Int)) (List.drop (0+Int.toNat (1:Int)) ((id (α:=Qd) q).2)))),((gtd ((0,[]):Zd) q.2 (Int.toNat (0:Int))).1,(List.take (0+((gtd ((0,[]):Zd) q.2 (Int.toNat (0:Int))).2).length) (List.drop 0 ((gtd ((0,[]):Zd) q.2 (Int.toNat (0:Int))).2)))),true)))))))):Hold (tawp QWX (0+0) QLd (TQ 0 0 QK1 K) (Qf [(.a [(.c TI q.1),(.c (.sl QQ) q.2)])])) :=
 Hold.of (by kernel_rfl) h
theorem QSu (q:Qd) (hp:Qv (α:=Qd) q):TCon Tryz.prog 171 [(.a [(.c TI q.1),(.c (.sl QQ) q.2)])] (QjS (Zx q)):=by
 refine Qo rfl fun hb=>tcg (n:=36) (sg:=Qmh.sg) Qj (TOk.cons QqH (TOk.cons QoF TOk.nil)) (by kernel_rfl) (by kernel_rfl) (QSD _ q ?_)
 have hl_q_1:(q.2).length≤9223372036854775807:=hb.1.2.1.1
 have hq:=hp
 unfold Qv at hp
 simp only [ZU,ZK] at hp
 have h1:=YT q.2
 have e:((!(Q4 q))||(((q.2).length:Int)==0)) = !(Q4 q&&decide (0<q.2.length)):=by
  rw [Bool.eq_iff_iff];simp
 rw [e]
 refine ⟨hq,fun h=>R_eq ?_,fun h=>?_⟩
 ·simp only [Bool.not_eq_true'] at h
  simp only [Zx,h];simp
 ·simp only [Bool.not_eq_false'] at h
  have h2:0<q.2.length:=by simp at h;exact h.2
  have h3:=Qfp (Jh h2 (0,[]))
  have h4:=ZW (gtd (0,[]) q.2 0).2
  simp only [ZU,ZK] at h3
  have hM:(Zx q)=((q.1,q.2.tail),gtd (0,[]) q.2 0,true):=by simp only [Zx,h];simp
  simp only [id]
  exact ⟨⟨by omega,by simpa using h2⟩,⟨by omega,by omega,by omega⟩,⟨by simp,by rw [Q1];simp;omega⟩,R_eq (by rw [hM];simp [List.take_of_length_le])⟩
theorem Q1P:Qg Tryz.prog Qmh:=Qk fun x h=>QSu x.1 h
end
end Go.Proofs.YtjbdljkhbglnhaaGreat.Am

