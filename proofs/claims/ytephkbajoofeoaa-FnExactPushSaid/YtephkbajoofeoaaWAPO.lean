/- -/
import Derived.Test.YtephkbajoofeoaaWAPF
import Derived.Test.YtephkbajoofeoaaWAP2
import Derived.Test.YtephkbajoofeoaaWAP1
import Derived.Test.YtephkbajoofeoaaWAG8
namespace Go.Proofs.Ytephkbajoofeoaa.Am
open Go Go.RowKit Go.Proofs.Ytephkbajoofeoaa
set_option linter.all false
noncomputable section
variable (K:TRes→Prop)
def Yh (t:Qe):TRes:=⟨(.a [(zci t.1),(.r Qc 0 0 ((t.2).length))]),[(.sl 39 Qc (.dp 0 true []) t.2)],[],false,[]⟩
def QbS:TRow:=Qn 118 [(.a Qx)] fun x=>(some (QQ (α:=Qe) x.1),Yh (id (α:=Qe) x.1))
def Qa3:TTab:=⟨[Qau],true⟩
def QdA:TCode :=
 (zsq [(.reg [zbi 13 .lss 12 11]),(.cond 13 .skip (.exit 0)),(.block 1 (zsq [(.reg [zia 14 10 12 Qc,zLd 15 14 2,zop 5 (.new 39 (z0s Qc)),zst 5 15 2]),(.draw [zfa 16 3 1,zld 17 16 1,zfa 18 5 0,zld 19 18 1,zfa 20 5 1,zld 21 20 1,zca 22 121 [21],zop 23 (.build (z0s Qc) [(0,1,19),(1,1,22)]),zop 24 (.bsl 39 Qc [23]),zop 25 (.app 17 24 39 Qc),zfa 26 3 1,zst 26 25 1] [(0,6),(1,6),(2,6),(3,6),(0,8),(1,8)])])),(.reg [zbi 27 .add 12 (zki 1),zmv 12 27])])
def Qe8:List (Nat × Md):=[(2,.b [.d,.f]),(3,.b [.d,.p 39]),(10,.one .d),(11,.one .d),(12,.one .d)]
def Qdj:TCode :=
 (zsq [(.reg [zLd 28 3 2,zst 2 28 2]),.ret])
def Qjt:TCode :=
 (zsq [(.reg [zop 1 (.box 36 0 2),zop 2 (.new 36 (z0s Qx))]),(.reg [zfa 6 1 0,zld 7 6 1,zop 8 (.build (z0s Qx) [(0,1,7)]),zop 3 (.new 36 (z0s Qx)),zst 3 8 2]),(zsq [(.reg [zfa 9 1 1,zld 10 9 1,zle 11 10,zmv 12 (zki 0)]),(.block 0 (.loop Qe8 QdA))]),Qdj])
def Qhp:List (ARv × Md):=[(.l 2 2 true,.b [.d,.p 39])]
def Qdh:Qh:=TQ 0 0 Qhp K
def QmK:Qh:=Qseq (tawp Qa3 0 Qdj (Qdh K)) (Qdh K)
def Qlb:Qh:=Qblk 0 (QmK K)
def QbI (q:Qe) (x:Int) (r1:List Qb):Prop:=Loop Qa3 0 Qe8 QdA (Qlb K) ⟨[(2,(.p 0 0 0)),(3,(.p 2 0 0)),(10,(zcs Qc q.2)),(11,(zci ((q.2).length:Int))),(12,(zci x))],[(0,(.box [(zci 0),(.n Qc)])),(1,(.sl 39 Qc (.dp 0 true []) r1)),(2,(.box [(zci q.1),(.r Qc 1 0 r1.length)]))],3⟩
theorem Qh6 (q:Qe) (x:Int) (r1:List Qb) (h :
 (zif (decide (x<((q.2).length:Int))) (((0:Int)≤x∧Int.toNat x<(q.2).length)∧(((QQ (α:=List Int) ((gtd ((0,[]):Qb) q.2 (Int.toNat x)).2))∧((r1.length=r1.length∨r1.length+1≤r1.length)∧r1.length+1≤big))∧(QbI K q (w64 (x+(1:Int))) (List.take (r1.length+1) ((List.take r1.length r1)++([((gtd ((0,[]):Qb) q.2 (Int.toNat x)).1,(List.take ((id (α:=List Int) ((gtd ((0,[]):Qb) q.2 (Int.toNat x)).2)).length) (List.drop 0 (id (α:=List Int) ((gtd ((0,[]):Qb) q.2 (Int.toNat x)).2)))))])))))) (K (Yh (q.1,(List.take r1.length r1)))))):QbI K q x r1 :=
 Loop.of (by kernel_rfl) h
theorem Qnx (q:Qe) (h :
 (QbI K q 0 ([]:List Qb))):Hold (tawp Qa3 (0+0) Qjt (TQ 0 0 Qhp K) (Ql [(.a [(.c TI q.1),(.c (.sl Qc) q.2)])])) :=
 Hold.of (by kernel_rfl) h
theorem Qiu (q:Qe) (hp:QQ (α:=Qe) q):TCon Try.prog 118 [(.a [(.c TI q.1),(.c (.sl Qc) q.2)])] (Yh (id (α:=Qe) q)):=by
 refine Qp rfl fun hb=>tcg (Γ:=Qa3) (n:=29) (sg:=QbS.sg) Qq (TOkL.cons Qhd TOkL.nil) (by kernel_rfl) (by kernel_rfl) (Qnx _ q ?_)
 have hl_q_1:(q.2).length≤9223372036854775807:=hb.1.2.1.1
 unfold QQ at hp
 simp only [QN,QM] at hp
 refine QdW (l:=q.2) (Q:=fun z=>Yh (q.1,z)=Yh (id (α:=Qe) q)) (by omega) (fun k x v hk hl hg hv hx ih=>?_) (fun hq=>?_) (R_eq rfl)
 ·refine Qh6 (fun r'=>r'=Yh (id (α:=Qe) q)) q _ _ ⟨fun _=>?_,fun h=>by simp at h;omega⟩
  simp only [QN,QM] at hx
  rw [Int.toNat_natCast,hg,sc1 (by omega),Qdx,QnK]
  exact ⟨⟨by omega,hk⟩,⟨(show Sz.sz (_:List Int)≤2147483648 by omega),room (by omega)⟩,ih⟩
 ·refine Qh6 (fun r'=>r'=Yh (id (α:=Qe) q)) q _ _ ⟨fun h=>by simp at h,fun _=>?_⟩
  rw [List.take_length];exact hq
theorem Qij:Qm Try.prog QbS:=Qt fun x h=>Qiu x.1 h
def Yj (t:Qe):TRes:=⟨(.a [(zci t.1),(.r Qc 0 0 ((t.2).length))]),[(.sl 39 Qc .ow t.2)],[],true,[]⟩
def QcF:TRow:=Qn 125 [(.a Qx)] fun x=>(some (QQ (α:=Qe) x.1),Yj (id (α:=Qe) x.1))
def QaE:TTab:=⟨[],false⟩
def QeM:TCode :=
 (zsq [(zsq [(.reg [zmv 6 4,zfa 7 1 1,zld 8 7 1,zle 9 8,zbi 10 .lss 6 9]),(.cond 10 .skip (.exit 0))]),(.block 1 (.draw [zmv 13 3,zfa 14 1 1,zld 15 14 1,zmv 16 4,zia 17 15 16 Qc,zfa 18 17 0,zld 19 18 1,zop 20 (.bsl 3 [TI] []),zfa 21 1 1,zld 22 21 1,zmv 23 4,zia 24 22 23 Qc,zfa 25 24 1,zld 26 25 1,zop 27 (.app 20 26 3 [TI]),zop 28 (.build (z0s Qc) [(0,1,19),(1,1,27)]),zop 29 (.bsl 39 Qc [28]),zop 30 (.app 13 29 39 Qc),zmv 3 30] [(1,7),(2,7),(4,7),(5,7),(6,7),(7,8),(7,9),(7,11),(7,12),(7,13),(1,14),(2,14),(4,14),(5,14),(6,14)])),(.reg [zmv 11 4,zbi 12 .add 11 (zki 1),zmv 4 12])])
def Qha:List (Nat × Md):=[(1,.b [.d,.d]),(2,.b [.d,.d]),(3,.one .f),(4,.one .d)]
def Qhw:TCode :=
 (zsq [(.reg [zmv 31 3,zfa 32 1 1,zst 32 31 1]),(.reg [zLd 33 1 2,zst 2 33 2]),.ret])
def Qlu:TCode :=
 (zsq [(.reg [zop 1 (.box 36 0 2),zop 2 (.new 36 (z0s Qx))]),(.reg [zop 5 (.bsl 39 Qc []),zmv 3 5]),(zsq [(.reg [zmv 4 (zki 0)]),(.block 0 (.loop Qha QeM))]),Qhw])
def Qds:List (ARv × Md):=[(.l 2 2 true,.b [.d,.o 39])]
def Qg4:Qh:=TQ 0 0 Qds K
def Qne:Qh:=Qseq (tawp QaE 0 Qhw (Qg4 K)) (Qg4 K)
def QlB:Qh:=Qblk 0 (Qne K)
def QbZ (q:Qe) (i:Int) (l:List Qb):Prop:=Loop QaE 0 Qha QeM (QlB K) ⟨[(1,(.p 0 0 0)),(2,(.p 1 0 0)),(3,(.r Qc 2 0 l.length)),(4,(zci i))],[(0,(.box [(zci q.1),(zcs Qc q.2)])),(1,(.box [(zci 0),(zcs Qc ([]))])),(2,(.sl 39 Qc .ow l))],3⟩
theorem QfV (q:Qe) (i:Int) (l:List Qb) (h :
 (zif (decide (i<((q.2).length:Int))) ((((0:Int)≤i∧Int.toNat i<(q.2).length)∧(((0:Int)≤i∧Int.toNat i<(q.2).length)∧(((0=0∨0+((gtd ((0,[]):Qb) q.2 (Int.toNat i)).2).length≤0)∧0+((gtd ((0,[]):Qb) q.2 (Int.toNat i)).2).length≤big)∧((l.length=l.length∨l.length+1≤l.length)∧l.length+1≤big))))∧(QbZ K q (w64 (i+(1:Int))) (List.take (l.length+1) ((List.take l.length l)++([((gtd ((0,[]):Qb) q.2 (Int.toNat i)).1,(List.take (0+((gtd ((0,[]):Qb) q.2 (Int.toNat i)).2).length) (List.drop 0 ((gtd ((0,[]):Qb) q.2 (Int.toNat i)).2))))]))))) (K (Yj (q.1,(List.take l.length l)))))):QbZ K q i l :=
 Loop.of (by kernel_rfl) h
theorem QnY (q:Qe) (h :
 (QbZ K q 0 ([]:List Qb))):Hold (tawp QaE (0+0) Qlu (TQ 0 0 Qds K) (Ql [(.a [(.c TI q.1),(.c (.sl Qc) q.2)])])) :=
 Hold.of (by kernel_rfl) h
theorem Qku (q:Qe) (hp:QQ (α:=Qe) q):TCon Try.prog 125 [(.a [(.c TI q.1),(.c (.sl Qc) q.2)])] (Yj (id (α:=Qe) q)):=by
 refine Qp rfl fun hb=>tcg (Γ:=QaE) (n:=34) (sg:=QcF.sg) Qq TOkL.nil (by kernel_rfl) (by kernel_rfl) (QnY _ q ?_)
 have hl_q_1:(q.2).length≤9223372036854775807:=hb.1.2.1.1
 unfold QQ at hp
 simp only [QN,QM] at hp
 refine QdW (l:=q.2) (Q:=fun z=>Yj (q.1,z)=Yj (id (α:=Qe) q)) (by omega) (fun k x v hk hl hg hv hx ih=>?_) (fun hq=>?_) (R_eq rfl)
 ·refine QfV (fun r'=>r'=Yj (id (α:=Qe) q)) q _ _ ⟨fun _=>?_,fun h=>by simp at h;omega⟩
  simp only [QN,QM] at hx
  rw [Int.toNat_natCast,hg,sc1 (by omega),Qdx,Qmp]
  have:=Qap x.2
  exact ⟨⟨⟨by omega,hk⟩,⟨by omega,hk⟩,⟨.inl rfl,by rw [Yw];omega⟩,room (by omega)⟩,ih⟩
 ·refine QfV (fun r'=>r'=Yj (id (α:=Qe) q)) q _ _ ⟨fun h=>by simp at h,fun _=>?_⟩
  rw [List.take_length];exact hq
theorem QjX:Qm Try.prog QcF:=Qt fun x h=>Qku x.1 h
def Qaf (t:Qe × Bool):TRes:=⟨(.tp [(.a [(zci t.1.1),(.r Qc 0 0 ((t.1.2).length))]),(zcb t.2)]),[(.sl 39 Qc (.dp 0 true []) t.1.2)],[],false,[]⟩
def QcU:TRow:=Qn 28 [(.a Qx),(.a Qc)] fun x=>(some (ZI (α:=Qe) (β:=Qb) x.1 x.2.1),Qaf (QJ x.1 x.2.1))
def QfW:TTab:=⟨[QbS,QcP,Qao,Qau],true⟩
def Qi7:TCode :=
 (zsq [(.reg [zop 2 (.box 36 0 2),zop 3 (.box 39 1 2),zop 4 (.new 36 (z0s Qx)),zmv 5 (zkb false)]),(.reg [zLd 7 2 2,zca 8 118 [7],zop 6 (.new 36 (z0s Qx)),zst 6 8 2]),(zsq [(.reg [zLd 9 2 2,zca 10 119 [9],zno 11 10,zmv 12 11,.grp 12 false [zLd 13 3 2,zca 14 120 [13],zno 15 14] 16 15,zmv 17 16,.grp 17 false [zfa 18 2 1,zld 19 18 1,zle 20 19,zfa 21 2 0,zld 22 21 1,zbi 23 .eql 20 22] 24 23]),(.cond 24 (zsq [(.reg [zLd 25 6 2,zst 4 25 2,zmv 5 (zkb false)]),.ret]) .skip)]),(.draw [zfa 26 6 1,zld 27 26 1,zfa 28 3 0,zld 29 28 1,zfa 30 3 1,zld 31 30 1,zca 32 121 [31],zop 33 (.build (z0s Qc) [(0,1,29),(1,1,32)]),zop 34 (.bsl 39 Qc [33]),zop 35 (.app 27 34 39 Qc),zfa 36 6 1,zst 36 35 1] [(0,6),(1,6),(2,6),(3,6),(0,8),(1,8)]),(.reg [zLd 37 6 2,zst 4 37 2,zmv 5 (zkb true)]),.ret])
def QnJ:List (ARv × Md):=[(.l 4 2 true,.b [.d,.p 39]),(.t 5,.one .d)]
theorem Qkx (q:Qe) (x:Qb) (h :
 ((QQ (α:=Qe) q)∧(zif (((!(QH q))||(!(QL x)))||(((q.2).length:Int)==q.1)) (K (Qaf (((id (α:=Qe) q).1,(List.take (((id (α:=Qe) q).2).length) ((id (α:=Qe) q).2))),false))) (((QQ (α:=List Int) x.2)∧((((id (α:=Qe) q).2).length=((id (α:=Qe) q).2).length∨((id (α:=Qe) q).2).length+1≤((id (α:=Qe) q).2).length)∧((id (α:=Qe) q).2).length+1≤big))∧K (Qaf (((id (α:=Qe) q).1,(List.take (((id (α:=Qe) q).2).length+1) ((List.take (((id (α:=Qe) q).2).length) ((id (α:=Qe) q).2))++([(x.1,(List.take ((id (α:=List Int) x.2).length) (List.drop 0 (id (α:=List Int) x.2))))])))),true)))))):Hold (tawp QfW (0+0) Qi7 (TQ 0 0 QnJ K) (Ql [(.a [(.c TI q.1),(.c (.sl Qc) q.2)]),(.a [(.c TI x.1),(.c (.sl [TI]) x.2)])])) :=
 Hold.of (by kernel_rfl) h
theorem Qmq (q:Qe) (x:Qb) (hp:ZI (α:=Qe) (β:=Qb) q x):TCon Try.prog 28 [(.a [(.c TI q.1),(.c (.sl Qc) q.2)]),(.a [(.c TI x.1),(.c (.sl [TI]) x.2)])] (Qaf (QJ q x)):=by
 refine Qp rfl fun hb=>tcg (Γ:=QfW) (n:=38) (sg:=QcU.sg) Qq (TOkL.cons Qij (TOkL.cons QiD (TOkL.cons QeP (TOkL.cons Qhd TOkL.nil)))) (by kernel_rfl) (by kernel_rfl) (Qkx _ q x ?_)
 have hl_q_1:(q.2).length≤9223372036854775807:=hb.1.2.1.1
 have hl_x_1:(x.2).length≤9223372036854775807:=hb.2.1.2.1.1
 unfold ZI at hp
 have hq:QQ q:=by unfold QQ;omega
 simp only [QN,QM] at hp
 have h1:=YL q.2
 have h2:=Qap x.2
 have e:((((!(QH q))||(!(QL x)))||(((q.2).length:Int)==q.1))) = !(QH q&&QL x&&decide ((q.2.length:Int)<q.1)):=by
  cases hk:QH q
  ·rfl
  ·have:(q.2.length:Int)≤q.1:=by
    simp only [QH,Bool.and_eq_true,decide_eq_true_eq] at hk
    exact hk.1.2
   cases QL x
   ·rfl
   ·rw [Bool.eq_iff_iff];simp;omega
 rw [e]
 refine ⟨hq,fun h=>R_eq ?_,fun h=>⟨⟨(show Sz.sz (_:List Int)≤2147483648 by omega),⟨.inl rfl,by rw [Yw];simp only [id];omega⟩⟩,R_eq ?_⟩⟩
 ·simp only [Bool.not_eq_true'] at h
  simp [QJ,h]
 ·simp only [Bool.not_eq_false'] at h
  simp [QJ,h,List.take_of_length_le]
theorem Qm1:Qm Try.prog QcU:=Qt fun x h=>Qmq x.1 x.2.1 h
def J5 (t:Qe × Bool):TRes:=⟨(.tp [(.a [(zci t.1.1),(.r Qc 0 0 ((t.1.2).length))]),(zcb t.2)]),[(.sl 39 Qc .ow t.1.2)],[],true,[]⟩
def Qb1:TRow:=Qn 36 [(.a Qx),(.a Qc)] fun x=>(some (ZI (α:=Qe) (β:=Qb) x.1 x.2.1),J5 (QJ x.1 x.2.1))
def Qgz:TTab:=⟨[QcF,Qb8,Qah,YQ],false⟩
def Qlt:TCode :=
 (zsq [(.reg [zop 2 (.box 36 0 2),zop 3 (.box 39 1 2),zop 4 (.new 36 (z0s Qx)),zmv 5 (zkb false)]),(.reg [zLd 7 2 2,zca 8 125 [7],zop 6 (.new 36 (z0s Qx)),zst 6 8 2]),(zsq [(.reg [zLd 9 2 2,zca 10 29 [9],zno 11 10,zmv 12 11,.grp 12 false [zfa 13 2 1,zld 14 13 1,zle 15 14,zfa 16 2 0,zld 17 16 1,zbi 18 .geq 15 17] 19 18,zmv 20 19,.grp 20 false [zfa 21 3 1,zld 22 21 1,zca 23 31 [22],zno 24 23] 25 24,zmv 26 25,.grp 26 false [zfa 27 3 0,zld 28 27 1,zca 29 102 [28,(zki 0),(zki 4)],zno 30 29] 31 30]),(.cond 31 (zsq [(.reg [zLd 32 6 2,zst 4 32 2,zmv 5 (zkb false)]),.ret]) .skip)]),(.draw [zfa 33 6 1,zld 34 33 1,zfa 35 3 0,zld 36 35 1,zop 37 (.bsl 3 [TI] []),zfa 38 3 1,zld 39 38 1,zop 40 (.app 37 39 3 [TI]),zop 41 (.build (z0s Qc) [(0,1,36),(1,1,40)]),zop 42 (.bsl 39 Qc [41]),zop 43 (.app 34 42 39 Qc),zfa 44 6 1,zst 44 43 1] [(0,4),(1,4),(2,4),(3,4),(4,5),(4,6),(0,7),(1,7),(2,7),(3,7),(0,9),(1,9)]),(.reg [zLd 45 6 2,zst 4 45 2,zmv 5 (zkb true)]),.ret])
def Qm5:List (ARv × Md):=[(.l 4 2 true,.b [.d,.o 39]),(.t 5,.one .d)]
theorem Ql9 (q:Qe) (x:Qb) (h :
 ((QQ (α:=Qe) q)∧(zif ((((!(QH q))||(decide (((q.2).length:Int)≥q.1)))||(!(QV x.2)))||(!(m_in x.1 (0:Int) (4:Int)))) (K (J5 (((id (α:=Qe) q).1,(List.take (((id (α:=Qe) q).2).length) ((id (α:=Qe) q).2))),false))) ((((0=0∨0+(x.2).length≤0)∧0+(x.2).length≤big)∧((((id (α:=Qe) q).2).length=((id (α:=Qe) q).2).length∨((id (α:=Qe) q).2).length+1≤((id (α:=Qe) q).2).length)∧((id (α:=Qe) q).2).length+1≤big))∧K (J5 (((id (α:=Qe) q).1,(List.take (((id (α:=Qe) q).2).length+1) ((List.take (((id (α:=Qe) q).2).length) ((id (α:=Qe) q).2))++([(x.1,(List.take (0+(x.2).length) (List.drop 0 (x.2:List Int))))])))),true)))))):Hold (tawp Qgz (0+0) Qlt (TQ 0 0 Qm5 K) (Ql [(.a [(.c TI q.1),(.c (.sl Qc) q.2)]),(.a [(.c TI x.1),(.c (.sl [TI]) x.2)])])) :=
 Hold.of (by kernel_rfl) h
theorem Qod (q:Qe) (x:Qb) (hp:ZI (α:=Qe) (β:=Qb) q x):TCon Try.prog 36 [(.a [(.c TI q.1),(.c (.sl Qc) q.2)]),(.a [(.c TI x.1),(.c (.sl [TI]) x.2)])] (J5 (QJ q x)):=by
 refine Qp rfl fun hb=>tcg (Γ:=Qgz) (n:=46) (sg:=Qb1.sg) Qq (TOkL.cons QjX (TOkL.cons QiK (TOkL.cons Qic (TOkL.cons Qa0 TOkL.nil)))) (by kernel_rfl) (by kernel_rfl) (Ql9 _ q x ?_)
 have hl_q_1:(q.2).length≤9223372036854775807:=hb.1.2.1.1
 have hl_x_1:(x.2).length≤9223372036854775807:=hb.2.1.2.1.1
 unfold ZI at hp
 have hq:QQ q:=by unfold QQ;omega
 simp only [QN,QM] at hp
 have h1:=YL q.2
 have h2:=Qap x.2
 have e:(((((!(QH q))||(decide (((q.2).length:Int)≥q.1)))||(!(QV x.2)))||(!(m_in x.1 0 4)))) = !(QH q&&QL x&&decide ((q.2.length:Int)<q.1)):=by
  cases hk:QH q
  ·rfl
  ·cases hv:QV x.2
   ·simp [QL,hv]
   ·rw [Bool.eq_iff_iff];simp [QL,hv,m_in];omega
 rw [e]
 refine ⟨hq,fun h=>R_eq ?_,fun h=>⟨⟨⟨.inl rfl,by rw [Yw];omega⟩,⟨.inl rfl,by rw [Yw];simp only [id];omega⟩⟩,R_eq ?_⟩⟩
 ·simp only [Bool.not_eq_true'] at h
  simp [QJ,h]
 ·simp only [Bool.not_eq_false'] at h
  simp [QJ,h,List.take_of_length_le]
theorem Qnz:Qm Try.prog Qb1:=Qt fun x h=>Qod x.1 x.2.1 h
end
end Go.Proofs.Ytephkbajoofeoaa.Am

