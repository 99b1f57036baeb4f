/- -/
import Derived.Test.YtephkbajoofeoaaYBPF
import Derived.Test.YtephkbajoofeoaaYBP2
import Derived.Test.YtephkbajoofeoaaYBP1
import Derived.Test.YtephkbajoofeoaaYBG9
namespace Go.Proofs.Ytephkbajoofeoaa.Am
open Go Go.RowKit Go.Proofs.Ytephkbajoofeoaa
set_option linter.all false
noncomputable section
variable (K:TRes→Prop)
def Yl (t:Qb):TRes:=⟨(.a [(zci t.1),(.r Qd 0 0 ((t.2).length))]),[(.sl 39 Qd true t.2)],[],true,[]⟩
def Qaw:TRow:=Qr 118 [(.a Qu)] fun x=>(some (Qz (α:=Qb) x.1),Yl (id (α:=Qb) x.1))
def QaO:List TRow:=[Qac]
def Qdl:TCode :=
 (zsq [(.reg [zbi 13 .lss 12 11]),(.cond 13 .skip (.exit 0)),(.block 1 (zsq [(.reg [zia 14 10 12 Qd,zLd 15 14 2,zop 5 (.new 39 (z0s Qd)),zst 5 15 2]),(.draw [zfa 16 3 1,zld 17 16 1,zfa 18 5 0,zld 19 18 1,zfa 20 5 1,zld 21 20 1,zca 22 121 [21],zop 23 (.build (z0s Qd) [(0,1,19),(1,1,22)]),zop 24 (.bsl 39 Qd [23]),zop 25 (.app 17 24 39 Qd),zfa 26 3 1,zst 26 25 1] [(0,6),(1,6),(2,6),(3,6),(0,8),(1,8)])])),(.reg [zbi 27 .add 12 (zki 1),zmv 12 27])])
def Qfl:List (Nat × Md):=[(2,.b [.d,.d]),(3,.b [.d,.o 39]),(10,.one .d),(11,.one .d),(12,.one .d)]
def QfE:TCode :=
 (zsq [(.reg [zLd 28 3 2,zst 2 28 2]),.ret])
def QkI:TCode :=
 (zsq [(.reg [zop 1 (.box 36 0 2),zop 2 (.new 36 (z0s Qu))]),(.reg [zfa 6 1 0,zld 7 6 1,zop 8 (.build (z0s Qu) [(0,1,7)]),zop 3 (.new 36 (z0s Qu)),zst 3 8 2]),(zsq [(.reg [zfa 9 1 1,zld 10 9 1,zle 11 10,zmv 12 (zki 0)]),(.block 0 (.loop Qfl Qdl))]),QfE])
def QeX:List (ARv × Md):=[(.l 2 2 true,.b [.d,.o 39])]
def QeW:Qi:=TQ 0 0 QeX K
def Qiz:Qi:=Qseq (tawp QaO 0 QfE (QeW K)) (QeW K)
def Qjh:Qi:=Qblk 0 (Qiz K)
def Qax (q:Qb) (x:Int) (r1:List Qg):Prop:=Loop QaO 0 Qfl Qdl (Qjh K) ⟨[(2,(.p 0 0 0)),(3,(.p 2 0 0)),(10,(zcs Qd q.2)),(11,(zci ((q.2).length:Int))),(12,(zci x))],[(0,(.box [(zci 0),(zcs Qd ([]))])),(1,(.sl 39 Qd true r1)),(2,(.box [(zci q.1),(.r Qd 1 0 r1.length)]))],3⟩
theorem Qdq (q:Qb) (x:Int) (r1:List Qg) (h :
 (zif (decide (x<((q.2).length:Int))) (((0:Int)≤x∧Int.toNat x<(q.2).length)∧(((Qz (α:=List Int) ((gtd ((0,[]):Qg) q.2 (Int.toNat x)).2))∧((r1.length=r1.length∨r1.length+1≤r1.length)∧r1.length+1≤big))∧(Qax K q (w64 (x+(1:Int))) (List.take (r1.length+1) ((List.take r1.length r1)++([((gtd ((0,[]):Qg) q.2 (Int.toNat x)).1,(List.take ((id (α:=List Int) ((gtd ((0,[]):Qg) q.2 (Int.toNat x)).2)).length) (List.drop 0 (id (α:=List Int) ((gtd ((0,[]):Qg) q.2 (Int.toNat x)).2)))))])))))) (K (Yl (q.1,(List.take r1.length r1)))))):Qax K q x r1 :=
 Loop.of (by kernel_rfl) h
theorem Qj6 (q:Qb) (h :
 (Qax K q 0 ([]:List Qg))):Hold (tawp QaO (0+0) QkI (TQ 0 0 QeX K) (Ql [(.a [(.c TI q.1),(.c (.sl Qd) q.2)])])) :=
 Hold.of (by kernel_rfl) h
theorem Qjq (q:Qb) (hp:Qz (α:=Qb) q):TCon Try.prog 118 [(.a [(.c TI q.1),(.c (.sl Qd) q.2)])] (Yl (id (α:=Qb) q)):=by
 refine QN rfl fun hb=>tcg (n:=29) (sg:=Qaw.sg) Qv (TOk.cons QeQ TOk.nil) (by kernel_rfl) (by kernel_rfl) (Qj6 _ q ?_)
 have hl_q_1:(q.2).length≤9223372036854775807:=hb.1.2.1.1
 unfold Qz at hp
 simp only [Zo,Q7] at hp
 refine Qcy (l:=q.2) (Q:=fun z=>Yl (q.1,z)=Yl (id (α:=Qb) q)) (by omega) (fun k x v hk hl hg hv hx ih=>?_) (fun hq=>?_) (R_eq rfl)
 ·refine Qdq (fun r'=>r'=Yl (id (α:=Qb) q)) q _ _ ⟨fun _=>?_,fun h=>by simp at h;omega⟩
  simp only [Zo,Q7] at hx
  rw [Int.toNat_natCast,hg,sc1 (by omega),Qaq,QiC]
  exact ⟨⟨by omega,hk⟩,⟨(show Sz.sz (_:List Int)≤2147483648 by omega),room (by omega)⟩,ih⟩
 ·refine Qdq (fun r'=>r'=Yl (id (α:=Qb) q)) q _ _ ⟨fun h=>by simp at h,fun _=>?_⟩
  rw [List.take_length];exact hq
theorem QfP:Qq Try.prog Qaw:=Qy fun x h=>Qjq x.1 h
def Yp (t:Qb):TRes:=⟨(.a [(zci t.1),(.r Qd 0 0 ((t.2).length))]),[(.sl 39 Qd true t.2)],[],true,[]⟩
def QaS:TRow:=Qr 125 [(.a Qu)] fun x=>(some (Qz (α:=Qb) x.1),Yp (id (α:=Qb) x.1))
def QaL:List TRow:=[]
def Qei:TCode :=
 (zsq [(zsq [(.reg [zmv 6 4,zfa 7 1 1,zld 8 7 1,zle 9 8,zbi 10 .lss 6 9]),(.cond 10 .skip (.exit 0))]),(.block 1 (.draw [zmv 13 3,zfa 14 1 1,zld 15 14 1,zmv 16 4,zia 17 15 16 Qd,zfa 18 17 0,zld 19 18 1,zop 20 (.bsl 3 [TI] []),zfa 21 1 1,zld 22 21 1,zmv 23 4,zia 24 22 23 Qd,zfa 25 24 1,zld 26 25 1,zop 27 (.app 20 26 3 [TI]),zop 28 (.build (z0s Qd) [(0,1,19),(1,1,27)]),zop 29 (.bsl 39 Qd [28]),zop 30 (.app 13 29 39 Qd),zmv 3 30] [(1,7),(2,7),(4,7),(5,7),(6,7),(7,8),(7,9),(7,11),(7,12),(7,13),(1,14),(2,14),(4,14),(5,14),(6,14)])),(.reg [zmv 11 4,zbi 12 .add 11 (zki 1),zmv 4 12])])
def Qdb:List (Nat × Md):=[(1,.b [.d,.d]),(2,.b [.d,.d]),(3,.one .f),(4,.one .d)]
def Qfp:TCode :=
 (zsq [(.reg [zmv 31 3,zfa 32 1 1,zst 32 31 1]),(.reg [zLd 33 1 2,zst 2 33 2]),.ret])
def QiI:TCode :=
 (zsq [(.reg [zop 1 (.box 36 0 2),zop 2 (.new 36 (z0s Qu))]),(.reg [zop 5 (.bsl 39 Qd []),zmv 3 5]),(zsq [(.reg [zmv 4 (zki 0)]),(.block 0 (.loop Qdb Qei))]),Qfp])
def Qc4:List (ARv × Md):=[(.l 2 2 true,.b [.d,.o 39])]
def QeR:Qi:=TQ 0 0 Qc4 K
def Qgg:Qi:=Qseq (tawp QaL 0 Qfp (QeR K)) (QeR K)
def QhF:Qi:=Qblk 0 (Qgg K)
def Qa4 (q:Qb) (i:Int) (l:List Qg):Prop:=Loop QaL 0 Qdb Qei (QhF K) ⟨[(1,(.p 0 0 0)),(2,(.p 1 0 0)),(3,(.r Qd 2 0 l.length)),(4,(zci i))],[(0,(.box [(zci q.1),(zcs Qd q.2)])),(1,(.box [(zci 0),(zcs Qd ([]))])),(2,(.sl 39 Qd true l))],3⟩
theorem QeE (q:Qb) (i:Int) (l:List Qg) (h :
 (zif (decide (i<((q.2).length:Int))) ((((0:Int)≤i∧Int.toNat i<(q.2).length)∧(((0:Int)≤i∧Int.toNat i<(q.2).length)∧(((0=0∨0+((gtd ((0,[]):Qg) q.2 (Int.toNat i)).2).length≤0)∧0+((gtd ((0,[]):Qg) q.2 (Int.toNat i)).2).length≤big)∧((l.length=l.length∨l.length+1≤l.length)∧l.length+1≤big))))∧(Qa4 K q (w64 (i+(1:Int))) (List.take (l.length+1) ((List.take l.length l)++([((gtd ((0,[]):Qg) q.2 (Int.toNat i)).1,(List.take (0+((gtd ((0,[]):Qg) q.2 (Int.toNat i)).2).length) (List.drop 0 ((gtd ((0,[]):Qg) q.2 (Int.toNat i)).2))))]))))) (K (Yp (q.1,(List.take l.length l)))))):Qa4 K q i l :=
 Loop.of (by kernel_rfl) h
theorem QgC (q:Qb) (h :
 (Qa4 K q 0 ([]:List Qg))):Hold (tawp QaL (0+0) QiI (TQ 0 0 Qc4 K) (Ql [(.a [(.c TI q.1),(.c (.sl Qd) q.2)])])) :=
 Hold.of (by kernel_rfl) h
theorem QjS (q:Qb) (hp:Qz (α:=Qb) q):TCon Try.prog 125 [(.a [(.c TI q.1),(.c (.sl Qd) q.2)])] (Yp (id (α:=Qb) q)):=by
 refine QN rfl fun hb=>tcg (n:=34) (sg:=QaS.sg) Qv TOk.nil (by kernel_rfl) (by kernel_rfl) (QgC _ q ?_)
 have hl_q_1:(q.2).length≤9223372036854775807:=hb.1.2.1.1
 unfold Qz at hp
 simp only [Zo,Q7] at hp
 refine Qcy (l:=q.2) (Q:=fun z=>Yp (q.1,z)=Yp (id (α:=Qb) q)) (by omega) (fun k x v hk hl hg hv hx ih=>?_) (fun hq=>?_) (R_eq rfl)
 ·refine QeE (fun r'=>r'=Yp (id (α:=Qb) q)) q _ _ ⟨fun _=>?_,fun h=>by simp at h;omega⟩
  simp only [Zo,Q7] at hx
  rw [Int.toNat_natCast,hg,sc1 (by omega),Qaq,Qjv]
  have:=ZU x.2
  exact ⟨⟨⟨by omega,hk⟩,⟨by omega,hk⟩,⟨.inl rfl,by rw [ZY];omega⟩,room (by omega)⟩,ih⟩
 ·refine QeE (fun r'=>r'=Yp (id (α:=Qb) q)) q _ _ ⟨fun h=>by simp at h,fun _=>?_⟩
  rw [List.take_length];exact hq
theorem Qf5:Qq Try.prog QaS:=Qy fun x h=>QjS x.1 h
def Qav (t:Qb × Bool):TRes:=⟨(.tp [(.a [(zci t.1.1),(.r Qd 0 0 ((t.1.2).length))]),(zcb t.2)]),[(.sl 39 Qd true t.1.2)],[],true,[]⟩
def Qb1:TRow:=Qr 28 [(.a Qu),(.a Qd)] fun x=>(some (Zx (α:=Qb) (β:=Qg) x.1 x.2.1),Qav (QQ x.1 x.2.1))
def QiZ:List TRow:=[Qaw,YQ,Qaj,Qac]
def Qhw:TCode :=
 (zsq [(.reg [zop 2 (.box 36 0 2),zop 3 (.box 39 1 2),zop 4 (.new 36 (z0s Qu)),zmv 5 (zkb false)]),(.reg [zLd 7 2 2,zca 8 118 [7],zop 6 (.new 36 (z0s Qu)),zst 6 8 2]),(zsq [(.reg [zLd 9 2 2,zca 10 119 [9],zno 11 10,zmv 12 11,.grp 12 false [zLd 13 3 2,zca 14 120 [13],zno 15 14] 16 15,zmv 17 16,.grp 17 false [zfa 18 2 1,zld 19 18 1,zle 20 19,zfa 21 2 0,zld 22 21 1,zbi 23 .eql 20 22] 24 23]),(.cond 24 (zsq [(.reg [zLd 25 6 2,zst 4 25 2,zmv 5 (zkb false)]),.ret]) .skip)]),(.draw [zfa 26 6 1,zld 27 26 1,zfa 28 3 0,zld 29 28 1,zfa 30 3 1,zld 31 30 1,zca 32 121 [31],zop 33 (.build (z0s Qd) [(0,1,29),(1,1,32)]),zop 34 (.bsl 39 Qd [33]),zop 35 (.app 27 34 39 Qd),zfa 36 6 1,zst 36 35 1] [(0,6),(1,6),(2,6),(3,6),(0,8),(1,8)]),(.reg [zLd 37 6 2,zst 4 37 2,zmv 5 (zkb true)]),.ret])
def Qku:List (ARv × Md):=[(.l 4 2 true,.b [.d,.o 39]),(.t 5,.one .d)]
theorem Qiw (q:Qb) (x:Qg) (h :
 ((Qz (α:=Qb) q)∧(zif (((!(Qn q))||(!(QA x)))||(((q.2).length:Int)==q.1)) (K (Qav (((id (α:=Qb) q).1,(List.take (((id (α:=Qb) q).2).length) ((id (α:=Qb) q).2))),false))) (((Qz (α:=List Int) x.2)∧((((id (α:=Qb) q).2).length=((id (α:=Qb) q).2).length∨((id (α:=Qb) q).2).length+1≤((id (α:=Qb) q).2).length)∧((id (α:=Qb) q).2).length+1≤big))∧K (Qav (((id (α:=Qb) q).1,(List.take (((id (α:=Qb) q).2).length+1) ((List.take (((id (α:=Qb) q).2).length) ((id (α:=Qb) q).2))++([(x.1,(List.take ((id (α:=List Int) x.2).length) (List.drop 0 (id (α:=List Int) x.2))))])))),true)))))):Hold (tawp QiZ (0+0) Qhw (TQ 0 0 Qku K) (Ql [(.a [(.c TI q.1),(.c (.sl Qd) q.2)]),(.a [(.c TI x.1),(.c (.sl [TI]) x.2)])])) :=
 Hold.of (by kernel_rfl) h
theorem QiO (q:Qb) (x:Qg) (hp:Zx (α:=Qb) (β:=Qg) q x):TCon Try.prog 28 [(.a [(.c TI q.1),(.c (.sl Qd) q.2)]),(.a [(.c TI x.1),(.c (.sl [TI]) x.2)])] (Qav (QQ q x)):=by
 refine QN rfl fun hb=>tcg (n:=38) (sg:=Qb1.sg) Qv (TOk.cons QfP (TOk.cons Qa2 (TOk.cons QdT (TOk.cons QeQ TOk.nil)))) (by kernel_rfl) (by kernel_rfl) (Qiw _ q x ?_)
 have hl_q_1:(q.2).length≤9223372036854775807:=hb.1.2.1.1
 have hl_x_1:(x.2).length≤9223372036854775807:=hb.2.1.2.1.1
 unfold Zx at hp
 have hq:Qz q:=by unfold Qz;omega
 simp only [Zo,Q7] at hp
 have h1:=J2 q.2
 have h2:=ZU x.2
 have e:((((!(Qn q))||(!(QA x)))||(((q.2).length:Int)==q.1))) = !(Qn q&&QA x&&decide ((q.2.length:Int)<q.1)):=by
  cases hk:Qn q
  ·rfl
  ·have:(q.2.length:Int)≤q.1:=by
    simp only [Qn,Bool.and_eq_true,decide_eq_true_eq] at hk
    exact hk.1.2
   cases QA x
   ·rfl
   ·rw [Bool.eq_iff_iff];simp;omega
 rw [e]
 refine ⟨hq,fun h=>R_eq ?_,fun h=>⟨⟨(show Sz.sz (_:List Int)≤2147483648 by omega),⟨.inl rfl,by rw [ZY];simp only [id];omega⟩⟩,R_eq ?_⟩⟩
 ·simp only [Bool.not_eq_true'] at h
  simp [QQ,h]
 ·simp only [Bool.not_eq_false'] at h
  simp [QQ,h,List.take_of_length_le]
theorem Qh6:Qq Try.prog Qb1:=Qy fun x h=>QiO x.1 x.2.1 h
def JD (t:Qb × Bool):TRes:=⟨(.tp [(.a [(zci t.1.1),(.r Qd 0 0 ((t.1.2).length))]),(zcb t.2)]),[(.sl 39 Qd true t.1.2)],[],true,[]⟩
def QaF:TRow:=Qr 36 [(.a Qu),(.a Qd)] fun x=>(some (Zx (α:=Qb) (β:=Qg) x.1 x.2.1),JD (QQ x.1 x.2.1))
def Qh8:List TRow:=[QaS,JI,Y7,YK]
def Qgl:TCode :=
 (zsq [(.reg [zop 2 (.box 36 0 2),zop 3 (.box 39 1 2),zop 4 (.new 36 (z0s Qu)),zmv 5 (zkb false)]),(.reg [zLd 7 2 2,zca 8 125 [7],zop 6 (.new 36 (z0s Qu)),zst 6 8 2]),(zsq [(.reg [zLd 9 2 2,zca 10 29 [9],zno 11 10,zmv 12 11,.grp 12 false [zfa 13 2 1,zld 14 13 1,zle 15 14,zfa 16 2 0,zld 17 16 1,zbi 18 .geq 15 17] 19 18,zmv 20 19,.grp 20 false [zfa 21 3 1,zld 22 21 1,zca 23 31 [22],zno 24 23] 25 24,zmv 26 25,.grp 26 false [zfa 27 3 0,zld 28 27 1,zca 29 102 [28,(zki 0),(zki 4)],zno 30 29] 31 30]),(.cond 31 (zsq [(.reg [zLd 32 6 2,zst 4 32 2,zmv 5 (zkb false)]),.ret]) .skip)]),(.draw [zfa 33 6 1,zld 34 33 1,zfa 35 3 0,zld 36 35 1,zop 37 (.bsl 3 [TI] []),zfa 38 3 1,zld 39 38 1,zop 40 (.app 37 39 3 [TI]),zop 41 (.build (z0s Qd) [(0,1,36),(1,1,40)]),zop 42 (.bsl 39 Qd [41]),zop 43 (.app 34 42 39 Qd),zfa 44 6 1,zst 44 43 1] [(0,4),(1,4),(2,4),(3,4),(4,5),(4,6),(0,7),(1,7),(2,7),(3,7),(0,9),(1,9)]),(.reg [zLd 45 6 2,zst 4 45 2,zmv 5 (zkb true)]),.ret])
def Qf8:List (ARv × Md):=[(.l 4 2 true,.b [.d,.o 39]),(.t 5,.one .d)]
theorem QiM (q:Qb) (x:Qg) (h :
 ((Qz (α:=Qb) q)∧(zif ((((!(Qn q))||(decide (((q.2).length:Int)≥q.1)))||(!(QP x.2)))||(!(m_in x.1 (0:Int) (4:Int)))) (K (JD (((id (α:=Qb) q).1,(List.take (((id (α:=Qb) q).2).length) ((id (α:=Qb) q).2))),false))) ((((0=0∨0+(x.2).length≤0)∧0+(x.2).length≤big)∧((((id (α:=Qb) q).2).length=((id (α:=Qb) q).2).length∨((id (α:=Qb) q).2).length+1≤((id (α:=Qb) q).2).length)∧((id (α:=Qb) q).2).length+1≤big))∧K (JD (((id (α:=Qb) q).1,(List.take (((id (α:=Qb) q).2).length+1) ((List.take (((id (α:=Qb) q).2).length) ((id (α:=Qb) q).2))++([(x.1,(List.take (0+(x.2).length) (List.drop 0 (x.2:List Int))))])))),true)))))):Hold (tawp Qh8 (0+0) Qgl (TQ 0 0 Qf8 K) (Ql [(.a [(.c TI q.1),(.c (.sl Qd) q.2)]),(.a [(.c TI x.1),(.c (.sl [TI]) x.2)])])) :=
 Hold.of (by kernel_rfl) h
theorem Qif (q:Qb) (x:Qg) (hp:Zx (α:=Qb) (β:=Qg) q x):TCon Try.prog 36 [(.a [(.c TI q.1),(.c (.sl Qd) q.2)]),(.a [(.c TI x.1),(.c (.sl [TI]) x.2)])] (JD (QQ q x)):=by
 refine QN rfl fun hb=>tcg (n:=46) (sg:=QaF.sg) Qv (TOk.cons Qf5 (TOk.cons Qfh (TOk.cons Qa6 (TOk.cons Qau TOk.nil)))) (by kernel_rfl) (by kernel_rfl) (QiM _ q x ?_)
 have hl_q_1:(q.2).length≤9223372036854775807:=hb.1.2.1.1
 have hl_x_1:(x.2).length≤9223372036854775807:=hb.2.1.2.1.1
 unfold Zx at hp
 have hq:Qz q:=by unfold Qz;omega
 simp only [Zo,Q7] at hp
 have h1:=J2 q.2
 have h2:=ZU x.2
 have e:(((((!(Qn q))||(decide (((q.2).length:Int)≥q.1)))||(!(QP x.2)))||(!(m_in x.1 0 4)))) = !(Qn q&&QA x&&decide ((q.2.length:Int)<q.1)):=by
  cases hk:Qn q
  ·rfl
  ·cases hv:QP x.2
   ·simp [QA,hv]
   ·rw [Bool.eq_iff_iff];simp [QA,hv,m_in];omega
 rw [e]
 refine ⟨hq,fun h=>R_eq ?_,fun h=>⟨⟨⟨.inl rfl,by rw [ZY];omega⟩,⟨.inl rfl,by rw [ZY];simp only [id];omega⟩⟩,R_eq ?_⟩⟩
 ·simp only [Bool.not_eq_true'] at h
  simp [QQ,h]
 ·simp only [Bool.not_eq_false'] at h
  simp [QQ,h,List.take_of_length_le]
theorem Qke:Qq Try.prog QaF:=Qy fun x h=>Qif x.1 x.2.1 h
def JL (t:Qb × Qg × Bool):TRes:=zra (.tp [(.a [(zci t.1.1),(zcs Qd t.1.2)]),(.a [(zci t.2.1.1),(zcs [TI] t.2.1.2)]),(zcb t.2.2)])
def Qbf:TRow:=Qr 30 [(.a Qu)] fun x=>(some (Qz (α:=Qb) x.1),JL (QC x.1))
def Qgw:List TRow:=[Qaw,YQ]
def Qhd:TCode :=
 (zsq [(.reg [zop 1 (.box 36 0 2),zop 2 (.new 36 (z0s Qu)),zop 3 (.new 39 (z0s Qd)),zmv 4 (zkb false)]),(.reg [zLd 7 1 2,zca 8 118 [7],zop 5 (.new 36 (z0s Qu)),zst 5 8 2]),(zsq [(.reg [zLd 9 1 2,zca 10 119 [9],zno 11 10,zmv 12 11,.grp 12 false [zfa 13 1 1,zld 14 13 1,zle 15 14,zbi 16 .eql 15 (zki 0)] 17 16]),(.cond 17 (zsq [(.reg [zLd 18 5 2,zop 19 (.build (z0s Qd) []),zst 2 18 2,zst 3 19 2,zmv 4 (zkb false)]),.ret]) .skip)]),(.reg [zfa 20 5 1,zld 21 20 1,zia 22 21 (zki 0) Qd,zLd 23 22 2,zop 6 (.new 39 (z0s Qd)),zst 6 23 2]),(.reg [zfa 24 5 1,zld 25 24 1,zop 26 (.slc 25 (some (zki 1)) none Qd),zfa 27 5 1,zst 27 26 1]),(.draw [zLd 28 5 2,zLd 29 6 2,zst 2 28 2,zst 3 29 2,zmv 4 (zkb true)] [(1,2)]),.ret])
def Qh2:List (ARv × Md):=[(.l 2 2 true,.b [.d,.d]),(.l 3 2 true,.b [.d,.d]),(.t 4,.one .d)]
theorem Qj5 (q:Qb) (h :
 ((Qz (α:=Qb) q)∧(zif ((!(Qn q))||(((q.2).length:Int)==(0:Int))) (K (JL (((id (α:=Qb) q).1,(List.take (((id (α:=Qb) q).2).length) (List.drop 0 ((id (α:=Qb) q).2)))),((0:Int),[]),false))) ((((0:Int)≤(0:Int)∧Int.toNat (0:Int)<((id (α:=Qb) q).2).length)∧((0+(Int.toNat (0:Int)))<((id (α:=Qb) q).2).length))∧(((0:Int)≤(1:Int)∧(1:Int)≤((((id (α:=Qb) q).2).length:Nat):Int)∧((((id (α:=Qb) q).2).length:Nat):Int)≤((((id (α:=Qb) q).2).length:Nat):Int))∧K (JL (((id (α:=Qb) q).1,(List.take (Int.toNat ((((id (α:=Qb) q).2).length:Nat):Int)-Int.toNat (1:Int)) (List.drop (0+Int.toNat (1:Int)) ((id (α:=Qb) q).2)))),(gtd ((0,[]):Qg) ((id (α:=Qb) q).2) (0+(Int.toNat (0:Int)))),true))))))):Hold (tawp Qgw (0+0) Qhd (TQ 0 0 Qh2 K) (Ql [(.a [(.c TI q.1),(.c (.sl Qd) q.2)])])) :=
 Hold.of (by kernel_rfl) h
theorem Qik (q:Qb) (hp:Qz (α:=Qb) q):TCon Try.prog 30 [(.a [(.c TI q.1),(.c (.sl Qd) q.2)])] (JL (QC q)):=by
 refine QN rfl fun hb=>tcg (n:=30) (sg:=Qbf.sg) Qv (TOk.cons QfP (TOk.cons Qa2 TOk.nil)) (by kernel_rfl) (by kernel_rfl) (Qj5 _ q ?_)
 have hl_q_1:(q.2).length≤9223372036854775807:=hb.1.2.1.1
 have hq:=hp
 unfold Qz at hp
 simp only [Zo,Q7] at hp
 have h1:=J2 q.2
 have e:((!(Qn q))||(((q.2).length:Int)==0)) = !(Qn q&&decide (0<q.2.length)):=by
  rw [Bool.eq_iff_iff];simp
 rw [e]
 refine ⟨hq,fun h=>R_eq ?_,fun h=>?_⟩
 ·simp only [Bool.not_eq_true'] at h
  simp only [QC,h];simp
 ·simp only [Bool.not_eq_false'] at h
  have h2:0<q.2.length:=by simp at h;exact h.2
  have h3:=QeL (QcM h2 (0,[]))
  have h4:=ZU (gtd (0,[]) q.2 0).2
  simp only [Zo,Q7] at h3
  have hM:(QC q)=((q.1,q.2.tail),gtd (0,[]) q.2 0,true):=by simp only [QC,h];simp
  simp only [id]
  exact ⟨⟨⟨by omega,by simpa using h2⟩,by simpa using h2⟩,⟨by omega,by omega,by omega⟩,R_eq (by rw [hM];simp [List.take_of_length_le])⟩
theorem QhT:Qq Try.prog Qbf:=Qy fun x h=>Qik x.1 h
end
end Go.Proofs.Ytephkbajoofeoaa.Am

