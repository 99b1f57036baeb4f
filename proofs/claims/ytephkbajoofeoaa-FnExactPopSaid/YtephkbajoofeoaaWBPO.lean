/- -/
import Derived.Test.YtephkbajoofeoaaWBPF
import Derived.Test.YtephkbajoofeoaaWBP2
import Derived.Test.YtephkbajoofeoaaWBP1
import Derived.Test.YtephkbajoofeoaaWBG8
namespace Go.Proofs.Ytephkbajoofeoaa.Am
open Go Go.RowKit Go.Proofs.Ytephkbajoofeoaa
set_option linter.all false
noncomputable section
variable (K:TRes→Prop)
def Yp (t:Qe):TRes:=⟨(.a [(zci t.1),(.r Qc 0 0 ((t.2).length))]),[(.sl 39 Qc (.dp 0 true []) t.2)],[],false,[]⟩
def Qdc:TRow:=Qm 118 [(.a Qz)] fun x=>(some (QF (α:=Qe) x.1),Yp (id (α:=Qe) x.1))
def Qag:TTab:=⟨[Qb1],true⟩
def QgY:TCode :=
 (zsq [(.reg [zbi 13 .lss 12 11]),(.cond 13 .skip (.exit 0)),(.block 1 (zsq [(.reg [zia 14 10 12 Qc,zLd 15 14 2,zop 5 (.new 39 (z0s Qc)),zst 5 15 2]),(.draw [zfa 16 3 1,zld 17 16 1,zfa 18 5 0,zld 19 18 1,zfa 20 5 1,zld 21 20 1,zca 22 121 [21],zop 23 (.build (z0s Qc) [(0,1,19),(1,1,22)]),zop 24 (.bsl 39 Qc [23]),zop 25 (.app 17 24 39 Qc),zfa 26 3 1,zst 26 25 1] [(0,6),(1,6),(2,6),(3,6),(0,8),(1,8)])])),(.reg [zbi 27 .add 12 (zki 1),zmv 12 27])])
def Qft:List (Nat × Md):=[(2,.b [.d,.f]),(3,.b [.d,.p 39]),(10,.one .d),(11,.one .d),(12,.one .d)]
def QhX:TCode :=
 (zsq [(.reg [zLd 28 3 2,zst 2 28 2]),.ret])
def Qoe:TCode :=
 (zsq [(.reg [zop 1 (.box 36 0 2),zop 2 (.new 36 (z0s Qz))]),(.reg [zfa 6 1 0,zld 7 6 1,zop 8 (.build (z0s Qz) [(0,1,7)]),zop 3 (.new 36 (z0s Qz)),zst 3 8 2]),(zsq [(.reg [zfa 9 1 1,zld 10 9 1,zle 11 10,zmv 12 (zki 0)]),(.block 0 (.loop Qft QgY))]),QhX])
def QgP:List (ARv × Md):=[(.l 2 2 true,.b [.d,.p 39])]
def Qgt:Qh:=TQ 0 0 QgP K
def QkS:Qh:=Qseq (tawp Qag 0 QhX (Qgt K)) (Qgt K)
def Ql1:Qh:=Qblk 0 (QkS K)
def Qbn (q:Qe) (x:Int) (r1:List Qb):Prop:=Loop Qag 0 Qft QgY (Ql1 K) ⟨[(2,(.p 0 0 0)),(3,(.p 2 0 0)),(10,(zcs Qc q.2)),(11,(zci ((q.2).length:Int))),(12,(zci x))],[(0,(.box [(zci 0),(.n Qc)])),(1,(.sl 39 Qc (.dp 0 true []) r1)),(2,(.box [(zci q.1),(.r Qc 1 0 r1.length)]))],3⟩
theorem QdB (q:Qe) (x:Int) (r1:List Qb) (h :
 (zif (decide (x<((q.2).length:Int))) (((0:Int)≤x∧Int.toNat x<(q.2).length)∧(((QF (α:=List Int) ((gtd ((0,[]):Qb) q.2 (Int.toNat x)).2))∧((r1.length=r1.length∨r1.length+1≤r1.length)∧r1.length+1≤big))∧(Qbn K q (w64 (x+(1:Int))) (List.take (r1.length+1) ((List.take r1.length r1)++([((gtd ((0,[]):Qb) q.2 (Int.toNat x)).1,(List.take ((id (α:=List Int) ((gtd ((0,[]):Qb) q.2 (Int.toNat x)).2)).length) (List.drop 0 (id (α:=List Int) ((gtd ((0,[]):Qb) q.2 (Int.toNat x)).2)))))])))))) (K (Yp (q.1,(List.take r1.length r1)))))):Qbn K q x r1 :=
 Loop.of (by kernel_rfl) h
theorem Qje (q:Qe) (h :
 (Qbn K q 0 ([]:List Qb))):Hold (tawp Qag (0+0) Qoe (TQ 0 0 QgP K) (Qk [(.a [(.c TI q.1),(.c (.sl Qc) q.2)])])) :=
 Hold.of (by kernel_rfl) h
theorem QiD (q:Qe) (hp:QF (α:=Qe) q):TCon Try.prog 118 [(.a [(.c TI q.1),(.c (.sl Qc) q.2)])] (Yp (id (α:=Qe) q)):=by
 refine Qr rfl fun hb=>tcg (Γ:=Qag) (n:=29) (sg:=Qdc.sg) Qq (TOkL.cons Qm7 TOkL.nil) (by kernel_rfl) (by kernel_rfl) (Qje _ q ?_)
 have hl_q_1:(q.2).length≤9223372036854775807:=hb.1.2.1.1
 unfold QF at hp
 simp only [QB,QD] at hp
 refine Qfa (l:=q.2) (Q:=fun z=>Yp (q.1,z)=Yp (id (α:=Qe) q)) (by omega) (fun k x v hk hl hg hv hx ih=>?_) (fun hq=>?_) (R_eq rfl)
 ·refine QdB (fun r'=>r'=Yp (id (α:=Qe) q)) q _ _ ⟨fun _=>?_,fun h=>by simp at h;omega⟩
  simp only [QB,QD] at hx
  rw [Int.toNat_natCast,hg,sc1 (by omega),QgD,Qj5]
  exact ⟨⟨by omega,hk⟩,⟨(show Sz.sz (_:List Int)≤2147483648 by omega),room (by omega)⟩,ih⟩
 ·refine QdB (fun r'=>r'=Yp (id (α:=Qe) q)) q _ _ ⟨fun h=>by simp at h,fun _=>?_⟩
  rw [List.take_length];exact hq
theorem QkI:Qn Try.prog Qdc:=Qs fun x h=>QiD x.1 h
def Yd (t:Qe):TRes:=⟨(.a [(zci t.1),(.r Qc 0 0 ((t.2).length))]),[(.sl 39 Qc .ow t.2)],[],true,[]⟩
def QbG:TRow:=Qm 125 [(.a Qz)] fun x=>(some (QF (α:=Qe) x.1),Yd (id (α:=Qe) x.1))
def QaJ:TTab:=⟨[],false⟩
def QdT:TCode :=
 (zsq [(zsq [(.reg [zmv 6 4,zfa 7 1 1,zld 8 7 1,zle 9 8,zbi 10 .lss 6 9]),(.cond 10 .skip (.exit 0))]),(.block 1 (.draw [zmv 13 3,zfa 14 1 1,zld 15 14 1,zmv 16 4,zia 17 15 16 Qc,zfa 18 17 0,zld 19 18 1,zop 20 (.bsl 3 [TI] []),zfa 21 1 1,zld 22 21 1,zmv 23 4,zia 24 22 23 Qc,zfa 25 24 1,zld 26 25 1,zop 27 (.app 20 26 3 [TI]),zop 28 (.build (z0s Qc) [(0,1,19),(1,1,27)]),zop 29 (.bsl 39 Qc [28]),zop 30 (.app 13 29 39 Qc),zmv 3 30] [(1,7),(2,7),(4,7),(5,7),(6,7),(7,8),(7,9),(7,11),(7,12),(7,13),(1,14),(2,14),(4,14),(5,14),(6,14)])),(.reg [zmv 11 4,zbi 12 .add 11 (zki 1),zmv 4 12])])
def Qgz:List (Nat × Md):=[(1,.b [.d,.d]),(2,.b [.d,.d]),(3,.one .f),(4,.one .d)]
def Qfb:TCode :=
 (zsq [(.reg [zmv 31 3,zfa 32 1 1,zst 32 31 1]),(.reg [zLd 33 1 2,zst 2 33 2]),.ret])
def Qmk:TCode :=
 (zsq [(.reg [zop 1 (.box 36 0 2),zop 2 (.new 36 (z0s Qz))]),(.reg [zop 5 (.bsl 39 Qc []),zmv 3 5]),(zsq [(.reg [zmv 4 (zki 0)]),(.block 0 (.loop Qgz QdT))]),Qfb])
def Qfn:List (ARv × Md):=[(.l 2 2 true,.b [.d,.o 39])]
def Qfl:Qh:=TQ 0 0 Qfn K
def Qn2:Qh:=Qseq (tawp QaJ 0 Qfb (Qfl K)) (Qfl K)
def QmU:Qh:=Qblk 0 (Qn2 K)
def QbW (q:Qe) (i:Int) (l:List Qb):Prop:=Loop QaJ 0 Qgz QdT (QmU K) ⟨[(1,(.p 0 0 0)),(2,(.p 1 0 0)),(3,(.r Qc 2 0 l.length)),(4,(zci i))],[(0,(.box [(zci q.1),(zcs Qc q.2)])),(1,(.box [(zci 0),(zcs Qc ([]))])),(2,(.sl 39 Qc .ow l))],3⟩
theorem Qh9 (q:Qe) (i:Int) (l:List Qb) (h :
 (zif (decide (i<((q.2).length:Int))) ((((0:Int)≤i∧Int.toNat i<(q.2).length)∧(((0:Int)≤i∧Int.toNat i<(q.2).length)∧(((0=0∨0+((gtd ((0,[]):Qb) q.2 (Int.toNat i)).2).length≤0)∧0+((gtd ((0,[]):Qb) q.2 (Int.toNat i)).2).length≤big)∧((l.length=l.length∨l.length+1≤l.length)∧l.length+1≤big))))∧(QbW K q (w64 (i+(1:Int))) (List.take (l.length+1) ((List.take l.length l)++([((gtd ((0,[]):Qb) q.2 (Int.toNat i)).1,(List.take (0+((gtd ((0,[]):Qb) q.2 (Int.toNat i)).2).length) (List.drop 0 ((gtd ((0,[]):Qb) q.2 (Int.toNat i)).2))))]))))) (K (Yd (q.1,(List.take l.length l)))))):QbW K q i l :=
 Loop.of (by kernel_rfl) h
theorem Qjs (q:Qe) (h :
 (QbW K q 0 ([]:List Qb))):Hold (tawp QaJ (0+0) Qmk (TQ 0 0 Qfn K) (Qk [(.a [(.c TI q.1),(.c (.sl Qc) q.2)])])) :=
 Hold.of (by kernel_rfl) h
theorem QnX (q:Qe) (hp:QF (α:=Qe) q):TCon Try.prog 125 [(.a [(.c TI q.1),(.c (.sl Qc) q.2)])] (Yd (id (α:=Qe) q)):=by
 refine Qr rfl fun hb=>tcg (Γ:=QaJ) (n:=34) (sg:=QbG.sg) Qq TOkL.nil (by kernel_rfl) (by kernel_rfl) (Qjs _ q ?_)
 have hl_q_1:(q.2).length≤9223372036854775807:=hb.1.2.1.1
 unfold QF at hp
 simp only [QB,QD] at hp
 refine Qfa (l:=q.2) (Q:=fun z=>Yd (q.1,z)=Yd (id (α:=Qe) q)) (by omega) (fun k x v hk hl hg hv hx ih=>?_) (fun hq=>?_) (R_eq rfl)
 ·refine Qh9 (fun r'=>r'=Yd (id (α:=Qe) q)) q _ _ ⟨fun _=>?_,fun h=>by simp at h;omega⟩
  simp only [QB,QD] at hx
  rw [Int.toNat_natCast,hg,sc1 (by omega),QgD,Qj0]
  have:=Qa3 x.2
  exact ⟨⟨⟨by omega,hk⟩,⟨by omega,hk⟩,⟨.inl rfl,by rw [JT];omega⟩,room (by omega)⟩,ih⟩
 ·refine Qh9 (fun r'=>r'=Yd (id (α:=Qe) q)) q _ _ ⟨fun h=>by simp at h,fun _=>?_⟩
  rw [List.take_length];exact hq
theorem Qlu:Qn Try.prog QbG:=Qs fun x h=>QnX x.1 h
def J1 (t:Qe × Qb × Bool):TRes:=⟨(.tp [(.a [(zci t.1.1),(.r Qc 0 0 ((t.1.2).length))]),(.a [(zci t.2.1.1),(.r [TI] 1 0 ((t.2.1.2).length))]),(zcb t.2.2)]),[(.sl 0 Qc (.dp 0 false []) t.1.2),(.sl 0 [TI] (.dp 0 false []) t.2.1.2)],[],false,[]⟩
def Qbi:TRow:=Qm 30 [(.a Qz)] fun x=>(some (QF (α:=Qe) x.1),J1 (Qo x.1))
def QeY:TTab:=⟨[Qdc,Qcp],true⟩
def Qis:TCode :=
 (zsq [(.reg [zop 1 (.box 36 0 2),zop 2 (.new 36 (z0s Qz)),zop 3 (.new 39 (z0s Qc)),zmv 4 (zkb false)]),(.reg [zLd 7 1 2,zca 8 118 [7],zop 5 (.new 36 (z0s Qz)),zst 5 8 2]),(zsq [(.reg [zLd 9 1 2,zca 10 119 [9],zno 11 10,zmv 12 11,.grp 12 false [zfa 13 1 1,zld 14 13 1,zle 15 14,zbi 16 .eql 15 (zki 0)] 17 16]),(.cond 17 (zsq [(.reg [zLd 18 5 2,zop 19 (.build (z0s Qc) []),zst 2 18 2,zst 3 19 2,zmv 4 (zkb false)]),.ret]) .skip)]),(.reg [zfa 20 5 1,zld 21 20 1,zia 22 21 (zki 0) Qc,zLd 23 22 2,zop 6 (.new 39 (z0s Qc)),zst 6 23 2]),(.reg [zfa 24 5 1,zld 25 24 1,zop 26 (.slc 25 (some (zki 1)) none Qc),zfa 27 5 1,zst 27 26 1]),(.draw [zLd 28 5 2,zLd 29 6 2,zst 2 28 2,zst 3 29 2,zmv 4 (zkb true)] [(1,2)]),(.cv 3 1 .ret)])
def Qms:List (ARv × Md):=[(.l 2 2 true,.b [.d,.w]),(.l 3 2 true,.b [.d,.w]),(.t 4,.one .d)]
theorem Qjl (q:Qe) (h :
 ((QF (α:=Qe) q)∧(zif ((!(QR q))||(((q.2).length:Int)==(0:Int))) (K (J1 (((id (α:=Qe) q).1,(List.take (((id (α:=Qe) q).2).length) ((id (α:=Qe) q).2))),((0:Int),([]:List Int)),false))) ((((0:Int)≤(0:Int)∧Int.toNat (0:Int)<((id (α:=Qe) q).2).length)∧((0+(Int.toNat (0:Int)))<((id (α:=Qe) q).2).length))∧(((0:Int)≤(1:Int)∧(1:Int)≤((((id (α:=Qe) q).2).length:Nat):Int)∧((((id (α:=Qe) q).2).length:Nat):Int)≤((((id (α:=Qe) q).2).length:Nat):Int))∧(((0+(Int.toNat (0:Int)))<((id (α:=Qe) q).2).length)∧K (J1 (((id (α:=Qe) q).1,(List.take (Int.toNat ((((id (α:=Qe) q).2).length:Nat):Int)-Int.toNat (1:Int)) (List.drop (0+Int.toNat (1:Int)) ((id (α:=Qe) q).2)))),((gtd ((0,[]):Qb) ((id (α:=Qe) q).2) (0+(Int.toNat (0:Int)))).1,(List.take (((gtd ((0,[]):Qb) ((id (α:=Qe) q).2) (0+(Int.toNat (0:Int)))).2).length) ((gtd ((0,[]):Qb) ((id (α:=Qe) q).2) (0+(Int.toNat (0:Int)))).2))),true)))))))):Hold (tawp QeY (0+0) Qis (TQ 0 0 Qms K) (Qk [(.a [(.c TI q.1),(.c (.sl Qc) q.2)])])) :=
 Hold.of (by kernel_rfl) h
theorem QmV (q:Qe) (hp:QF (α:=Qe) q):TCon Try.prog 30 [(.a [(.c TI q.1),(.c (.sl Qc) q.2)])] (J1 (Qo q)):=by
 refine Qr rfl fun hb=>tcg (Γ:=QeY) (n:=30) (sg:=Qbi.sg) Qq (TOkL.cons QkI (TOkL.cons Qmc TOkL.nil)) (by kernel_rfl) (by kernel_rfl) (Qjl _ q ?_)
 have hl_q_1:(q.2).length≤9223372036854775807:=hb.1.2.1.1
 have hq:=hp
 unfold QF at hp
 simp only [QB,QD] at hp
 have h1:=Yx q.2
 have e:((!(QR q))||(((q.2).length:Int)==0)) = !(QR q&&decide (0<q.2.length)):=by
  rw [Bool.eq_iff_iff];simp
 rw [e]
 refine ⟨hq,fun h=>R_eq ?_,fun h=>?_⟩
 ·simp only [Bool.not_eq_true'] at h
  simp only [Qo,h];simp
 ·simp only [Bool.not_eq_false'] at h
  have h2:0<q.2.length:=by simp at h;exact h.2
  have h3:=Qap (Qck h2 (0,[]))
  have h4:=Qa3 (gtd (0,[]) q.2 0).2
  simp only [QB,QD] at h3
  have hM:(Qo q)=((q.1,q.2.tail),gtd (0,[]) q.2 0,true):=by simp only [Qo,h];simp
  simp only [id]
  exact ⟨⟨⟨by omega,by simpa using h2⟩,by simpa using h2⟩,⟨by omega,by omega,by omega⟩,by simpa using h2,R_eq (by rw [hM];simp [List.take_of_length_le])⟩
theorem Qld:Qn Try.prog Qbi:=Qs fun x h=>QmV x.1 h
def QaF (t:Qe × Qb × Bool):TRes:=zra (.tp [(.a [(zci t.1.1),(zcs Qc t.1.2)]),(.a [(zci t.2.1.1),(zcs [TI] t.2.1.2)]),(zcb t.2.2)])
def Qa9:TRow:=Qm 44 [(.a Qz)] fun x=>(some (QF (α:=Qe) x.1),QaF (Qo x.1))
def QgI:TTab:=⟨[QbG,QcR],false⟩
def QjS:TCode :=
 (zsq [(.reg [zop 1 (.box 36 0 2),zop 2 (.new 36 (z0s Qz)),zop 3 (.new 39 (z0s Qc)),zmv 4 (zkb false)]),(.reg [zLd 7 1 2,zca 8 125 [7],zop 5 (.new 36 (z0s Qz)),zst 5 8 2]),(zsq [(.reg [zLd 9 1 2,zca 10 29 [9],zno 11 10,zmv 12 11,.grp 12 false [zfa 13 1 1,zld 14 13 1,zle 15 14,zbi 16 .eql 15 (zki 0)] 17 16]),(.cond 17 (zsq [(.reg [zLd 18 5 2,zop 19 (.build (z0s Qc) []),zst 2 18 2,zst 3 19 2,zmv 4 (zkb false)]),.ret]) .skip)]),(.reg [zfa 20 1 1,zld 21 20 1,zia 22 21 (zki 0) Qc,zLd 23 22 2,zop 6 (.new 39 (z0s Qc)),zst 6 23 2]),(.reg [zfa 24 5 1,zld 25 24 1,zop 26 (.slc 25 (some (zki 1)) none Qc),zfa 27 5 1,zst 27 26 1]),(.draw [zLd 28 5 2,zfa 29 6 0,zld 30 29 1,zop 31 (.bsl 3 [TI] []),zfa 32 6 1,zld 33 32 1,zop 34 (.app 31 33 3 [TI]),zop 35 (.build (z0s Qc) [(0,1,30),(1,1,34)]),zst 2 28 2,zst 3 35 2,zmv 4 (zkb true)] [(0,3),(1,3),(2,3),(3,4),(3,5),(0,6),(1,6),(2,6),(1,8),(2,8)]),.ret])
def Qlk:List (ARv × Md):=[(.l 2 2 true,.b [.d,.d]),(.l 3 2 true,.b [.d,.d]),(.t 4,.one .d)]
theorem QkR (q:Qe) (h :
 ((QF (α:=Qe) q)∧(zif ((!(QR q))||(((q.2).length:Int)==(0:Int))) (K (QaF (((id (α:=Qe) q).1,(List.take (((id (α:=Qe) q).2).length) (List.drop 0 ((id (α:=Qe) q).2)))),((0:Int),[]),false))) (((0:Int)≤(0:Int)∧Int.toNat (0:Int)<(q.2).length)∧(((0:Int)≤(1:Int)∧(1:Int)≤((((id (α:=Qe) q).2).length:Nat):Int)∧((((id (α:=Qe) q).2).length:Nat):Int)≤((((id (α:=Qe) q).2).length:Nat):Int))∧(((0=0∨0+((gtd ((0,[]):Qb) q.2 (Int.toNat (0:Int))).2).length≤0)∧0+((gtd ((0,[]):Qb) q.2 (Int.toNat (0:Int))).2).length≤big)∧K (QaF (((id (α:=Qe) q).1,(List.take (Int.toNat ((((id (α:=Qe) q).2).length:Nat):Int)-Int.toNat (1:Int)) (List.drop (0+Int.toNat (1:Int)) ((id (α:=Qe) q).2)))),((gtd ((0,[]):Qb) q.2 (Int.toNat (0:Int))).1,(List.take (0+((gtd ((0,[]):Qb) q.2 (Int.toNat (0:Int))).2).length) (List.drop 0 ((gtd ((0,[]):Qb) q.2 (Int.toNat (0:Int))).2)))),true)))))))):Hold (tawp QgI (0+0) QjS (TQ 0 0 Qlk K) (Qk [(.a [(.c TI q.1),(.c (.sl Qc) q.2)])])) :=
 Hold.of (by kernel_rfl) h
theorem QlM (q:Qe) (hp:QF (α:=Qe) q):TCon Try.prog 44 [(.a [(.c TI q.1),(.c (.sl Qc) q.2)])] (QaF (Qo q)):=by
 refine Qr rfl fun hb=>tcg (Γ:=QgI) (n:=36) (sg:=Qa9.sg) Qq (TOkL.cons Qlu (TOkL.cons Qk2 TOkL.nil)) (by kernel_rfl) (by kernel_rfl) (QkR _ q ?_)
 have hl_q_1:(q.2).length≤9223372036854775807:=hb.1.2.1.1
 have hq:=hp
 unfold QF at hp
 simp only [QB,QD] at hp
 have h1:=Yx q.2
 have e:((!(QR q))||(((q.2).length:Int)==0)) = !(QR q&&decide (0<q.2.length)):=by
  rw [Bool.eq_iff_iff];simp
 rw [e]
 refine ⟨hq,fun h=>R_eq ?_,fun h=>?_⟩
 ·simp only [Bool.not_eq_true'] at h
  simp only [Qo,h];simp
 ·simp only [Bool.not_eq_false'] at h
  have h2:0<q.2.length:=by simp at h;exact h.2
  have h3:=Qap (Qck h2 (0,[]))
  have h4:=Qa3 (gtd (0,[]) q.2 0).2
  simp only [QB,QD] at h3
  have hM:(Qo q)=((q.1,q.2.tail),gtd (0,[]) q.2 0,true):=by simp only [Qo,h];simp
  simp only [id]
  exact ⟨⟨by omega,by simpa using h2⟩,⟨by omega,by omega,by omega⟩,⟨by simp,by rw [JT];simp;omega⟩,R_eq (by rw [hM];simp [List.take_of_length_le])⟩
theorem Qmy:Qn Try.prog Qa9:=Qs fun x h=>QlM x.1 h
end
end Go.Proofs.Ytephkbajoofeoaa.Am

