/- -/
import Derived.Test.YtjbdljkhbglnhaaGreatZAPF
import Derived.Test.YtjbdljkhbglnhaaGreatZAP2
import Derived.Test.YtjbdljkhbglnhaaGreatZAP1
import Derived.Test.YtjbdljkhbglnhaaGreatZAG9
namespace Go.Proofs.YtjbdljkhbglnhaaGreat.Am
open Go Go.RowKit Go.Proofs.YtjbdljkhbglnhaaGreat
set_option linter.all false
noncomputable section
variable (K:TRes→Prop)
def Qc4 (t:Qe):TRes:=⟨(.a [(zci t.1),(.r QY 0 0 ((t.2).length))]),[(.sl 114 QY true t.2)],[],true,[]⟩
def Qet:TRow:=Qh 157 [(.a Qv)] fun x=>(some (QG (α:=Qe) x.1),Qc4 (id (α:=Qe) x.1))
def QmI:List TRow:=[Qak]
def QyH:TCode :=
 (zsq [(.reg [zbi 13 .lss 12 11]),(.cond 13 .skip (.exit 0)),(.block 1 (zsq [(.reg [zia 14 10 12 QY,zLd 15 14 2,zop 5 (.new 114 (z0s QY)),zst 5 15 2]),(.draw [zfa 16 3 1,zld 17 16 1,zfa 18 5 0,zld 19 18 1,zfa 20 5 1,zld 21 20 1,zca 22 119 [21],zop 23 (.build (z0s QY) [(0,1,19),(1,1,22)]),zop 24 (.bsl 114 QY [23]),zop 25 (.app 17 24 114 QY),zfa 26 3 1,zst 26 25 1] [(0,6),(1,6),(2,6),(3,6),(0,8),(1,8)])])),(.reg [zbi 27 .add 12 (zki 1),zmv 12 27])])
def QtS:List (Nat × Md):=[(2,.b [.d,.d]),(3,.b [.d,.o 114]),(10,.one .d),(11,.one .d),(12,.one .d)]
def Qsd:TCode :=
 (zsq [(.reg [zLd 28 3 2,zst 2 28 2]),.ret])
def QMZ:TCode :=
 (zsq [(.reg [zop 1 (.box 97 0 2),zop 2 (.new 97 (z0s Qv))]),(.reg [zfa 6 1 0,zld 7 6 1,zop 8 (.build (z0s Qv) [(0,1,7)]),zop 3 (.new 97 (z0s Qv)),zst 3 8 2]),(zsq [(.reg [zfa 9 1 1,zld 10 9 1,zle 11 10,zmv 12 (zki 0)]),(.block 0 (.loop QtS QyH))]),Qsd])
def Qsa:List (ARv × Md):=[(.l 2 2 true,.b [.d,.o 114])]
def QAf:Qb:=TQ 0 0 Qsa K
def QOc:Qb:=Qseq (tawp QmI 0 Qsd (QAf K)) (QAf K)
def QJD:Qb:=Qblk 0 (QOc K)
def Qm3 (q:Qe) (x:Int) (r1:List ZJ):Prop:=Loop QmI 0 QtS QyH (QJD K) ⟨[(2,(.p 0 0 0)),(3,(.p 2 0 0)),(10,(zcs QY q.2)),(11,(zci ((q.2).length:Int))),(12,(zci x))],[(0,(.box [(zci 0),(zcs QY ([]))])),(1,(.sl 114 QY true r1)),(2,(.box [(zci q.1),(.r QY 1 0 r1.length)]))],3⟩
theorem QrE (q:Qe) (x:Int) (r1:List ZJ) (h :
(zif (decide (x<((q.2).length:Int))) (((0:Int)≤x∧Int.toNat x<(q.2).length)∧(((QG (α:=List Int) ((gtd ((0,[]):ZJ) q.2 (Int.toNat x)).2))∧((r1.length=r1.length∨r1.length+1≤r1.length)∧r1.length+1≤big))∧(Qm3 K q (w64 (x+(1:Int))) (List.take (r1.length+1) ((List.take r1.length r1)++([((gtd ((0,[]):ZJ) q.2 (Int.toNat x)).1,(List.take ((id (α:=List Int) ((gtd ((0,[]):ZJ) q.2 (Int.toNat x)).2)).length) (List.drop 0 (id (α:=List Int) ((gtd ((0,[]):ZJ) q.2 (Int.toNat x)).2)))))])))))) (K (Qc4 (q.1,(List.take r1.length r1)))))):Qm3 K q x r1 :=
 Loop.of (by kernel_rfl) h
theorem QKt (q:Qe) (h :
(Qm3 K q 0 ([]:List ZJ))):Hold (tawp QmI (0+0) QMZ (TQ 0 0 Qsa K) (Qf [(.a [(.c TI q.1),(.c (.sl QY) q.2)])])) :=
 Hold.of (by kernel_rfl) h
theorem QMo (q:Qe) (hp:QG (α:=Qe) q):TCon Tryz.prog 157 [(.a [(.c TI q.1),(.c (.sl QY) q.2)])] (Qc4 (id (α:=Qe) q)):=by
 refine Qq rfl fun hb=>tcg (n:=29) (sg:=Qet.sg) Ql (TOk.cons Qa1 TOk.nil) (by kernel_rfl) (by kernel_rfl) (QKt _ q ?_)
 have hl_q_1:(q.2).length≤9223372036854775807:=hb.1.2.1.1
 unfold QG at hp
 simp only [YA,Yd] at hp
 refine Qb5 (l:=q.2) (Q:=fun z=>Qc4 (q.1,z)=Qc4 (id (α:=Qe) q)) (by omega) (fun k x v hk hl hg hv hx ih=>?_) (fun hq=>?_) (R_eq rfl)
 ·refine QrE (fun r'=>r'=Qc4 (id (α:=Qe) q)) q _ _ ⟨fun _=>?_,fun h=>by simp at h;omega⟩
  simp only [YA,Yd] at hx
  rw [Int.toNat_natCast,hg,sc1 (by omega),Zv,QdF]
  exact ⟨⟨by omega,hk⟩,⟨(show Sz.sz (_:List Int)≤2147483648 by omega),room (by omega)⟩,ih⟩
 ·refine QrE (fun r'=>r'=Qc4 (id (α:=Qe) q)) q _ _ ⟨fun h=>by simp at h,fun _=>?_⟩
  rw [List.take_length];exact hq
theorem QmT:Qi Tryz.prog Qet:=Qm fun x h=>QMo x.1 h
def QfW (t:Qe × Bool):TRes:=⟨(.tp [(.a [(zci t.1.1),(.r QY 0 0 ((t.1.2).length))]),(zcb t.2)]),[(.sl 114 QY true t.1.2)],[],true,[]⟩
def QmM:TRow:=Qh 98 [(.a Qv),(.a QY)] fun x=>(some (JU (α:=Qe) (β:=ZJ) x.1 x.2.1),QfW (YX x.1 x.2.1))
def QMx:List TRow:=[Qet,Qda,QfP,Qak]
def QIG:TCode :=
 (zsq [(.reg [zop 2 (.box 97 0 2),zop 3 (.box 114 1 2),zop 4 (.new 97 (z0s Qv)),zmv 5 (zkb false)]),(.reg [zLd 7 2 2,zca 8 157 [7],zop 6 (.new 97 (z0s Qv)),zst 6 8 2]),(zsq [(.reg [zLd 9 2 2,zca 10 135 [9],zno 11 10,zmv 12 11,.grp 12 false [zLd 13 3 2,zca 14 178 [13],zno 15 14] 16 15,zmv 17 16,.grp 17 false [zfa 18 2 1,zld 19 18 1,zle 20 19,zfa 21 2 0,zld 22 21 1,zbi 23 .eql 20 22] 24 23]),(.cond 24 (zsq [(.reg [zLd 25 6 2,zst 4 25 2,zmv 5 (zkb false)]),.ret]) .skip)]),(.draw [zfa 26 6 1,zld 27 26 1,zfa 28 3 0,zld 29 28 1,zfa 30 3 1,zld 31 30 1,zca 32 119 [31],zop 33 (.build (z0s QY) [(0,1,29),(1,1,32)]),zop 34 (.bsl 114 QY [33]),zop 35 (.app 27 34 114 QY),zfa 36 6 1,zst 36 35 1] [(0,6),(1,6),(2,6),(3,6),(0,8),(1,8)]),(.reg [zLd 37 6 2,zst 4 37 2,zmv 5 (zkb true)]),.ret])
def QC5:List (ARv × Md):=[(.l 4 2 true,.b [.d,.o 114]),(.t 5,.one .d)]
theorem QHk (q:Qe) (x:ZJ) (h :
((QG (α:=Qe) q)∧(zif (((!(Zj q))||(!(YC x)))||(((q.2).length:Int)==q.1)) (K (QfW (((id (α:=Qe) q).1,(List.take (((id (α:=Qe) q).2).length) ((id (α:=Qe) q).2))),false))) (((QG (α:=List Int) x.2)∧((((id (α:=Qe) q).2).length=((id (α:=Qe) q).2).length∨((id (α:=Qe) q).2).length+1≤((id (α:=Qe) q).2).length)∧((id (α:=Qe) q).2).length+1≤big))∧K (QfW (((id (α:=Qe) q).1,(List.take (((id (α:=Qe) q).2).length+1) ((List.take (((id (α:=Qe) q).2).length) ((id (α:=Qe) q).2))++([(x.1,(List.take ((id (α:=List Int) x.2).length) (List.drop 0 (id (α:=List Int) x.2))))])))),true)))))):Hold (tawp QMx (0+0) QIG (TQ 0 0 QC5 K) (Qf [(.a [(.c TI q.1),(.c (.sl QY) q.2)]),(.a [(.c TI x.1),(.c (.sl [TI]) x.2)])])) :=
 Hold.of (by kernel_rfl) h
theorem QEX (q:Qe) (x:ZJ) (hp:JU (α:=Qe) (β:=ZJ) q x):TCon Tryz.prog 98 [(.a [(.c TI q.1),(.c (.sl QY) q.2)]),(.a [(.c TI x.1),(.c (.sl [TI]) x.2)])] (QfW (YX q x)):=by
 refine Qq rfl fun hb=>tcg (n:=38) (sg:=QmM.sg) Ql (TOk.cons QmT (TOk.cons Qiu (TOk.cons QqX (TOk.cons Qa1 TOk.nil)))) (by kernel_rfl) (by kernel_rfl) (QHk _ q x ?_)
 have hl_q_1:(q.2).length≤9223372036854775807:=hb.1.2.1.1
 have hl_x_1:(x.2).length≤9223372036854775807:=hb.2.1.2.1.1
 unfold JU at hp
 have hq:QG q:=by unfold QG;omega
 simp only [YA,Yd] at hp
 have h1:=Qa3 q.2
 have h2:=Ja x.2
 have e:((((!(Zj q))||(!(YC x)))||(((q.2).length:Int)==q.1))) = !(Zj q&&YC x&&decide ((q.2.length:Int)<q.1)):=by
  cases hk:Zj q
  ·rfl
  ·have:(q.2.length:Int)≤q.1:=by
    simp only [Zj,Bool.and_eq_true,decide_eq_true_eq] at hk
    exact hk.1.2
   cases YC x
   ·rfl
   ·rw [Bool.eq_iff_iff];simp;omega
 rw [e]
 refine ⟨hq,fun h=>R_eq ?_,fun h=>⟨⟨(show Sz.sz (_:List Int)≤2147483648 by omega),⟨.inl rfl,by rw [Zx];simp only [id];omega⟩⟩,R_eq ?_⟩⟩
 ·simp only [Bool.not_eq_true'] at h
  simp [YX,h]
 ·simp only [Bool.not_eq_false'] at h
  simp [YX,h,List.take_of_length_le]
theorem QJE:Qi Tryz.prog QmM:=Qm fun x h=>QEX x.1 x.2.1 h
def QhK (t:Qe × ZJ × Bool):TRes:=zra (.tp [(.a [(zci t.1.1),(zcs QY t.1.2)]),(.a [(zci t.2.1.1),(zcs [TI] t.2.1.2)]),(zcb t.2.2)])
def Qk3:TRow:=Qh 97 [(.a Qv)] fun x=>(some (QG (α:=Qe) x.1),QhK (ZB x.1))
def QDB:List TRow:=[Qet,Qda]
def QKl:TCode :=
 (zsq [(.reg [zop 1 (.box 97 0 2),zop 2 (.new 97 (z0s Qv)),zop 3 (.new 114 (z0s QY)),zmv 4 (zkb false)]),(.reg [zLd 7 1 2,zca 8 157 [7],zop 5 (.new 97 (z0s Qv)),zst 5 8 2]),(zsq [(.reg [zLd 9 1 2,zca 10 135 [9],zno 11 10,zmv 12 11,.grp 12 false [zfa 13 1 1,zld 14 13 1,zle 15 14,zbi 16 .eql 15 (zki 0)] 17 16]),(.cond 17 (zsq [(.reg [zLd 18 5 2,zop 19 (.build (z0s QY) []),zst 2 18 2,zst 3 19 2,zmv 4 (zkb false)]),.ret]) .skip)]),(.reg [zfa 20 5 1,zld 21 20 1,zia 22 21 (zki 0) QY,zLd 23 22 2,zop 6 (.new 114 (z0s QY)),zst 6 23 2]),(.reg [zfa 24 5 1,zld 25 24 1,zop 26 (.slc 25 (some (zki 1)) none QY),zfa 27 5 1,zst 27 26 1]),(.draw [zLd 28 5 2,zLd 29 6 2,zst 2 28 2,zst 3 29 2,zmv 4 (zkb true)] [(1,2)]),.ret])
def QQY:List (ARv × Md):=[(.l 2 2 true,.b [.d,.d]),(.l 3 2 true,.b [.d,.d]),(.t 4,.one .d)]
theorem QA7 (q:Qe) (h :
((QG (α:=Qe) q)∧(zif ((!(Zj q))||(((q.2).length:Int)==(0:Int))) (K (QhK (((id (α:=Qe) q).1,(List.take (((id (α:=Qe) q).2).length) (List.drop 0 ((id (α:=Qe) q).2)))),((0:Int),[]),false))) ((((0:Int)≤(0:Int)∧Int.toNat (0:Int)<((id (α:=Qe) q).2).length)∧((0+(Int.toNat (0:Int)))<((id (α:=Qe) q).2).length))∧(((0:Int)≤(1:Int)∧(1:Int)≤((((id (α:=Qe) q).2).length:Nat):Int)∧((((id (α:=Qe) q).2).length:Nat):Int)≤((((id (α:=Qe) q).2).length:Nat):Int))∧K (QhK (((id (α:=Qe) q).1,(List.take (Int.toNat ((((id (α:=Qe) q).2).length:Nat):Int)-Int.toNat (1:Int)) (List.drop (0+Int.toNat (1:Int)) ((id (α:=Qe) q).2)))),(gtd ((0,[]):ZJ) ((id (α:=Qe) q).2) (0+(Int.toNat (0:Int)))),true))))))):Hold (tawp QDB (0+0) QKl (TQ 0 0 QQY K) (Qf [(.a [(.c TI q.1),(.c (.sl QY) q.2)])])) :=
 Hold.of (by kernel_rfl) h
theorem QCr (q:Qe) (hp:QG (α:=Qe) q):TCon Tryz.prog 97 [(.a [(.c TI q.1),(.c (.sl QY) q.2)])] (QhK (ZB q)):=by
 refine Qq rfl fun hb=>tcg (n:=30) (sg:=Qk3.sg) Ql (TOk.cons QmT (TOk.cons Qiu TOk.nil)) (by kernel_rfl) (by kernel_rfl) (QA7 _ q ?_)
 have hl_q_1:(q.2).length≤9223372036854775807:=hb.1.2.1.1
 have hq:=hp
 unfold QG at hp
 simp only [YA,Yd] at hp
 have h1:=Qa3 q.2
 have e:((!(Zj q))||(((q.2).length:Int)==0)) = !(Zj q&&decide (0<q.2.length)):=by
  rw [Bool.eq_iff_iff];simp
 rw [e]
 refine ⟨hq,fun h=>R_eq ?_,fun h=>?_⟩
 ·simp only [Bool.not_eq_true'] at h
  simp only [ZB,h];simp
 ·simp only [Bool.not_eq_false'] at h
  have h2:0<q.2.length:=by simp at h;exact h.2
  have h3:=Ql5 (JK h2 (0,[]))
  have h4:=Ja (gtd (0,[]) q.2 0).2
  simp only [YA,Yd] at h3
  have hM:(ZB q)=((q.1,q.2.tail),gtd (0,[]) q.2 0,true):=by simp only [ZB,h];simp
  simp only [id]
  exact ⟨⟨⟨by omega,by simpa using h2⟩,by simpa using h2⟩,⟨by omega,by omega,by omega⟩,R_eq (by rw [hM];simp [List.take_of_length_le])⟩
theorem QJ3:Qi Tryz.prog Qk3:=Qm fun x h=>QCr x.1 h
end
end Go.Proofs.YtjbdljkhbglnhaaGreat.Am

