/- -/
import Derived.Test.YtjbdljkhbglnhaaGreatZGPF
import Derived.Test.YtjbdljkhbglnhaaGreatZGP2
import Derived.Test.YtjbdljkhbglnhaaGreatZGP1
import Derived.Test.YtjbdljkhbglnhaaGreatZGG9
namespace Go.Proofs.YtjbdljkhbglnhaaGreat.Am
open Go Go.RowKit Go.Proofs.YtjbdljkhbglnhaaGreat
set_option linter.all false
noncomputable section
variable (K:TRes→Prop)
def Qcz (t:Qm):TRes:=⟨(.a [(zci t.1),(.r Zf 0 0 ((t.2).length))]),[(.sl 114 Zf true t.2)],[],true,[]⟩
def Qeq:TRow:=Qi 157 [(.a QI)] fun x=>(some (QJ (α:=Qm) x.1),Qcz (id (α:=Qm) x.1))
def QkG:List TRow:=[Qab]
def QvB:TCode :=
 (zsq [(.reg [zbi 13 .lss 12 11]),(.cond 13 .skip (.exit 0)),(.block 1 (zsq [(.reg [zia 14 10 12 Zf,zLd 15 14 2,zop 5 (.new 114 (z0s Zf)),zst 5 15 2]),(.draw [zfa 16 3 1,zld 17 16 1,zfa 18 5 0,zld 19 18 1,zfa 20 5 1,zld 21 20 1,zca 22 119 [21],zop 23 (.build (z0s Zf) [(0,1,19),(1,1,22)]),zop 24 (.bsl 114 Zf [23]),zop 25 (.app 17 24 114 Zf),zfa 26 3 1,zst 26 25 1] [(0,6),(1,6),(2,6),(3,6),(0,8),(1,8)])])),(.reg [zbi 27 .add 12 (zki 1),zmv 12 27])])
def QqH:List (Nat × Md):=[(2,.b [.d,.d]),(3,.b [.d,.o 114]),(10,.one .d),(11,.one .d),(12,.one .d)]
def Qu2:TCode :=
 (zsq [(.reg [zLd 28 3 2,zst 2 28 2]),.ret])
def QN3:TCode :=
 (zsq [(.reg [zop 1 (.box 97 0 2),zop 2 (.new 97 (z0s QI))]),(.reg [zfa 6 1 0,zld 7 6 1,zop 8 (.build (z0s QI) [(0,1,7)]),zop 3 (.new 97 (z0s QI)),zst 3 8 2]),(zsq [(.reg [zfa 9 1 1,zld 10 9 1,zle 11 10,zmv 12 (zki 0)]),(.block 0 (.loop QqH QvB))]),Qu2])
def QtM:List (ARv × Md):=[(.l 2 2 true,.b [.d,.o 114])]
def QxT:Qb:=TQ 0 0 QtM K
def QKV:Qb:=Qseq (tawp QkG 0 Qu2 (QxT K)) (QxT K)
def QP7:Qb:=Qblk 0 (QKV K)
def Qm7 (q:Qm) (x:Int) (r1:List Z1):Prop:=Loop QkG 0 QqH QvB (QP7 K) ⟨[(2,(.p 0 0 0)),(3,(.p 2 0 0)),(10,(zcs Zf q.2)),(11,(zci ((q.2).length:Int))),(12,(zci x))],[(0,(.box [(zci 0),(zcs Zf ([]))])),(1,(.sl 114 Zf true r1)),(2,(.box [(zci q.1),(.r Zf 1 0 r1.length)]))],3⟩
theorem QyJ (q:Qm) (x:Int) (r1:List Z1) (h :
 (zif (decide (x<((q.2).length:Int))) (((0:Int)≤x∧Int.toNat x<(q.2).length)∧(((QJ (α:=List Int) ((gtd ((0,[]):Z1) q.2 (Int.toNat x)).2))∧((r1.length=r1.length∨r1.length+1≤r1.length)∧r1.length+1≤big))∧(Qm7 K q (w64 (x+(1:Int))) (List.take (r1.length+1) ((List.take r1.length r1)++([((gtd ((0,[]):Z1) q.2 (Int.toNat x)).1,(List.take ((id (α:=List Int) ((gtd ((0,[]):Z1) q.2 (Int.toNat x)).2)).length) (List.drop 0 (id (α:=List Int) ((gtd ((0,[]):Z1) q.2 (Int.toNat x)).2)))))])))))) (K (Qcz (q.1,(List.take r1.length r1)))))):Qm7 K q x r1 :=
 Loop.of (by kernel_rfl) h
theorem QEq (q:Qm) (h :
 (Qm7 K q 0 ([]:List Z1))):Hold (tawp QkG (0+0) QN3 (TQ 0 0 QtM K) (Qf [(.a [(.c TI q.1),(.c (.sl Zf) q.2)])])) :=
 Hold.of (by kernel_rfl) h
theorem QzI (q:Qm) (hp:QJ (α:=Qm) q):TCon Tryz.prog 157 [(.a [(.c TI q.1),(.c (.sl Zf) q.2)])] (Qcz (id (α:=Qm) q)):=by
 refine Qr rfl fun hb=>tcg (n:=29) (sg:=Qeq.sg) Qk (TOk.cons QaX TOk.nil) (by kernel_rfl) (by kernel_rfl) (QEq _ q ?_)
 have hl_q_1:(q.2).length≤9223372036854775807:=hb.1.2.1.1
 unfold QJ at hp
 simp only [YA,Yd] at hp
 refine Qbs (l:=q.2) (Q:=fun z=>Qcz (q.1,z)=Qcz (id (α:=Qm) q)) (by omega) (fun k x v hk hl hg hv hx ih=>?_) (fun hq=>?_) (R_eq rfl)
 ·refine QyJ (fun r'=>r'=Qcz (id (α:=Qm) q)) q _ _ ⟨fun _=>?_,fun h=>by simp at h;omega⟩
  simp only [YA,Yd] at hx
  rw [Int.toNat_natCast,hg,sc1 (by omega),Zx,QdZ]
  exact ⟨⟨by omega,hk⟩,⟨(show Sz.sz (_:List Int)≤2147483648 by omega),room (by omega)⟩,ih⟩
 ·refine QyJ (fun r'=>r'=Qcz (id (α:=Qm) q)) q _ _ ⟨fun h=>by simp at h,fun _=>?_⟩
  rw [List.take_length];exact hq
theorem Qjo:Qj Tryz.prog Qeq:=Ql fun x h=>QzI x.1 h
def QfW (t:Qm × Bool):TRes:=⟨(.tp [(.a [(zci t.1.1),(.r Zf 0 0 ((t.1.2).length))]),(zcb t.2)]),[(.sl 114 Zf true t.1.2)],[],true,[]⟩
def QiX:TRow:=Qi 98 [(.a QI),(.a Zf)] fun x=>(some (JS (α:=Qm) (β:=Z1) x.1 x.2.1),QfW (Y2 x.1 x.2.1))
def QGl:List TRow:=[Qeq,QeD,Qhw,Qab]
def QGP:TCode :=
 (zsq [(.reg [zop 2 (.box 97 0 2),zop 3 (.box 114 1 2),zop 4 (.new 97 (z0s QI)),zmv 5 (zkb false)]),(.reg [zLd 7 2 2,zca 8 157 [7],zop 6 (.new 97 (z0s QI)),zst 6 8 2]),(zsq [(.reg [zLd 9 2 2,zca 10 135 [9],zno 11 10,zmv 12 11,.grp 12 false [zLd 13 3 2,zca 14 178 [13],zno 15 14] 16 15,zmv 17 16,.grp 17 false [zfa 18 2 1,zld 19 18 1,zle 20 19,zfa 21 2 0,zld 22 21 1,zbi 23 .eql 20 22] 24 23]),(.cond 24 (zsq [(.reg [zLd 25 6 2,zst 4 25 2,zmv 5 (zkb false)]),.ret]) .skip)]),(.draw [zfa 26 6 1,zld 27 26 1,zfa 28 3 0,zld 29 28 1,zfa 30 3 1,zld 31 30 1,zca 32 119 [31],zop 33 (.build (z0s Zf) [(0,1,29),(1,1,32)]),zop 34 (.bsl 114 Zf [33]),zop 35 (.app 27 34 114 Zf),zfa 36 6 1,zst 36 35 1] [(0,6),(1,6),(2,6),(3,6),(0,8),(1,8)]),(.reg [zLd 37 6 2,zst 4 37 2,zmv 5 (zkb true)]),.ret])
def QHX:List (ARv × Md):=[(.l 4 2 true,.b [.d,.o 114]),(.t 5,.one .d)]
theorem QBG (q:Qm) (x:Z1) (h :
 ((QJ (α:=Qm) q)∧(zif (((!(Q2 q))||(!(YD x)))||(((q.2).length:Int)==q.1)) (K (QfW (((id (α:=Qm) q).1,(List.take (((id (α:=Qm) q).2).length) ((id (α:=Qm) q).2))),false))) (((QJ (α:=List Int) x.2)∧((((id (α:=Qm) q).2).length=((id (α:=Qm) q).2).length∨((id (α:=Qm) q).2).length+1≤((id (α:=Qm) q).2).length)∧((id (α:=Qm) q).2).length+1≤big))∧K (QfW (((id (α:=Qm) q).1,(List.take (((id (α:=Qm) q).2).length+1) ((List.take (((id (α:=Qm) q).2).length) ((id (α:=Qm) q).2))++([(x.1,(List.take ((id (α:=List Int) x.2).length) (List.drop 0 (id (α:=List Int) x.2))))])))),true)))))):Hold (tawp QGl (0+0) QGP (TQ 0 0 QHX K) (Qf [(.a [(.c TI q.1),(.c (.sl Zf) q.2)]),(.a [(.c TI x.1),(.c (.sl [TI]) x.2)])])) :=
 Hold.of (by kernel_rfl) h
theorem QLu (q:Qm) (x:Z1) (hp:JS (α:=Qm) (β:=Z1) q x):TCon Tryz.prog 98 [(.a [(.c TI q.1),(.c (.sl Zf) q.2)]),(.a [(.c TI x.1),(.c (.sl [TI]) x.2)])] (QfW (Y2 q x)):=by
 refine Qr rfl fun hb=>tcg (n:=38) (sg:=QiX.sg) Qk (TOk.cons Qjo (TOk.cons QmY (TOk.cons Qxb (TOk.cons QaX TOk.nil)))) (by kernel_rfl) (by kernel_rfl) (QBG _ q x ?_)
 have hl_q_1:(q.2).length≤9223372036854775807:=hb.1.2.1.1
 have hl_x_1:(x.2).length≤9223372036854775807:=hb.2.1.2.1.1
 unfold JS at hp
 have hq:QJ q:=by unfold QJ;omega
 simp only [YA,Yd] at hp
 have h1:=Qad q.2
 have h2:=Jc x.2
 have e:((((!(Q2 q))||(!(YD x)))||(((q.2).length:Int)==q.1))) = !(Q2 q&&YD x&&decide ((q.2.length:Int)<q.1)):=by
  cases hk:Q2 q
  ·rfl
  ·have:(q.2.length:Int)≤q.1:=by
    simp only [Q2,Bool.and_eq_true,decide_eq_true_eq] at hk
    exact hk.1.2
   cases YD x
   ·rfl
   ·rw [Bool.eq_iff_iff];simp;omega
 rw [e]
 refine ⟨hq,fun h=>R_eq ?_,fun h=>⟨⟨(show Sz.sz (_:List Int)≤2147483648 by omega),⟨.inl rfl,by rw [Zw];simp only [id];omega⟩⟩,R_eq ?_⟩⟩
 ·simp only [Bool.not_eq_true'] at h
  simp [Y2,h]
 ·simp only [Bool.not_eq_false'] at h
  simp [Y2,h,List.take_of_length_le]
theorem QPv:Qj Tryz.prog QiX:=Ql fun x h=>QLu x.1 x.2.1 h
def QgE (t:Qm × Z1 × Bool):TRes:=zra (.tp [(.a [(zci t.1.1),(zcs Zf t.1.2)]),(.a [(zci t.2.1.1),(zcs [TI] t.2.1.2)]),(zcb t.2.2)])
def QmM:TRow:=Qi 97 [(.a QI)] fun x=>(some (QJ (α:=Qm) x.1),QgE (ZH x.1))
def QBI:List TRow:=[Qeq,QeD]
def QDh:TCode :=
 (zsq [(.reg [zop 1 (.box 97 0 2),zop 2 (.new 97 (z0s QI)),zop 3 (.new 114 (z0s Zf)),zmv 4 (zkb false)]),(.reg [zLd 7 1 2,zca 8 157 [7],zop 5 (.new 97 (z0s QI)),zst 5 8 2]),(zsq [(.reg [zLd 9 1 2,zca 10 135 [9],zno 11 10,zmv 12 11,.grp 12 false [zfa 13 1 1,zld 14 13 1,zle 15 14,zbi 16 .eql 15 (zki 0)] 17 16]),(.cond 17 (zsq [(.reg [zLd 18 5 2,zop 19 (.build (z0s Zf) []),zst 2 18 2,zst 3 19 2,zmv 4 (zkb false)]),.ret]) .skip)]),(.reg [zfa 20 5 1,zld 21 20 1,zia 22 21 (zki 0) Zf,zLd 23 22 2,zop 6 (.new 114 (z0s Zf)),zst 6 23 2]),(.reg [zfa 24 5 1,zld 25 24 1,zop 26 (.slc 25 (some (zki 1)) none Zf),zfa 27 5 1,zst 27 26 1]),(.draw [zLd 28 5 2,zLd 29 6 2,zst 2 28 2,zst 3 29 2,zmv 4 (zkb true)] [(1,2)]),.ret])
def QI4:List (ARv × Md):=[(.l 2 2 true,.b [.d,.d]),(.l 3 2 true,.b [.d,.d]),(.t 4,.one .d)]
theorem QGu (q:Qm) (h :
 ((QJ (α:=Qm) q)∧(zif ((!(Q2 q))||(((q.2).length:Int)==(0:Int))) (K (QgE (((id (α:=Qm) q).1,(List.take (((id (α:=Qm) q).2).length) (List.drop 0 ((id (α:=Qm) q).2)))),((0:Int),[]),false))) ((((0:Int)≤(0:Int)∧Int.toNat (0:Int)<((id (α:=Qm) q).2).length)∧((0+(Int.toNat (0:Int)))<((id (α:=Qm) q).2).length))∧(((0:Int)≤(1:Int)∧(1:Int)≤((((id (α:=Qm) q).2).length:Nat):Int)∧((((id (α:=Qm) q).2).length:Nat):Int)≤((((id (α:=Qm) q).2).length:Nat):Int))∧K (QgE (((id (α:=Qm) q).1,(List.take (Int.toNat ((((id (α:=Qm) q).2).length:Nat):Int)-Int.toNat (1:Int)) (List.drop (0+Int.toNat (1:Int)) ((id (α:=Qm) q).2)))),(gtd ((0,[]):Z1) ((id (α:=Qm) q).2) (0+(Int.toNat (0:Int)))),true))))))):Hold (tawp QBI (0+0) QDh (TQ 0 0 QI4 K) (Qf [(.a [(.c TI q.1),(.c (.sl Zf) q.2)])])) :=
 Hold.of (by kernel_rfl) h
theorem QPQ (q:Qm) (hp:QJ (α:=Qm) q):TCon Tryz.prog 97 [(.a [(.c TI q.1),(.c (.sl Zf) q.2)])] (QgE (ZH q)):=by
 refine Qr rfl fun hb=>tcg (n:=30) (sg:=QmM.sg) Qk (TOk.cons Qjo (TOk.cons QmY TOk.nil)) (by kernel_rfl) (by kernel_rfl) (QGu _ q ?_)
 have hl_q_1:(q.2).length≤9223372036854775807:=hb.1.2.1.1
 have hq:=hp
 unfold QJ at hp
 simp only [YA,Yd] at hp
 have h1:=Qad q.2
 have e:((!(Q2 q))||(((q.2).length:Int)==0)) = !(Q2 q&&decide (0<q.2.length)):=by
  rw [Bool.eq_iff_iff];simp
 rw [e]
 refine ⟨hq,fun h=>R_eq ?_,fun h=>?_⟩
 ·simp only [Bool.not_eq_true'] at h
  simp only [ZH,h];simp
 ·simp only [Bool.not_eq_false'] at h
  have h2:0<q.2.length:=by simp at h;exact h.2
  have h3:=QmC (Jt h2 (0,[]))
  have h4:=Jc (gtd (0,[]) q.2 0).2
  simp only [YA,Yd] at h3
  have hM:(ZH q)=((q.1,q.2.tail),gtd (0,[]) q.2 0,true):=by simp only [ZH,h];simp
  simp only [id]
  exact ⟨⟨⟨by omega,by simpa using h2⟩,by simpa using h2⟩,⟨by omega,by omega,by omega⟩,R_eq (by rw [hM];simp [List.take_of_length_le])⟩
theorem QNH:Qj Tryz.prog QmM:=Ql fun x h=>QPQ x.1 h
end
end Go.Proofs.YtjbdljkhbglnhaaGreat.Am

