/- -/
import Derived.Test.YtjbdljkhbglnhaaGreatZBPF
import Derived.Test.YtjbdljkhbglnhaaGreatZBP2
import Derived.Test.YtjbdljkhbglnhaaGreatZBP1
import Derived.Test.YtjbdljkhbglnhaaGreatZBG9
namespace Go.Proofs.YtjbdljkhbglnhaaGreat.Am
open Go Go.RowKit Go.Proofs.YtjbdljkhbglnhaaGreat
set_option linter.all false
noncomputable section
variable (K:TRes→Prop)
def Qcu (t:Qd):TRes:=⟨(.a [(zci t.1),(.r Zf 0 0 ((t.2).length))]),[(.sl 114 Zf true t.2)],[],true,[]⟩
def QeC:TRow:=Qi 157 [(.a Qx)] fun x=>(some (QC (α:=Qd) x.1),Qcu (id (α:=Qd) x.1))
def Qle:List TRow:=[Qal]
def Qpi:TCode :=
 (zsq [(.reg [zbi 13 .lss 12 11]),(.cond 13 .skip (.exit 0)),(.block 1 (zsq [(.reg [zia 14 10 12 Zf,zLd 15 14 2,zop 5 (.new 114 (z0s Zf)),zst 5 15 2]),(.draw [zfa 16 3 1,zld 17 16 1,zfa 18 5 0,zld 19 18 1,zfa 20 5 1,zld 21 20 1,zca 22 119 [21],zop 23 (.build (z0s Zf) [(0,1,19),(1,1,22)]),zop 24 (.bsl 114 Zf [23]),zop 25 (.app 17 24 114 Zf),zfa 26 3 1,zst 26 25 1] [(0,6),(1,6),(2,6),(3,6),(0,8),(1,8)])])),(.reg [zbi 27 .add 12 (zki 1),zmv 12 27])])
def Que:List (Nat × Md):=[(2,.b [.d,.d]),(3,.b [.d,.o 114]),(10,.one .d),(11,.one .d),(12,.one .d)]
def Qo8:TCode :=
 (zsq [(.reg [zLd 28 3 2,zst 2 28 2]),.ret])
def QFO:TCode :=
 (zsq [(.reg [zop 1 (.box 97 0 2),zop 2 (.new 97 (z0s Qx))]),(.reg [zfa 6 1 0,zld 7 6 1,zop 8 (.build (z0s Qx) [(0,1,7)]),zop 3 (.new 97 (z0s Qx)),zst 3 8 2]),(zsq [(.reg [zfa 9 1 1,zld 10 9 1,zle 11 10,zmv 12 (zki 0)]),(.block 0 (.loop Que Qpi))]),Qo8])
def QxA:List (ARv × Md):=[(.l 2 2 true,.b [.d,.o 114])]
def Qxw:Qb:=TQ 0 0 QxA K
def QG9:Qb:=Qseq (tawp Qle 0 Qo8 (Qxw K)) (Qxw K)
def QCh:Qb:=Qblk 0 (QG9 K)
def Qkv (q:Qd) (x:Int) (r1:List Ya):Prop:=Loop Qle 0 Que Qpi (QCh K) ⟨[(2,(.p 0 0 0)),(3,(.p 2 0 0)),(10,(zcs Zf q.2)),(11,(zci ((q.2).length:Int))),(12,(zci x))],[(0,(.box [(zci 0),(zcs Zf ([]))])),(1,(.sl 114 Zf true r1)),(2,(.box [(zci q.1),(.r Zf 1 0 r1.length)]))],3⟩
theorem QuI (q:Qd) (x:Int) (r1:List Ya) (h :
 (zif (decide (x<((q.2).length:Int))) (((0:Int)≤x∧Int.toNat x<(q.2).length)∧(((QC (α:=List Int) ((gtd ((0,[]):Ya) q.2 (Int.toNat x)).2))∧((r1.length=r1.length∨r1.length+1≤r1.length)∧r1.length+1≤big))∧(Qkv K q (w64 (x+(1:Int))) (List.take (r1.length+1) ((List.take r1.length r1)++([((gtd ((0,[]):Ya) q.2 (Int.toNat x)).1,(List.take ((id (α:=List Int) ((gtd ((0,[]):Ya) q.2 (Int.toNat x)).2)).length) (List.drop 0 (id (α:=List Int) ((gtd ((0,[]):Ya) q.2 (Int.toNat x)).2)))))])))))) (K (Qcu (q.1,(List.take r1.length r1)))))):Qkv K q x r1 :=
 Loop.of (by kernel_rfl) h
theorem QAO (q:Qd) (h :
 (Qkv K q 0 ([]:List Ya))):Hold (tawp Qle (0+0) QFO (TQ 0 0 QxA K) (Qf [(.a [(.c TI q.1),(.c (.sl Zf) q.2)])])) :=
 Hold.of (by kernel_rfl) h
theorem QJ9 (q:Qd) (hp:QC (α:=Qd) q):TCon Tryz.prog 157 [(.a [(.c TI q.1),(.c (.sl Zf) q.2)])] (Qcu (id (α:=Qd) q)):=by
 refine Qr rfl fun hb=>tcg (n:=29) (sg:=QeC.sg) Qk (TOk.cons Qa7 TOk.nil) (by kernel_rfl) (by kernel_rfl) (QAO _ q ?_)
 have hl_q_1:(q.2).length≤9223372036854775807:=hb.1.2.1.1
 unfold QC at hp
 simp only [Yx,Yi] at hp
 refine QbX (l:=q.2) (Q:=fun z=>Qcu (q.1,z)=Qcu (id (α:=Qd) q)) (by omega) (fun k x v hk hl hg hv hx ih=>?_) (fun hq=>?_) (R_eq rfl)
 ·refine QuI (fun r'=>r'=Qcu (id (α:=Qd) q)) q _ _ ⟨fun _=>?_,fun h=>by simp at h;omega⟩
  simp only [Yx,Yi] at hx
  rw [Int.toNat_natCast,hg,sc1 (by omega),Zn,QdT]
  exact ⟨⟨by omega,hk⟩,⟨(show Sz.sz (_:List Int)≤2147483648 by omega),room (by omega)⟩,ih⟩
 ·refine QuI (fun r'=>r'=Qcu (id (α:=Qd) q)) q _ _ ⟨fun h=>by simp at h,fun _=>?_⟩
  rw [List.take_length];exact hq
theorem Qnx:Qj Tryz.prog QeC:=Qm fun x h=>QJ9 x.1 h
def Qis (t:Qd × Bool):TRes:=⟨(.tp [(.a [(zci t.1.1),(.r Zf 0 0 ((t.1.2).length))]),(zcb t.2)]),[(.sl 114 Zf true t.1.2)],[],true,[]⟩
def Qkg:TRow:=Qi 98 [(.a Qx),(.a Zf)] fun x=>(some (JO (α:=Qd) (β:=Ya) x.1 x.2.1),Qis (YW x.1 x.2.1))
def QOK:List TRow:=[QeC,Qe8,QfZ,Qal]
def QKC:TCode :=
 (zsq [(.reg [zop 2 (.box 97 0 2),zop 3 (.box 114 1 2),zop 4 (.new 97 (z0s Qx)),zmv 5 (zkb false)]),(.reg [zLd 7 2 2,zca 8 157 [7],zop 6 (.new 97 (z0s Qx)),zst 6 8 2]),(zsq [(.reg [zLd 9 2 2,zca 10 135 [9],zno 11 10,zmv 12 11,.grp 12 false [zLd 13 3 2,zca 14 178 [13],zno 15 14] 16 15,zmv 17 16,.grp 17 false [zfa 18 2 1,zld 19 18 1,zle 20 19,zfa 21 2 0,zld 22 21 1,zbi 23 .eql 20 22] 24 23]),(.cond 24 (zsq [(.reg [zLd 25 6 2,zst 4 25 2,zmv 5 (zkb false)]),.ret]) .skip)]),(.draw [zfa 26 6 1,zld 27 26 1,zfa 28 3 0,zld 29 28 1,zfa 30 3 1,zld 31 30 1,zca 32 119 [31],zop 33 (.build (z0s Zf) [(0,1,29),(1,1,32)]),zop 34 (.bsl 114 Zf [33]),zop 35 (.app 27 34 114 Zf),zfa 36 6 1,zst 36 35 1] [(0,6),(1,6),(2,6),(3,6),(0,8),(1,8)]),(.reg [zLd 37 6 2,zst 4 37 2,zmv 5 (zkb true)]),.ret])
def QHL:List (ARv × Md):=[(.l 4 2 true,.b [.d,.o 114]),(.t 5,.one .d)]
theorem QH3 (q:Qd) (x:Ya) (h :
 ((QC (α:=Qd) q)∧(zif (((!(Zr q))||(!(YX x)))||(((q.2).length:Int)==q.1)) (K (Qis (((id (α:=Qd) q).1,(List.take (((id (α:=Qd) q).2).length) ((id (α:=Qd) q).2))),false))) (((QC (α:=List Int) x.2)∧((((id (α:=Qd) q).2).length=((id (α:=Qd) q).2).length∨((id (α:=Qd) q).2).length+1≤((id (α:=Qd) q).2).length)∧((id (α:=Qd) q).2).length+1≤big))∧K (Qis (((id (α:=Qd) q).1,(List.take (((id (α:=Qd) q).2).length+1) ((List.take (((id (α:=Qd) q).2).length) ((id (α:=Qd) q).2))++([(x.1,(List.take ((id (α:=List Int) x.2).length) (List.drop 0 (id (α:=List Int) x.2))))])))),true)))))):Hold (tawp QOK (0+0) QKC (TQ 0 0 QHL K) (Qf [(.a [(.c TI q.1),(.c (.sl Zf) q.2)]),(.a [(.c TI x.1),(.c (.sl [TI]) x.2)])])) :=
 Hold.of (by kernel_rfl) h
theorem QO9 (q:Qd) (x:Ya) (hp:JO (α:=Qd) (β:=Ya) q x):TCon Tryz.prog 98 [(.a [(.c TI q.1),(.c (.sl Zf) q.2)]),(.a [(.c TI x.1),(.c (.sl [TI]) x.2)])] (Qis (YW q x)):=by
 refine Qr rfl fun hb=>tcg (n:=38) (sg:=Qkg.sg) Qk (TOk.cons Qnx (TOk.cons Qjn (TOk.cons QqD (TOk.cons Qa7 TOk.nil)))) (by kernel_rfl) (by kernel_rfl) (QH3 _ q x ?_)
 have hl_q_1:(q.2).length≤9223372036854775807:=hb.1.2.1.1
 have hl_x_1:(x.2).length≤9223372036854775807:=hb.2.1.2.1.1
 unfold JO at hp
 have hq:QC q:=by unfold QC;omega
 simp only [Yx,Yi] at hp
 have h1:=QaS q.2
 have h2:=Jb x.2
 have e:((((!(Zr q))||(!(YX x)))||(((q.2).length:Int)==q.1))) = !(Zr q&&YX x&&decide ((q.2.length:Int)<q.1)):=by
  cases hk:Zr q
  ·rfl
  ·have:(q.2.length:Int)≤q.1:=by
    simp only [Zr,Bool.and_eq_true,decide_eq_true_eq] at hk
    exact hk.1.2
   cases YX x
   ·rfl
   ·rw [Bool.eq_iff_iff];simp;omega
 rw [e]
 refine ⟨hq,fun h=>R_eq ?_,fun h=>⟨⟨(show Sz.sz (_:List Int)≤2147483648 by omega),⟨.inl rfl,by rw [Zv];simp only [id];omega⟩⟩,R_eq ?_⟩⟩
 ·simp only [Bool.not_eq_true'] at h
  simp [YW,h]
 ·simp only [Bool.not_eq_false'] at h
  simp [YW,h,List.take_of_length_le]
theorem QDC:Qj Tryz.prog Qkg:=Qm fun x h=>QO9 x.1 x.2.1 h
def Qgq (t:Qd × Ya × Bool):TRes:=zra (.tp [(.a [(zci t.1.1),(zcs Zf t.1.2)]),(.a [(zci t.2.1.1),(zcs [TI] t.2.1.2)]),(zcb t.2.2)])
def QlP:TRow:=Qi 97 [(.a Qx)] fun x=>(some (QC (α:=Qd) x.1),Qgq (ZB x.1))
def QMf:List TRow:=[QeC,Qe8]
def QJ3:TCode :=
 (zsq [(.reg [zop 1 (.box 97 0 2),zop 2 (.new 97 (z0s Qx)),zop 3 (.new 114 (z0s Zf)),zmv 4 (zkb false)]),(.reg [zLd 7 1 2,zca 8 157 [7],zop 5 (.new 97 (z0s Qx)),zst 5 8 2]),(zsq [(.reg [zLd 9 1 2,zca 10 135 [9],zno 11 10,zmv 12 11,.grp 12 false [zfa 13 1 1,zld 14 13 1,zle 15 14,zbi 16 .eql 15 (zki 0)] 17 16]),(.cond 17 (zsq [(.reg [zLd 18 5 2,zop 19 (.build (z0s Zf) []),zst 2 18 2,zst 3 19 2,zmv 4 (zkb false)]),.ret]) .skip)]),(.reg [zfa 20 5 1,zld 21 20 1,zia 22 21 (zki 0) Zf,zLd 23 22 2,zop 6 (.new 114 (z0s Zf)),zst 6 23 2]),(.reg [zfa 24 5 1,zld 25 24 1,zop 26 (.slc 25 (some (zki 1)) none Zf),zfa 27 5 1,zst 27 26 1]),(.draw [zLd 28 5 2,zLd 29 6 2,zst 2 28 2,zst 3 29 2,zmv 4 (zkb true)] [(1,2)]),.ret])
def QAp:List (ARv × Md):=[(.l 2 2 true,.b [.d,.d]),(.l 3 2 true,.b [.d,.d]),(.t 4,.one .d)]
theorem QLx (q:Qd) (h :
 ((QC (α:=Qd) q)∧(zif ((!(Zr q))||(((q.2).length:Int)==(0:Int))) (K (Qgq (((id (α:=Qd) q).1,(List.take (((id (α:=Qd) q).2).length) (List.drop 0 ((id (α:=Qd) q).2)))),((0:Int),[]),false))) ((((0:Int)≤(0:Int)∧Int.toNat (0:Int)<((id (α:=Qd) q).2).length)∧((0+(Int.toNat (0:Int)))<((id (α:=Qd) q).2).length))∧(((0:Int)≤(1:Int)∧(1:Int)≤((((id (α:=Qd) q).2).length:Nat):Int)∧((((id (α:=Qd) q).2).length:Nat):Int)≤((((id (α:=Qd) q).2).length:Nat):Int))∧K (Qgq (((id (α:=Qd) q).1,(List.take (Int.toNat ((((id (α:=Qd) q).2).length:Nat):Int)-Int.toNat (1:Int)) (List.drop (0+Int.toNat (1:Int)) ((id (α:=Qd) q).2)))),(gtd ((0,[]):Ya) ((id (α:=Qd) q).2) (0+(Int.toNat (0:Int)))),true))))))):Hold (tawp QMf (0+0) QJ3 (TQ 0 0 QAp K) (Qf [(.a [(.c TI q.1),(.c (.sl Zf) q.2)])])) :=
 Hold.of (by kernel_rfl) h
theorem QAx (q:Qd) (hp:QC (α:=Qd) q):TCon Tryz.prog 97 [(.a [(.c TI q.1),(.c (.sl Zf) q.2)])] (Qgq (ZB q)):=by
 refine Qr rfl fun hb=>tcg (n:=30) (sg:=QlP.sg) Qk (TOk.cons Qnx (TOk.cons Qjn TOk.nil)) (by kernel_rfl) (by kernel_rfl) (QLx _ q ?_)
 have hl_q_1:(q.2).length≤9223372036854775807:=hb.1.2.1.1
 have hq:=hp
 unfold QC at hp
 simp only [Yx,Yi] at hp
 have h1:=QaS q.2
 have e:((!(Zr q))||(((q.2).length:Int)==0)) = !(Zr q&&decide (0<q.2.length)):=by
  rw [Bool.eq_iff_iff];simp
 rw [e]
 refine ⟨hq,fun h=>R_eq ?_,fun h=>?_⟩
 ·simp only [Bool.not_eq_true'] at h
  simp only [ZB,h];simp
 ·simp only [Bool.not_eq_false'] at h
  have h2:0<q.2.length:=by simp at h;exact h.2
  have h3:=Qj4 (JH h2 (0,[]))
  have h4:=Jb (gtd (0,[]) q.2 0).2
  simp only [Yx,Yi] at h3
  have hM:(ZB q)=((q.1,q.2.tail),gtd (0,[]) q.2 0,true):=by simp only [ZB,h];simp
  simp only [id]
  exact ⟨⟨⟨by omega,by simpa using h2⟩,by simpa using h2⟩,⟨by omega,by omega,by omega⟩,R_eq (by rw [hM];simp [List.take_of_length_le])⟩
theorem QMe:Qj Tryz.prog QlP:=Qm fun x h=>QAx x.1 h
end
end Go.Proofs.YtjbdljkhbglnhaaGreat.Am

