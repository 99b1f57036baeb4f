/- -/
import Derived.Test.YtjbdljkhbglnhaaGreatZCPF
import Derived.Test.YtjbdljkhbglnhaaGreatZCP2
import Derived.Test.YtjbdljkhbglnhaaGreatZCP1
import Derived.Test.YtjbdljkhbglnhaaGreatZCG9
namespace Go.Proofs.YtjbdljkhbglnhaaGreat.Am
open Go Go.RowKit Go.Proofs.YtjbdljkhbglnhaaGreat
set_option linter.all false
noncomputable section
variable (K:TRes→Prop)
def QcW (t:Qn):TRes:=⟨(.a [(zci t.1),(.r Zx 0 0 ((t.2).length))]),[(.sl 114 Zx true t.2)],[],true,[]⟩
def Qge:TRow:=Qf 157 [(.a QP)] fun x=>(some (QJ (α:=Qn) x.1),QcW (id (α:=Qn) x.1))
def Qnz:List TRow:=[Qay]
def Qxi:TCode :=
 (zsq [(.reg [zbi 13 .lss 12 11]),(.cond 13 .skip (.exit 0)),(.block 1 (zsq [(.reg [zia 14 10 12 Zx,zLd 15 14 2,zop 5 (.new 114 (z0s Zx)),zst 5 15 2]),(.draw [zfa 16 3 1,zld 17 16 1,zfa 18 5 0,zld 19 18 1,zfa 20 5 1,zld 21 20 1,zca 22 119 [21],zop 23 (.build (z0s Zx) [(0,1,19),(1,1,22)]),zop 24 (.bsl 114 Zx [23]),zop 25 (.app 17 24 114 Zx),zfa 26 3 1,zst 26 25 1] [(0,6),(1,6),(2,6),(3,6),(0,8),(1,8)])])),(.reg [zbi 27 .add 12 (zki 1),zmv 12 27])])
def Qty:List (Nat × Md):=[(2,.b [.d,.d]),(3,.b [.d,.o 114]),(10,.one .d),(11,.one .d),(12,.one .d)]
def QxG:TCode :=
 (zsq [(.reg [zLd 28 3 2,zst 2 28 2]),.ret])
def QT7:TCode :=
 (zsq [(.reg [zop 1 (.box 97 0 2),zop 2 (.new 97 (z0s QP))]),(.reg [zfa 6 1 0,zld 7 6 1,zop 8 (.build (z0s QP) [(0,1,7)]),zop 3 (.new 97 (z0s QP)),zst 3 8 2]),(zsq [(.reg [zfa 9 1 1,zld 10 9 1,zle 11 10,zmv 12 (zki 0)]),(.block 0 (.loop Qty Qxi))]),QxG])
def QCz:List (ARv × Md):=[(.l 2 2 true,.b [.d,.o 114])]
def QuT:Qb:=TQ 0 0 QCz K
def QRw:Qb:=Qseq (tawp Qnz 0 QxG (QuT K)) (QuT K)
def QOe:Qb:=Qblk 0 (QRw K)
def Qo5 (q:Qn) (x:Int) (r1:List Yo):Prop:=Loop Qnz 0 Qty Qxi (QOe K) ⟨[(2,(.p 0 0 0)),(3,(.p 2 0 0)),(10,(zcs Zx q.2)),(11,(zci ((q.2).length:Int))),(12,(zci x))],[(0,(.box [(zci 0),(zcs Zx ([]))])),(1,(.sl 114 Zx true r1)),(2,(.box [(zci q.1),(.r Zx 1 0 r1.length)]))],3⟩
theorem Qw1 (q:Qn) (x:Int) (r1:List Yo) (h :
 (zif (decide (x<((q.2).length:Int))) (((0:Int)≤x∧Int.toNat x<(q.2).length)∧(((QJ (α:=List Int) ((gtd ((0,[]):Yo) q.2 (Int.toNat x)).2))∧((r1.length=r1.length∨r1.length+1≤r1.length)∧r1.length+1≤big))∧(Qo5 K q (w64 (x+(1:Int))) (List.take (r1.length+1) ((List.take r1.length r1)++([((gtd ((0,[]):Yo) q.2 (Int.toNat x)).1,(List.take ((id (α:=List Int) ((gtd ((0,[]):Yo) q.2 (Int.toNat x)).2)).length) (List.drop 0 (id (α:=List Int) ((gtd ((0,[]):Yo) q.2 (Int.toNat x)).2)))))])))))) (K (QcW (q.1,(List.take r1.length r1)))))):Qo5 K q x r1 :=
 Loop.of (by kernel_rfl) h
theorem QIZ (q:Qn) (h :
 (Qo5 K q 0 ([]:List Yo))):Hold (tawp Qnz (0+0) QT7 (TQ 0 0 QCz K) (Qd [(.a [(.c TI q.1),(.c (.sl Zx) q.2)])])) :=
 Hold.of (by kernel_rfl) h
theorem QWo (q:Qn) (hp:QJ (α:=Qn) q):TCon Tryz.prog 157 [(.a [(.c TI q.1),(.c (.sl Zx) q.2)])] (QcW (id (α:=Qn) q)):=by
 refine Qj rfl fun hb=>tcg (n:=29) (sg:=Qge.sg) Qg (TOk.cons Qbo TOk.nil) (by kernel_rfl) (by kernel_rfl) (QIZ _ q ?_)
 have hl_q_1:(q.2).length≤9223372036854775807:=hb.1.2.1.1
 unfold QJ at hp
 simp only [YC,Yi] at hp
 refine QbG (l:=q.2) (Q:=fun z=>QcW (q.1,z)=QcW (id (α:=Qn) q)) (by omega) (fun k x v hk hl hg hv hx ih=>?_) (fun hq=>?_) (R_eq rfl)
 ·refine Qw1 (fun r'=>r'=QcW (id (α:=Qn) q)) q _ _ ⟨fun _=>?_,fun h=>by simp at h;omega⟩
  simp only [YC,Yi] at hx
  rw [Int.toNat_natCast,hg,sc1 (by omega),Zf,Qer]
  exact ⟨⟨by omega,hk⟩,⟨(show Sz.sz (_:List Int)≤2147483648 by omega),room (by omega)⟩,ih⟩
 ·refine Qw1 (fun r'=>r'=QcW (id (α:=Qn) q)) q _ _ ⟨fun h=>by simp at h,fun _=>?_⟩
  rw [List.take_length];exact hq
theorem Qmi:Qe Tryz.prog Qge:=Qh fun x h=>QWo x.1 h
def QgP (t:Qn × Bool):TRes:=⟨(.tp [(.a [(zci t.1.1),(.r Zx 0 0 ((t.1.2).length))]),(zcb t.2)]),[(.sl 114 Zx true t.1.2)],[],true,[]⟩
def QkG:TRow:=Qf 98 [(.a QP),(.a Zx)] fun x=>(some (Yf (α:=Qn) (β:=Yo) x.1 x.2.1),QgP (Y7 x.1 x.2.1))
def QTn:List TRow:=[Qge,QeQ,Qio,Qay]
def QHp:TCode :=
 (zsq [(.reg [zop 2 (.box 97 0 2),zop 3 (.box 114 1 2),zop 4 (.new 97 (z0s QP)),zmv 5 (zkb false)]),(.reg [zLd 7 2 2,zca 8 157 [7],zop 6 (.new 97 (z0s QP)),zst 6 8 2]),(zsq [(.reg [zLd 9 2 2,zca 10 135 [9],zno 11 10,zmv 12 11,.grp 12 false [zLd 13 3 2,zca 14 178 [13],zno 15 14] 16 15,zmv 17 16,.grp 17 false [zfa 18 2 1,zld 19 18 1,zle 20 19,zfa 21 2 0,zld 22 21 1,zbi 23 .eql 20 22] 24 23]),(.cond 24 (zsq [(.reg [zLd 25 6 2,zst 4 25 2,zmv 5 (zkb false)]),.ret]) .skip)]),(.draw [zfa 26 6 1,zld 27 26 1,zfa 28 3 0,zld 29 28 1,zfa 30 3 1,zld 31 30 1,zca 32 119 [31],zop 33 (.build (z0s Zx) [(0,1,29),(1,1,32)]),zop 34 (.bsl 114 Zx [33]),zop 35 (.app 27 34 114 Zx),zfa 36 6 1,zst 36 35 1] [(0,6),(1,6),(2,6),(3,6),(0,8),(1,8)]),(.reg [zLd 37 6 2,zst 4 37 2,zmv 5 (zkb true)]),.ret])
def QMf:List (ARv × Md):=[(.l 4 2 true,.b [.d,.o 114]),(.t 5,.one .d)]
theorem QUJ (q:Qn) (x:Yo) (h :
 ((QJ (α:=Qn) q)∧(zif (((!(ZK q))||(!(Y4 x)))||(((q.2).length:Int)==q.1)) (K (QgP (((id (α:=Qn) q).1,(List.take (((id (α:=Qn) q).2).length) ((id (α:=Qn) q).2))),false))) (((QJ (α:=List Int) x.2)∧((((id (α:=Qn) q).2).length=((id (α:=Qn) q).2).length∨((id (α:=Qn) q).2).length+1≤((id (α:=Qn) q).2).length)∧((id (α:=Qn) q).2).length+1≤big))∧K (QgP (((id (α:=Qn) q).1,(List.take (((id (α:=Qn) q).2).length+1) ((List.take (((id (α:=Qn) q).2).length) ((id (α:=Qn) q).2))++([(x.1,(List.take ((id (α:=List Int) x.2).length) (List.drop 0 (id (α:=List Int) x.2))))])))),true)))))):Hold (tawp QTn (0+0) QHp (TQ 0 0 QMf K) (Qd [(.a [(.c TI q.1),(.c (.sl Zx) q.2)]),(.a [(.c TI x.1),(.c (.sl [TI]) x.2)])])) :=
 Hold.of (by kernel_rfl) h
theorem QHA (q:Qn) (x:Yo) (hp:Yf (α:=Qn) (β:=Yo) q x):TCon Tryz.prog 98 [(.a [(.c TI q.1),(.c (.sl Zx) q.2)]),(.a [(.c TI x.1),(.c (.sl [TI]) x.2)])] (QgP (Y7 q x)):=by
 refine Qj rfl fun hb=>tcg (n:=38) (sg:=QkG.sg) Qg (TOk.cons Qmi (TOk.cons Qqo (TOk.cons QtR (TOk.cons Qbo TOk.nil)))) (by kernel_rfl) (by kernel_rfl) (QUJ _ q x ?_)
 have hl_q_1:(q.2).length≤9223372036854775807:=hb.1.2.1.1
 have hl_x_1:(x.2).length≤9223372036854775807:=hb.2.1.2.1.1
 unfold Yf at hp
 have hq:QJ q:=by unfold QJ;omega
 simp only [YC,Yi] at hp
 have h1:=Qab q.2
 have h2:=Y6 x.2
 have e:((((!(ZK q))||(!(Y4 x)))||(((q.2).length:Int)==q.1))) = !(ZK q&&Y4 x&&decide ((q.2.length:Int)<q.1)):=by
  cases hk:ZK q
  ·rfl
  ·have:(q.2.length:Int)≤q.1:=by
    simp only [ZK,Bool.and_eq_true,decide_eq_true_eq] at hk
    exact hk.1.2
   cases Y4 x
   ·rfl
   ·rw [Bool.eq_iff_iff];simp;omega
 rw [e]
 refine ⟨hq,fun h=>R_eq ?_,fun h=>⟨⟨(show Sz.sz (_:List Int)≤2147483648 by omega),⟨.inl rfl,by rw [Zu];simp only [id];omega⟩⟩,R_eq ?_⟩⟩
 ·simp only [Bool.not_eq_true'] at h
  simp [Y7,h]
 ·simp only [Bool.not_eq_false'] at h
  simp [Y7,h,List.take_of_length_le]
theorem QHq:Qe Tryz.prog QkG:=Qh fun x h=>QHA x.1 x.2.1 h
def QgW (t:Qn × Yo × Bool):TRes:=zra (.tp [(.a [(zci t.1.1),(zcs Zx t.1.2)]),(.a [(zci t.2.1.1),(zcs [TI] t.2.1.2)]),(zcb t.2.2)])
def Qn1:TRow:=Qf 97 [(.a QP)] fun x=>(some (QJ (α:=Qn) x.1),QgW (ZS x.1))
def QVS:List TRow:=[Qge,QeQ]
def QGM:TCode :=
 (zsq [(.reg [zop 1 (.box 97 0 2),zop 2 (.new 97 (z0s QP)),zop 3 (.new 114 (z0s Zx)),zmv 4 (zkb false)]),(.reg [zLd 7 1 2,zca 8 157 [7],zop 5 (.new 97 (z0s QP)),zst 5 8 2]),(zsq [(.reg [zLd 9 1 2,zca 10 135 [9],zno 11 10,zmv 12 11,.grp 12 false [zfa 13 1 1,zld 14 13 1,zle 15 14,zbi 16 .eql 15 (zki 0)] 17 16]),(.cond 17 (zsq [(.reg [zLd 18 5 2,zop 19 (.build (z0s Zx) []),zst 2 18 2,zst 3 19 2,zmv 4 (zkb false)]),.ret]) .skip)]),(.reg [zfa 20 5 1,zld 21 20 1,zia 22 21 (zki 0) Zx,zLd 23 22 2,zop 6 (.new 114 (z0s Zx)),zst 6 23 2]),(.reg [zfa 24 5 1,zld 25 24 1,zop 26 (.slc 25 (some (zki 1)) none Zx),zfa 27 5 1,zst 27 26 1]),(.draw [zLd 28 5 2,zLd 29 6 2,zst 2 28 2,zst 3 29 2,zmv 4 (zkb true)] [(1,2)]),.ret])
def QRg:List (ARv × Md):=[(.l 2 2 true,.b [.d,.d]),(.l 3 2 true,.b [.d,.d]),(.t 4,.one .d)]
theorem QN1 (q:Qn) (h :
 ((QJ (α:=Qn) q)∧(zif ((!(ZK q))||(((q.2).length:Int)==(0:Int))) (K (QgW (((id (α:=Qn) q).1,(List.take (((id (α:=Qn) q).2).length) (List.drop 0 ((id (α:=Qn) q).2)))),((0:Int),[]),false))) ((((0:Int)≤(0:Int)∧Int.toNat (0:Int)<((id (α:=Qn) q).2).length)∧((0+(Int.toNat (0:Int)))<((id (α:=Qn) q).2).length))∧(((0:Int)≤(1:Int)∧(1:Int)≤((((id (α:=Qn) q).2).length:Nat):Int)∧((((id (α:=Qn) q).2).length:Nat):Int)≤((((id (α:=Qn) q).2).length:Nat):Int))∧K (QgW (((id (α:=Qn) q).1,(List.take (Int.toNat ((((id (α:=Qn) q).2).length:Nat):Int)-Int.toNat (1:Int)) (List.drop (0+Int.toNat (1:Int)) ((id (α:=Qn) q).2)))),(gtd ((0,[]):Yo) ((id (α:=Qn) q).2) (0+(Int.toNat (0:Int)))),true))))))):Hold (tawp QVS (0+0) QGM (TQ 0 0 QRg K) (Qd [(.a [(.c TI q.1),(.c (.sl Zx) q.2)])])) :=
 Hold.of (by kernel_rfl) h
theorem QE9 (q:Qn) (hp:QJ (α:=Qn) q):TCon Tryz.prog 97 [(.a [(.c TI q.1),(.c (.sl Zx) q.2)])] (QgW (ZS q)):=by
 refine Qj rfl fun hb=>tcg (n:=30) (sg:=Qn1.sg) Qg (TOk.cons Qmi (TOk.cons Qqo TOk.nil)) (by kernel_rfl) (by kernel_rfl) (QN1 _ q ?_)
 have hl_q_1:(q.2).length≤9223372036854775807:=hb.1.2.1.1
 have hq:=hp
 unfold QJ at hp
 simp only [YC,Yi] at hp
 have h1:=Qab q.2
 have e:((!(ZK q))||(((q.2).length:Int)==0)) = !(ZK q&&decide (0<q.2.length)):=by
  rw [Bool.eq_iff_iff];simp
 rw [e]
 refine ⟨hq,fun h=>R_eq ?_,fun h=>?_⟩
 ·simp only [Bool.not_eq_true'] at h
  simp only [ZS,h];simp
 ·simp only [Bool.not_eq_false'] at h
  have h2:0<q.2.length:=by simp at h;exact h.2
  have h3:=Qk0 (JP h2 (0,[]))
  have h4:=Y6 (gtd (0,[]) q.2 0).2
  simp only [YC,Yi] at h3
  have hM:(ZS q)=((q.1,q.2.tail),gtd (0,[]) q.2 0,true):=by simp only [ZS,h];simp
  simp only [id]
  exact ⟨⟨⟨by omega,by simpa using h2⟩,by simpa using h2⟩,⟨by omega,by omega,by omega⟩,R_eq (by rw [hM];simp [List.take_of_length_le])⟩
theorem QOz:Qe Tryz.prog Qn1:=Qh fun x h=>QE9 x.1 h
end
end Go.Proofs.YtjbdljkhbglnhaaGreat.Am

