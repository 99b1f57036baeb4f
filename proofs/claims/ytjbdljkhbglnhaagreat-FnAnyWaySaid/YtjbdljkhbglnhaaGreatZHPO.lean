/- -/
import Derived.Test.YtjbdljkhbglnhaaGreatZHPF
import Derived.Test.YtjbdljkhbglnhaaGreatZHP2
import Derived.Test.YtjbdljkhbglnhaaGreatZHP1
import Derived.Test.YtjbdljkhbglnhaaGreatZHG9
namespace Go.Proofs.YtjbdljkhbglnhaaGreat.Am
open Go Go.RowKit Go.Proofs.YtjbdljkhbglnhaaGreat
set_option linter.all false
noncomputable section
variable (K:TRes→Prop)
def Qc6 (t:Qm):TRes:=⟨(.a [(zci t.1),(.r Zp 0 0 ((t.2).length))]),[(.sl 114 Zp true t.2)],[],true,[]⟩
def QeH:TRow:=Qg 157 [(.a QL)] fun x=>(some (QI (α:=Qm) x.1),Qc6 (id (α:=Qm) x.1))
def Qjr:List TRow:=[Qab]
def Qz9:TCode :=
 (zsq [(.reg [zbi 13 .lss 12 11]),(.cond 13 .skip (.exit 0)),(.block 1 (zsq [(.reg [zia 14 10 12 Zp,zLd 15 14 2,zop 5 (.new 114 (z0s Zp)),zst 5 15 2]),(.draw [zfa 16 3 1,zld 17 16 1,zfa 18 5 0,zld 19 18 1,zfa 20 5 1,zld 21 20 1,zca 22 119 [21],zop 23 (.build (z0s Zp) [(0,1,19),(1,1,22)]),zop 24 (.bsl 114 Zp [23]),zop 25 (.app 17 24 114 Zp),zfa 26 3 1,zst 26 25 1] [(0,6),(1,6),(2,6),(3,6),(0,8),(1,8)])])),(.reg [zbi 27 .add 12 (zki 1),zmv 12 27])])
def QzV:List (Nat × Md):=[(2,.b [.d,.d]),(3,.b [.d,.o 114]),(10,.one .d),(11,.one .d),(12,.one .d)]
def Qte:TCode :=
 (zsq [(.reg [zLd 28 3 2,zst 2 28 2]),.ret])
def QQe:TCode :=
 (zsq [(.reg [zop 1 (.box 97 0 2),zop 2 (.new 97 (z0s QL))]),(.reg [zfa 6 1 0,zld 7 6 1,zop 8 (.build (z0s QL) [(0,1,7)]),zop 3 (.new 97 (z0s QL)),zst 3 8 2]),(zsq [(.reg [zfa 9 1 1,zld 10 9 1,zle 11 10,zmv 12 (zki 0)]),(.block 0 (.loop QzV Qz9))]),Qte])
def QpZ:List (ARv × Md):=[(.l 2 2 true,.b [.d,.o 114])]
def Quq:Qb:=TQ 0 0 QpZ K
def QKK:Qb:=Qseq (tawp Qjr 0 Qte (Quq K)) (Quq K)
def QQE:Qb:=Qblk 0 (QKK K)
def Qn8 (q:Qm) (x:Int) (r1:List Z8):Prop:=Loop Qjr 0 QzV Qz9 (QQE K) ⟨[(2,(.p 0 0 0)),(3,(.p 2 0 0)),(10,(zcs Zp q.2)),(11,(zci ((q.2).length:Int))),(12,(zci x))],[(0,(.box [(zci 0),(zcs Zp ([]))])),(1,(.sl 114 Zp true r1)),(2,(.box [(zci q.1),(.r Zp 1 0 r1.length)]))],3⟩
theorem QxT (q:Qm) (x:Int) (r1:List Z8) (h :
 (zif (decide (x<((q.2).length:Int))) (((0:Int)≤x∧Int.toNat x<(q.2).length)∧(((QI (α:=List Int) ((gtd ((0,[]):Z8) q.2 (Int.toNat x)).2))∧((r1.length=r1.length∨r1.length+1≤r1.length)∧r1.length+1≤big))∧(Qn8 K q (w64 (x+(1:Int))) (List.take (r1.length+1) ((List.take r1.length r1)++([((gtd ((0,[]):Z8) q.2 (Int.toNat x)).1,(List.take ((id (α:=List Int) ((gtd ((0,[]):Z8) q.2 (Int.toNat x)).2)).length) (List.drop 0 (id (α:=List Int) ((gtd ((0,[]):Z8) q.2 (Int.toNat x)).2)))))])))))) (K (Qc6 (q.1,(List.take r1.length r1)))))):Qn8 K q x r1 :=
 Loop.of (by kernel_rfl) h
theorem QDM (q:Qm) (h :
 (Qn8 K q 0 ([]:List Z8))):Hold (tawp Qjr (0+0) QQe (TQ 0 0 QpZ K) (Qf [(.a [(.c TI q.1),(.c (.sl Zp) q.2)])])) :=
 Hold.of (by kernel_rfl) h
theorem QHe (q:Qm) (hp:QI (α:=Qm) q):TCon Tryz.prog 157 [(.a [(.c TI q.1),(.c (.sl Zp) q.2)])] (Qc6 (id (α:=Qm) q)):=by
 refine Qq rfl fun hb=>tcg (n:=29) (sg:=QeH.sg) Qj (TOk.cons Qbk TOk.nil) (by kernel_rfl) (by kernel_rfl) (QDM _ q ?_)
 have hl_q_1:(q.2).length≤9223372036854775807:=hb.1.2.1.1
 unfold QI at hp
 simp only [YB,Yb] at hp
 refine Qca (l:=q.2) (Q:=fun z=>Qc6 (q.1,z)=Qc6 (id (α:=Qm) q)) (by omega) (fun k x v hk hl hg hv hx ih=>?_) (fun hq=>?_) (R_eq rfl)
 ·refine QxT (fun r'=>r'=Qc6 (id (α:=Qm) q)) q _ _ ⟨fun _=>?_,fun h=>by simp at h;omega⟩
  simp only [YB,Yb] at hx
  rw [Int.toNat_natCast,hg,sc1 (by omega),Zq,QdO]
  exact ⟨⟨by omega,hk⟩,⟨(show Sz.sz (_:List Int)≤2147483648 by omega),room (by omega)⟩,ih⟩
 ·refine QxT (fun r'=>r'=Qc6 (id (α:=Qm) q)) q _ _ ⟨fun h=>by simp at h,fun _=>?_⟩
  rw [List.take_length];exact hq
theorem Qkb:Qh Tryz.prog QeH:=Qk fun x h=>QHe x.1 h
def QgH (t:Qm × Bool):TRes:=⟨(.tp [(.a [(zci t.1.1),(.r Zp 0 0 ((t.1.2).length))]),(zcb t.2)]),[(.sl 114 Zp true t.1.2)],[],true,[]⟩
def QkT:TRow:=Qg 98 [(.a QL),(.a Zp)] fun x=>(some (JR (α:=Qm) (β:=Z8) x.1 x.2.1),QgH (Y2 x.1 x.2.1))
def QLT:List TRow:=[QeH,Qer,Qiw,Qab]
def QHI:TCode :=
 (zsq [(.reg [zop 2 (.box 97 0 2),zop 3 (.box 114 1 2),zop 4 (.new 97 (z0s QL)),zmv 5 (zkb false)]),(.reg [zLd 7 2 2,zca 8 157 [7],zop 6 (.new 97 (z0s QL)),zst 6 8 2]),(zsq [(.reg [zLd 9 2 2,zca 10 135 [9],zno 11 10,zmv 12 11,.grp 12 false [zLd 13 3 2,zca 14 178 [13],zno 15 14] 16 15,zmv 17 16,.grp 17 false [zfa 18 2 1,zld 19 18 1,zle 20 19,zfa 21 2 0,zld 22 21 1,zbi 23 .eql 20 22] 24 23]),(.cond 24 (zsq [(.reg [zLd 25 6 2,zst 4 25 2,zmv 5 (zkb false)]),.ret]) .skip)]),(.draw [zfa 26 6 1,zld 27 26 1,zfa 28 3 0,zld 29 28 1,zfa 30 3 1,zld 31 30 1,zca 32 119 [31],zop 33 (.build (z0s Zp) [(0,1,29),(1,1,32)]),zop 34 (.bsl 114 Zp [33]),zop 35 (.app 27 34 114 Zp),zfa 36 6 1,zst 36 35 1] [(0,6),(1,6),(2,6),(3,6),(0,8),(1,8)]),(.reg [zLd 37 6 2,zst 4 37 2,zmv 5 (zkb true)]),.ret])
def QBK:List (ARv × Md):=[(.l 4 2 true,.b [.d,.o 114]),(.t 5,.one .d)]
theorem QIC (q:Qm) (x:Z8) (h :
 ((QI (α:=Qm) q)∧(zif (((!(Zx q))||(!(YY x)))||(((q.2).length:Int)==q.1)) (K (QgH (((id (α:=Qm) q).1,(List.take (((id (α:=Qm) q).2).length) ((id (α:=Qm) q).2))),false))) (((QI (α:=List Int) x.2)∧((((id (α:=Qm) q).2).length=((id (α:=Qm) q).2).length∨((id (α:=Qm) q).2).length+1≤((id (α:=Qm) q).2).length)∧((id (α:=Qm) q).2).length+1≤big))∧K (QgH (((id (α:=Qm) q).1,(List.take (((id (α:=Qm) q).2).length+1) ((List.take (((id (α:=Qm) q).2).length) ((id (α:=Qm) q).2))++([(x.1,(List.take ((id (α:=List Int) x.2).length) (List.drop 0 (id (α:=List Int) x.2))))])))),true)))))):Hold (tawp QLT (0+0) QHI (TQ 0 0 QBK K) (Qf [(.a [(.c TI q.1),(.c (.sl Zp) q.2)]),(.a [(.c TI x.1),(.c (.sl [TI]) x.2)])])) :=
 Hold.of (by kernel_rfl) h
theorem QGz (q:Qm) (x:Z8) (hp:JR (α:=Qm) (β:=Z8) q x):TCon Tryz.prog 98 [(.a [(.c TI q.1),(.c (.sl Zp) q.2)]),(.a [(.c TI x.1),(.c (.sl [TI]) x.2)])] (QgH (Y2 q x)):=by
 refine Qq rfl fun hb=>tcg (n:=38) (sg:=QkT.sg) Qj (TOk.cons Qkb (TOk.cons Qn2 (TOk.cons QwT (TOk.cons Qbk TOk.nil)))) (by kernel_rfl) (by kernel_rfl) (QIC _ q x ?_)
 have hl_q_1:(q.2).length≤9223372036854775807:=hb.1.2.1.1
 have hl_x_1:(x.2).length≤9223372036854775807:=hb.2.1.2.1.1
 unfold JR at hp
 have hq:QI q:=by unfold QI;omega
 simp only [YB,Yb] at hp
 have h1:=Qas q.2
 have h2:=Je x.2
 have e:((((!(Zx q))||(!(YY x)))||(((q.2).length:Int)==q.1))) = !(Zx q&&YY x&&decide ((q.2.length:Int)<q.1)):=by
  cases hk:Zx q
  ·rfl
  ·have:(q.2.length:Int)≤q.1:=by
    simp only [Zx,Bool.and_eq_true,decide_eq_true_eq] at hk
    exact hk.1.2
   cases YY x
   ·rfl
   ·rw [Bool.eq_iff_iff];simp;omega
 rw [e]
 refine ⟨hq,fun h=>R_eq ?_,fun h=>⟨⟨(show Sz.sz (_:List Int)≤2147483648 by omega),⟨.inl rfl,by rw [Zi];simp only [id];omega⟩⟩,R_eq ?_⟩⟩
 ·simp only [Bool.not_eq_true'] at h
  simp [Y2,h]
 ·simp only [Bool.not_eq_false'] at h
  simp [Y2,h,List.take_of_length_le]
theorem QMK:Qh Tryz.prog QkT:=Qk fun x h=>QGz x.1 x.2.1 h
def QfX (t:Qm × Z8 × Bool):TRes:=zra (.tp [(.a [(zci t.1.1),(zcs Zp t.1.2)]),(.a [(zci t.2.1.1),(zcs [TI] t.2.1.2)]),(zcb t.2.2)])
def Qnr:TRow:=Qg 97 [(.a QL)] fun x=>(some (QI (α:=Qm) x.1),QfX (ZH x.1))
def QQ1:List TRow:=[QeH,Qer]
def QNM:TCode :=
 (zsq [(.reg [zop 1 (.box 97 0 2),zop 2 (.new 97 (z0s QL)),zop 3 (.new 114 (z0s Zp)),zmv 4 (zkb false)]),(.reg [zLd 7 1 2,zca 8 157 [7],zop 5 (.new 97 (z0s QL)),zst 5 8 2]),(zsq [(.reg [zLd 9 1 2,zca 10 135 [9],zno 11 10,zmv 12 11,.grp 12 false [zfa 13 1 1,zld 14 13 1,zle 15 14,zbi 16 .eql 15 (zki 0)] 17 16]),(.cond 17 (zsq [(.reg [zLd 18 5 2,zop 19 (.build (z0s Zp) []),zst 2 18 2,zst 3 19 2,zmv 4 (zkb false)]),.ret]) .skip)]),(.reg [zfa 20 5 1,zld 21 20 1,zia 22 21 (zki 0) Zp,zLd 23 22 2,zop 6 (.new 114 (z0s Zp)),zst 6 23 2]),(.reg [zfa 24 5 1,zld 25 24 1,zop 26 (.slc 25 (some (zki 1)) none Zp),zfa 27 5 1,zst 27 26 1]),(.draw [zLd 28 5 2,zLd 29 6 2,zst 2 28 2,zst 3 29 2,zmv 4 (zkb true)] [(1,2)]),.ret])
def QAU:List (ARv × Md):=[(.l 2 2 true,.b [.d,.d]),(.l 3 2 true,.b [.d,.d]),(.t 4,.one .d)]
theorem QHT (q:Qm) (h :
 ((QI (α:=Qm) q)∧(zif ((!(Zx q))||(((q.2).length:Int)==(0:Int))) (K (QfX (((id (α:=Qm) q).1,(List.take (((id (α:=Qm) q).2).length) (List.drop 0 ((id (α:=Qm) q).2)))),((0:Int),[]),false))) ((((0:Int)≤(0:Int)∧Int.toNat (0:Int)<((id (α:=Qm) q).2).length)∧((0+(Int.toNat (0:Int)))<((id (α:=Qm) q).2).length))∧(((0:Int)≤(1:Int)∧(1:Int)≤((((id (α:=Qm) q).2).length:Nat):Int)∧((((id (α:=Qm) q).2).length:Nat):Int)≤((((id (α:=Qm) q).2).length:Nat):Int))∧K (QfX (((id (α:=Qm) q).1,(List.take (Int.toNat ((((id (α:=Qm) q).2).length:Nat):Int)-Int.toNat (1:Int)) (List.drop (0+Int.toNat (1:Int)) ((id (α:=Qm) q).2)))),(gtd ((0,[]):Z8) ((id (α:=Qm) q).2) (0+(Int.toNat (0:Int)))),true))))))):Hold (tawp QQ1 (0+0) QNM (TQ 0 0 QAU K) (Qf [(.a [(.c TI q.1),(.c (.sl Zp) q.2)])])) :=
 Hold.of (by kernel_rfl) h
theorem QRb (q:Qm) (hp:QI (α:=Qm) q):TCon Tryz.prog 97 [(.a [(.c TI q.1),(.c (.sl Zp) q.2)])] (QfX (ZH q)):=by
 refine Qq rfl fun hb=>tcg (n:=30) (sg:=Qnr.sg) Qj (TOk.cons Qkb (TOk.cons Qn2 TOk.nil)) (by kernel_rfl) (by kernel_rfl) (QHT _ q ?_)
 have hl_q_1:(q.2).length≤9223372036854775807:=hb.1.2.1.1
 have hq:=hp
 unfold QI at hp
 simp only [YB,Yb] at hp
 have h1:=Qas q.2
 have e:((!(Zx q))||(((q.2).length:Int)==0)) = !(Zx q&&decide (0<q.2.length)):=by
  rw [Bool.eq_iff_iff];simp
 rw [e]
 refine ⟨hq,fun h=>R_eq ?_,fun h=>?_⟩
 ·simp only [Bool.not_eq_true'] at h
  simp only [ZH,h];simp
 ·simp only [Bool.not_eq_false'] at h
  have h2:0<q.2.length:=by simp at h;exact h.2
  have h3:=Qnp (Y7 h2 (0,[]))
  have h4:=Je (gtd (0,[]) q.2 0).2
  simp only [YB,Yb] at h3
  have hM:(ZH q)=((q.1,q.2.tail),gtd (0,[]) q.2 0,true):=by simp only [ZH,h];simp
  simp only [id]
  exact ⟨⟨⟨by omega,by simpa using h2⟩,by simpa using h2⟩,⟨by omega,by omega,by omega⟩,R_eq (by rw [hM];simp [List.take_of_length_le])⟩
theorem QFw:Qh Tryz.prog Qnr:=Qk fun x h=>QRb x.1 h
end
end Go.Proofs.YtjbdljkhbglnhaaGreat.Am

