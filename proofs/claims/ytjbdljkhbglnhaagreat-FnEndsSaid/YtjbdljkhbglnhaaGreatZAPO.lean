/- -/
import Derived.Test.YtjbdljkhbglnhaaGreatZAPF
import Derived.Test.YtjbdljkhbglnhaaGreatZAP2
import Derived.Test.YtjbdljkhbglnhaaGreatZAP1
import Derived.Test.YtjbdljkhbglnhaaGreatZAG9
namespace Go.Proofs.YtjbdljkhbglnhaaGreat.Am
open Go Go.RowKit Go.Proofs.YtjbdljkhbglnhaaGreat
set_option linter.all false
noncomputable section
variable (K:TRes→Prop)
def Qcu (t:Qe):TRes:=⟨(.a [(zci t.1),(.r QY 0 0 ((t.2).length))]),[(.sl 114 QY true t.2)],[],true,[]⟩
def QfD:TRow:=Qj 157 [(.a Qv)] fun x=>(some (QE (α:=Qe) x.1),Qcu (id (α:=Qe) x.1))
def Qjt:List TRow:=[Qah]
def Qwn:TCode :=
 (zsq [(.reg [zbi 13 .lss 12 11]),(.cond 13 .skip (.exit 0)),(.block 1 (zsq [(.reg [zia 14 10 12 QY,zLd 15 14 2,zop 5 (.new 114 (z0s QY)),zst 5 15 2]),(.draw [zfa 16 3 1,zld 17 16 1,zfa 18 5 0,zld 19 18 1,zfa 20 5 1,zld 21 20 1,zca 22 119 [21],zop 23 (.build (z0s QY) [(0,1,19),(1,1,22)]),zop 24 (.bsl 114 QY [23]),zop 25 (.app 17 24 114 QY),zfa 26 3 1,zst 26 25 1] [(0,6),(1,6),(2,6),(3,6),(0,8),(1,8)])])),(.reg [zbi 27 .add 12 (zki 1),zmv 12 27])])
def QpH:List (Nat × Md):=[(2,.b [.d,.d]),(3,.b [.d,.o 114]),(10,.one .d),(11,.one .d),(12,.one .d)]
def Qte:TCode :=
 (zsq [(.reg [zLd 28 3 2,zst 2 28 2]),.ret])
def QDf:TCode :=
 (zsq [(.reg [zop 1 (.box 97 0 2),zop 2 (.new 97 (z0s Qv))]),(.reg [zfa 6 1 0,zld 7 6 1,zop 8 (.build (z0s Qv) [(0,1,7)]),zop 3 (.new 97 (z0s Qv)),zst 3 8 2]),(zsq [(.reg [zfa 9 1 1,zld 10 9 1,zle 11 10,zmv 12 (zki 0)]),(.block 0 (.loop QpH Qwn))]),Qte])
def Qvt:List (ARv × Md):=[(.l 2 2 true,.b [.d,.o 114])]
def QoG:Qb:=TQ 0 0 Qvt K
def QPW:Qb:=Qseq (tawp Qjt 0 Qte (QoG K)) (QoG K)
def QAJ:Qb:=Qblk 0 (QPW K)
def Qmm (q:Qe) (x:Int) (r1:List ZJ):Prop:=Loop Qjt 0 QpH Qwn (QAJ K) ⟨[(2,(.p 0 0 0)),(3,(.p 2 0 0)),(10,(zcs QY q.2)),(11,(zci ((q.2).length:Int))),(12,(zci x))],[(0,(.box [(zci 0),(zcs QY ([]))])),(1,(.sl 114 QY true r1)),(2,(.box [(zci q.1),(.r QY 1 0 r1.length)]))],3⟩
theorem QtV (q:Qe) (x:Int) (r1:List ZJ) (h :
 (zif (decide (x<((q.2).length:Int))) (((0:Int)≤x∧Int.toNat x<(q.2).length)∧(((QE (α:=List Int) ((gtd ((0,[]):ZJ) q.2 (Int.toNat x)).2))∧((r1.length=r1.length∨r1.length+1≤r1.length)∧r1.length+1≤big))∧(Qmm K q (w64 (x+(1:Int))) (List.take (r1.length+1) ((List.take r1.length r1)++([((gtd ((0,[]):ZJ) q.2 (Int.toNat x)).1,(List.take ((id (α:=List Int) ((gtd ((0,[]):ZJ) q.2 (Int.toNat x)).2)).length) (List.drop 0 (id (α:=List Int) ((gtd ((0,[]):ZJ) q.2 (Int.toNat x)).2)))))])))))) (K (Qcu (q.1,(List.take r1.length r1)))))):Qmm K q x r1 :=
 Loop.of (by kernel_rfl) h
theorem QKy (q:Qe) (h :
 (Qmm K q 0 ([]:List ZJ))):Hold (tawp Qjt (0+0) QDf (TQ 0 0 Qvt K) (Qf [(.a [(.c TI q.1),(.c (.sl QY) q.2)])])) :=
 Hold.of (by kernel_rfl) h
theorem QPy (q:Qe) (hp:QE (α:=Qe) q):TCon Tryz.prog 157 [(.a [(.c TI q.1),(.c (.sl QY) q.2)])] (Qcu (id (α:=Qe) q)):=by
 refine Qq rfl fun hb=>tcg (n:=29) (sg:=QfD.sg) Ql (TOk.cons Qbf TOk.nil) (by kernel_rfl) (by kernel_rfl) (QKy _ q ?_)
 have hl_q_1:(q.2).length≤9223372036854775807:=hb.1.2.1.1
 unfold QE at hp
 simp only [YC,Yc] at hp
 refine QbD (l:=q.2) (Q:=fun z=>Qcu (q.1,z)=Qcu (id (α:=Qe) q)) (by omega) (fun k x v hk hl hg hv hx ih=>?_) (fun hq=>?_) (R_eq rfl)
 ·refine QtV (fun r'=>r'=Qcu (id (α:=Qe) q)) q _ _ ⟨fun _=>?_,fun h=>by simp at h;omega⟩
  simp only [YC,Yc] at hx
  rw [Int.toNat_natCast,hg,sc1 (by omega),Zv,QdF]
  exact ⟨⟨by omega,hk⟩,⟨(show Sz.sz (_:List Int)≤2147483648 by omega),room (by omega)⟩,ih⟩
 ·refine QtV (fun r'=>r'=Qcu (id (α:=Qe) q)) q _ _ ⟨fun h=>by simp at h,fun _=>?_⟩
  rw [List.take_length];exact hq
theorem Qkd:Qi Tryz.prog QfD:=Qm fun x h=>QPy x.1 h
def Qgg (t:Qe × Bool):TRes:=⟨(.tp [(.a [(zci t.1.1),(.r QY 0 0 ((t.1.2).length))]),(zcb t.2)]),[(.sl 114 QY true t.1.2)],[],true,[]⟩
def QkC:TRow:=Qj 98 [(.a Qv),(.a QY)] fun x=>(some (JP (α:=Qe) (β:=ZJ) x.1 x.2.1),Qgg (YV x.1 x.2.1))
def QMG:List TRow:=[QfD,QdK,QfG,Qah]
def QQL:TCode :=
 (zsq [(.reg [zop 2 (.box 97 0 2),zop 3 (.box 114 1 2),zop 4 (.new 97 (z0s Qv)),zmv 5 (zkb false)]),(.reg [zLd 7 2 2,zca 8 157 [7],zop 6 (.new 97 (z0s Qv)),zst 6 8 2]),(zsq [(.reg [zLd 9 2 2,zca 10 135 [9],zno 11 10,zmv 12 11,.grp 12 false [zLd 13 3 2,zca 14 178 [13],zno 15 14] 16 15,zmv 17 16,.grp 17 false [zfa 18 2 1,zld 19 18 1,zle 20 19,zfa 21 2 0,zld 22 21 1,zbi 23 .eql 20 22] 24 23]),(.cond 24 (zsq [(.reg [zLd 25 6 2,zst 4 25 2,zmv 5 (zkb false)]),.ret]) .skip)]),(.draw [zfa 26 6 1,zld 27 26 1,zfa 28 3 0,zld 29 28 1,zfa 30 3 1,zld 31 30 1,zca 32 119 [31],zop 33 (.build (z0s QY) [(0,1,29),(1,1,32)]),zop 34 (.bsl 114 QY [33]),zop 35 (.app 27 34 114 QY),zfa 36 6 1,zst 36 35 1] [(0,6),(1,6),(2,6),(3,6),(0,8),(1,8)]),(.reg [zLd 37 6 2,zst 4 37 2,zmv 5 (zkb true)]),.ret])
def QKn:List (ARv × Md):=[(.l 4 2 true,.b [.d,.o 114]),(.t 5,.one .d)]
theorem QE6 (q:Qe) (x:ZJ) (h :
 ((QE (α:=Qe) q)∧(zif (((!(Zk q))||(!(Yw x)))||(((q.2).length:Int)==q.1)) (K (Qgg (((id (α:=Qe) q).1,(List.take (((id (α:=Qe) q).2).length) ((id (α:=Qe) q).2))),false))) (((QE (α:=List Int) x.2)∧((((id (α:=Qe) q).2).length=((id (α:=Qe) q).2).length∨((id (α:=Qe) q).2).length+1≤((id (α:=Qe) q).2).length)∧((id (α:=Qe) q).2).length+1≤big))∧K (Qgg (((id (α:=Qe) q).1,(List.take (((id (α:=Qe) q).2).length+1) ((List.take (((id (α:=Qe) q).2).length) ((id (α:=Qe) q).2))++([(x.1,(List.take ((id (α:=List Int) x.2).length) (List.drop 0 (id (α:=List Int) x.2))))])))),true)))))):Hold (tawp QMG (0+0) QQL (TQ 0 0 QKn K) (Qf [(.a [(.c TI q.1),(.c (.sl QY) q.2)]),(.a [(.c TI x.1),(.c (.sl [TI]) x.2)])])) :=
 Hold.of (by kernel_rfl) h
theorem QGr (q:Qe) (x:ZJ) (hp:JP (α:=Qe) (β:=ZJ) q x):TCon Tryz.prog 98 [(.a [(.c TI q.1),(.c (.sl QY) q.2)]),(.a [(.c TI x.1),(.c (.sl [TI]) x.2)])] (Qgg (YV q x)):=by
 refine Qq rfl fun hb=>tcg (n:=38) (sg:=QkC.sg) Ql (TOk.cons Qkd (TOk.cons Qi1 (TOk.cons Qya (TOk.cons Qbf TOk.nil)))) (by kernel_rfl) (by kernel_rfl) (QE6 _ q x ?_)
 have hl_q_1:(q.2).length≤9223372036854775807:=hb.1.2.1.1
 have hl_x_1:(x.2).length≤9223372036854775807:=hb.2.1.2.1.1
 unfold JP at hp
 have hq:QE q:=by unfold QE;omega
 simp only [YC,Yc] at hp
 have h1:=Qbi q.2
 have h2:=Ja x.2
 have e:((((!(Zk q))||(!(Yw x)))||(((q.2).length:Int)==q.1))) = !(Zk q&&Yw x&&decide ((q.2.length:Int)<q.1)):=by
  cases hk:Zk q
  ·rfl
  ·have:(q.2.length:Int)≤q.1:=by
    simp only [Zk,Bool.and_eq_true,decide_eq_true_eq] at hk
    exact hk.1.2
   cases Yw x
   ·rfl
   ·rw [Bool.eq_iff_iff];simp;omega
 rw [e]
 refine ⟨hq,fun h=>R_eq ?_,fun h=>⟨⟨(show Sz.sz (_:List Int)≤2147483648 by omega),⟨.inl rfl,by rw [Zy];simp only [id];omega⟩⟩,R_eq ?_⟩⟩
 ·simp only [Bool.not_eq_true'] at h
  simp [YV,h]
 ·simp only [Bool.not_eq_false'] at h
  simp [YV,h,List.take_of_length_le]
theorem QJa:Qi Tryz.prog QkC:=Qm fun x h=>QGr x.1 x.2.1 h
def Qi0 (t:Qe × ZJ × Bool):TRes:=zra (.tp [(.a [(zci t.1.1),(zcs QY t.1.2)]),(.a [(zci t.2.1.1),(zcs [TI] t.2.1.2)]),(zcb t.2.2)])
def QmH:TRow:=Qj 97 [(.a Qv)] fun x=>(some (QE (α:=Qe) x.1),Qi0 (ZB x.1))
def QOL:List TRow:=[QfD,QdK]
def QKA:TCode :=
 (zsq [(.reg [zop 1 (.box 97 0 2),zop 2 (.new 97 (z0s Qv)),zop 3 (.new 114 (z0s QY)),zmv 4 (zkb false)]),(.reg [zLd 7 1 2,zca 8 157 [7],zop 5 (.new 97 (z0s Qv)),zst 5 8 2]),(zsq [(.reg [zLd 9 1 2,zca 10 135 [9],zno 11 10,zmv 12 11,.grp 12 false [zfa 13 1 1,zld 14 13 1,zle 15 14,zbi 16 .eql 15 (zki 0)] 17 16]),(.cond 17 (zsq [(.reg [zLd 18 5 2,zop 19 (.build (z0s QY) []),zst 2 18 2,zst 3 19 2,zmv 4 (zkb false)]),.ret]) .skip)]),(.reg [zfa 20 5 1,zld 21 20 1,zia 22 21 (zki 0) QY,zLd 23 22 2,zop 6 (.new 114 (z0s QY)),zst 6 23 2]),(.reg [zfa 24 5 1,zld 25 24 1,zop 26 (.slc 25 (some (zki 1)) none QY),zfa 27 5 1,zst 27 26 1]),(.draw [zLd 28 5 2,zLd 29 6 2,zst 2 28 2,zst 3 29 2,zmv 4 (zkb true)] [(1,2)]),.ret])
def QJC:List (ARv × Md):=[(.l 2 2 true,.b [.d,.d]),(.l 3 2 true,.b [.d,.d]),(.t 4,.one .d)]
theorem QOA (q:Qe) (h :
 ((QE (α:=Qe) q)∧(zif ((!(Zk q))||(((q.2).length:Int)==(0:Int))) (K (Qi0 (((id (α:=Qe) q).1,(List.take (((id (α:=Qe) q).2).length) (List.drop 0 ((id (α:=Qe) q).2)))),((0:Int),[]),false))) ((((0:Int)≤(0:Int)∧Int.toNat (0:Int)<((id (α:=Qe) q).2).length)∧((0+(Int.toNat (0:Int)))<((id (α:=Qe) q).2).length))∧(((0:Int)≤(1:Int)∧(1:Int)≤((((id (α:=Qe) q).2).length:Nat):Int)∧((((id (α:=Qe) q).2).length:Nat):Int)≤((((id (α:=Qe) q).2).length:Nat):Int))∧K (Qi0 (((id (α:=Qe) q).1,(List.take (Int.toNat ((((id (α:=Qe) q).2).length:Nat):Int)-Int.toNat (1:Int)) (List.drop (0+Int.toNat (1:Int)) ((id (α:=Qe) q).2)))),(gtd ((0,[]):ZJ) ((id (α:=Qe) q).2) (0+(Int.toNat (0:Int)))),true))))))):Hold (tawp QOL (0+0) QKA (TQ 0 0 QJC K) (Qf [(.a [(.c TI q.1),(.c (.sl QY) q.2)])])) :=
 Hold.of (by kernel_rfl) h
theorem QJc (q:Qe) (hp:QE (α:=Qe) q):TCon Tryz.prog 97 [(.a [(.c TI q.1),(.c (.sl QY) q.2)])] (Qi0 (ZB q)):=by
 refine Qq rfl fun hb=>tcg (n:=30) (sg:=QmH.sg) Ql (TOk.cons Qkd (TOk.cons Qi1 TOk.nil)) (by kernel_rfl) (by kernel_rfl) (QOA _ q ?_)
 have hl_q_1:(q.2).length≤9223372036854775807:=hb.1.2.1.1
 have hq:=hp
 unfold QE at hp
 simp only [YC,Yc] at hp
 have h1:=Qbi q.2
 have e:((!(Zk q))||(((q.2).length:Int)==0)) = !(Zk q&&decide (0<q.2.length)):=by
  rw [Bool.eq_iff_iff];simp
 rw [e]
 refine ⟨hq,fun h=>R_eq ?_,fun h=>?_⟩
 ·simp only [Bool.not_eq_true'] at h
  simp only [ZB,h];simp
 ·simp only [Bool.not_eq_false'] at h
  have h2:0<q.2.length:=by simp at h;exact h.2
  have h3:=Qod (JB h2 (0,[]))
  have h4:=Ja (gtd (0,[]) q.2 0).2
  simp only [YC,Yc] at h3
  have hM:(ZB q)=((q.1,q.2.tail),gtd (0,[]) q.2 0,true):=by simp only [ZB,h];simp
  simp only [id]
  exact ⟨⟨⟨by omega,by simpa using h2⟩,by simpa using h2⟩,⟨by omega,by omega,by omega⟩,R_eq (by rw [hM];simp [List.take_of_length_le])⟩
theorem QJY:Qi Tryz.prog QmH:=Qm fun x h=>QJc x.1 h
end
end Go.Proofs.YtjbdljkhbglnhaaGreat.Am

