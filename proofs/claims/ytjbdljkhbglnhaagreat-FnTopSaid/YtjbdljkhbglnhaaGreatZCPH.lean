/- -/
import Derived.Test.YtjbdljkhbglnhaaGreatZCP1
import Derived.Test.YtjbdljkhbglnhaaGreatZCPG
import Derived.Test.YtjbdljkhbglnhaaGreatZCPF
namespace Go.Proofs.YtjbdljkhbglnhaaGreat.Am
open Go Go.RowKit Go.Proofs.YtjbdljkhbglnhaaGreat
set_option linter.all false
noncomputable section
variable (K:TRes→Prop)
def Qky (t:Bool):TRes:=zre (zcb t)
def Qgm:TRow:=Qf 233 [(.a [TI,TI,(.sl [TI])])] fun x=>(none,Qky (Zy x.1))
def QR9:List TRow:=[Qfx]
def QJG:TCode :=
 (zsq [(.reg [zop 1 (.box 185 0 3),zmv 2 (zkb false)]),(zsq [(.reg [zfa 3 1 0,zld 4 3 1,zbi 5 .lss 4 (zki 1),zmv 6 5,.grp 6 false [zfa 7 1 0,zld 8 7 1,zbi 9 .gtr 8 (zki 6)] 10 9,zmv 11 10,.grp 11 false [zfa 12 1 1,zld 13 12 1,zbi 14 .lss 13 (zki 1)] 15 14,zmv 16 15,.grp 16 false [zfa 17 1 1,zld 18 17 1,zbi 19 .gtr 18 (zki 6)] 20 19]),(.cond 20 (zsq [(.reg [zmv 2 (zkb false)]),.ret]) .skip)]),(.reg [zfa 21 1 2,zld 22 21 1,zle 23 22,zfa 24 1 0,zld 25 24 1,zfa 26 1 1,zld 27 26 1,zbi 28 .mul 25 27,zbi 29 .eql 23 28,zmv 30 29,.grp 30 true [zfa 31 1 2,zld 32 31 1,zca 33 195 [32]] 34 33,zmv 2 34]),.ret])
def QLp:List (ARv × Md):=[(.t 2,.one .d)]
theorem QJ6 (m:TMat) (h :
 (zif ((((decide (m.1<(1:Int)))||(decide (m.1>(6:Int))))||(decide (m.2.1<(1:Int))))||(decide (m.2.1>(6:Int)))) (K (Qky false)) (K (Qky ((((m.2.2).length:Int)==(w64 (m.1*m.2.1)))&&(ZD m.2.2)))))):Hold (tawp QR9 (0+0) QJG (TQ 0 0 QLp K) (Qd [(.a [(.c TI m.1),(.c TI m.2.1),(.c (.sl [TI]) m.2.2)])])) :=
 Hold.of (by kernel_rfl) h
theorem QGN (m:TMat):TCon Tryz.prog 233 [(.a [(.c TI m.1),(.c TI m.2.1),(.c (.sl [TI]) m.2.2)])] (Qky (Zy m)):=by
 refine Qj rfl fun hb=>tcg (n:=35) (sg:=Qgm.sg) Qg (TOk.cons Ql3 TOk.nil) (by kernel_rfl) (by kernel_rfl) (QJ6 _ m ?_)
 have hl_m_2:(m.2.2).length≤9223372036854775807:=hb.1.2.2.1.1
 refine ⟨fun h=>R_eq ?_,fun h=>R_eq ?_⟩
 ·have:(m_in m.1 1 6&&m_in m.2.1 1 6)=false:=by simp [m_in];simp at h;omega
  unfold Zy;rw [this];rfl
 ·have h':(1≤m.1∧m.1≤6)∧1≤m.2.1∧m.2.1≤6:=by simp at h;omega
  have hm:=QcS h'.1.1 h'.1.2 h'.2.1 h'.2.2
  rw [Qq (x:=m.1*m.2.1) (by omega) (by omega)]
  unfold Zy
  rw [QR.2 h'.1,QR.2 h'.2];simp
theorem Qp3:Qe Tryz.prog Qgm:=Qh fun x _=>QGN x.1
def QbH (t:Bool):TRes:=zre (zcb t)
def Qhi:TRow:=Qf 236 [(.a [TI,TI,(.sl [TI])])] fun x=>(none,QbH (Zy x.1))
def Qon:List TRow:=[Jm,QdX]
def Qwp:TCode :=
 (zsq [(zsq [(.reg [zmv 25 3,zfa 26 1 2,zld 27 26 1,zle 28 27,zbi 29 .lss 25 28]),(.cond 29 .skip (.exit 0))]),(.block 1 (zsq [(.reg [zfa 32 1 2,zld 33 32 1,zmv 34 3,zia 35 33 34 [TI],zld 36 35 1,zca 37 110 [36],zno 38 37]),(.cond 38 (zsq [(.reg [zmv 2 (zkb false)]),.ret]) .skip)])),(.reg [zmv 30 3,zbi 31 .add 30 (zki 1),zmv 3 31])])
def QCO:List (Nat × Md):=[(1,.b [.d,.d,.d]),(3,.one .d)]
def QDJ:TCode :=
 (zsq [(.reg [zmv 2 (zkb true)]),.ret])
def QQO:TCode :=
 (zsq [(.reg [zop 1 (.box 185 0 3),zmv 2 (zkb false)]),(zsq [(.reg [zfa 4 1 0,zld 5 4 1,zca 6 77 [5,(zki 1),(zki 6)],zno 7 6,zmv 8 7,.grp 8 false [zfa 9 1 1,zld 10 9 1,zca 11 77 [10,(zki 1),(zki 6)],zno 12 11] 13 12,zmv 14 13,.grp 14 false [zfa 15 1 2,zld 16 15 1,zle 17 16,zfa 18 1 0,zld 19 18 1,zfa 20 1 1,zld 21 20 1,zbi 22 .mul 19 21,zbi 23 .neq 17 22] 24 23]),(.cond 24 (zsq [(.reg [zmv 2 (zkb false)]),.ret]) .skip)]),(zsq [(.reg [zmv 3 (zki 0)]),(.block 0 (.loop QCO Qwp))]),QDJ])
def QyK:List (ARv × Md):=[(.t 2,.one .d)]
def QDj:Qb:=TQ 0 0 QyK K
def QO2:Qb:=Qseq (tawp Qon 0 QDJ (QDj K)) (QDj K)
def QYf:Qb:=Qblk 0 (QO2 K)
def QqQ (m:TMat) (i:Int):Prop:=Loop Qon 0 QCO Qwp (QYf K) ⟨[(1,(.p 0 0 0)),(3,(zci i))],[(0,(.box [(zci m.1),(zci m.2.1),(zcs [TI] m.2.2)]))],1⟩
theorem QX2 (m:TMat) (i:Int) (h :
 (zif (decide (i<((m.2.2).length:Int))) (((0:Int)≤i∧Int.toNat i<(m.2.2).length)∧(zif (!(Q8 (gtd (0:Int) m.2.2 (Int.toNat i)))) (K (QbH false)) (QqQ K m (w64 (i+(1:Int)))))) (K (QbH true)))):QqQ K m i :=
 Loop.of (by kernel_rfl) h
theorem QVo (m:TMat) (h :
 (zif (((!(m_in m.1 (1:Int) (6:Int)))||(!(m_in m.2.1 (1:Int) (6:Int))))||(((m.2.2).length:Int) != (w64 (m.1*m.2.1)))) (K (QbH false)) (QqQ K m 0))):Hold (tawp Qon (0+0) QQO (TQ 0 0 QyK K) (Qd [(.a [(.c TI m.1),(.c TI m.2.1),(.c (.sl [TI]) m.2.2)])])) :=
 Hold.of (by kernel_rfl) h
theorem QXw (m:TMat):TCon Tryz.prog 236 [(.a [(.c TI m.1),(.c TI m.2.1),(.c (.sl [TI]) m.2.2)])] (QbH (Zy m)):=by
 refine Qj rfl fun hb=>tcg (n:=39) (sg:=Qhi.sg) Qg (TOk.cons JJ (TOk.cons QhQ TOk.nil)) (by kernel_rfl) (by kernel_rfl) (QVo _ m ?_)
 have hl_m_2:(m.2.2).length≤9223372036854775807:=hb.1.2.2.1.1
 refine ⟨fun h=>R_eq ?_,fun h=>?_⟩
 ·have:Zy m=false:=by
   cases hm:Zy m with
   | false=>rfl
   | true =>
    obtain ⟨h1,h2,h3,h4,h5,h6,h7⟩:=Qds hm
    rw [QR.2 ⟨h1,h2⟩,QR.2 ⟨h3,h4⟩,Qq (x:=m.1*m.2.1) (by have:=QcS h1 h2 h3 h4;omega) (by omega),← h5] at h
    simp at h
  exact this.symm
 ·have h':m_in m.1 1 6=true∧m_in m.2.1 1 6=true:=by simp at h;exact h.1
  have h1:=QR.1 h'.1
  have h2:=QR.1 h'.2
  have hm:=QcS h1.1 h1.2 h2.1 h2.2
  rw [Qq (x:=m.1*m.2.1) (by omega) (by omega)] at h
  exact Qbu (Q:=fun x=>QbH x=QbH (Zy m)) (p:=Q8) (c:=fun x=>!(Q8 x)) 0 hl_m_2 (fun _=>rfl) (fun i h=>QX2 (fun r'=>r'=QbH (Zy m)) m i h) (R_eq (by
   unfold Zy ZD
   have h3:((m.2.2.length:Int)==m.1*m.2.1)=true:=by simp [h'] at h;simp [h]
   rw [h'.1,h'.2,h3];simp))
theorem QCu:Qe Tryz.prog Qhi:=Qh fun x _=>QXw x.1
def QoX (t:(List Int)):TRes:=zra (zcs [TI] t)
def QlP:TRow:=Qf 237 [(.a [TI,TI,(.sl [TI])]),(.c TI)] fun x=>(some (Qqk x.1 x.2.1),QoX (Y8 x.1 x.2.1))
def QKX:List TRow:=[]
def QNP:TCode :=
 (zsq [(.reg [zop 2 (.box 185 0 3),zmv 4 (.k (.n [TI]))]),(.reg [zfa 5 2 2,zld 6 5 1,zmv 7 1,zfa 8 2 1,zld 9 8 1,zbi 10 .mul 7 9,zmv 11 1,zbi 12 .add 11 (zki 1),zfa 13 2 1,zld 14 13 1,zbi 15 .mul 12 14,zop 16 (.slc 6 (some 10) (some 15) [TI]),zmv 4 16]),.ret])
def QMD:List (ARv × Md):=[(.t 4,.one .d)]
theorem QVV (m:TMat) (i:Int) (h :
 (((0:Int)≤w64 (i*m.2.1)∧w64 (i*m.2.1)≤w64 ((w64 (i+(1:Int)))*m.2.1)∧w64 ((w64 (i+(1:Int)))*m.2.1)≤((m.2.2).length:Int))∧K (QoX (List.take (Int.toNat (w64 ((w64 (i+(1:Int)))*m.2.1))-Int.toNat (w64 (i*m.2.1))) (List.drop (Int.toNat (w64 (i*m.2.1))) m.2.2))))):Hold (tawp QKX (0+0) QNP (TQ 0 0 QMD K) (Qd [(.a [(.c TI m.1),(.c TI m.2.1),(.c (.sl [TI]) m.2.2)]),(.c TI i)])) :=
 Hold.of (by kernel_rfl) h
theorem QEq (m:TMat) (i:Int) (hp:Qqk m i):TCon Tryz.prog 237 [(.a [(.c TI m.1),(.c TI m.2.1),(.c (.sl [TI]) m.2.2)]),(.c TI i)] (QoX (Y8 m i)):=by
 refine Qj rfl fun hb=>tcg (n:=17) (sg:=QlP.sg) Qg TOk.nil (by kernel_rfl) (by kernel_rfl) (QVV _ m i ?_)
 have hl_m_2:(m.2.2).length≤9223372036854775807:=hb.1.2.2.1.1
 obtain ⟨h1,h2,h3,h4,h5,h6⟩:=hp
 have hd:=idx h3 h4 h1
 have h36:m.1*m.2.1≤36:=by
  have:=Int.mul_le_mul h5 h2 h1 (by omega:(0:Int)≤6);omega
 rw [Qq (x:=i+1) (by omega) (by omega),Qq (x:=i*m.2.1) (by omega) (by omega),Qq (x:=(i+1)*m.2.1) (by omega) (by omega)]
 exact ⟨⟨by omega,by omega,by omega⟩,R_eq rfl⟩
theorem QXx:Qe Tryz.prog QlP:=Qh fun x h=>QEq x.1 x.2.1 h
def QdD (t:(List Int)):TRes:=zra (zcs [TI] t)
def QnK:TRow:=Qf 240 [(.a [TI,TI,(.sl [TI])]),(.c TI)] fun x=>(some (Qnp x.1 x.2.1),QdD (Z7 x.1 x.2.1))
def Qlk:List TRow:=[]
def Qyo:TCode :=
 (zsq [(zsq [(.reg [zmv 8 6,zfa 9 2 0,zld 10 9 1,zbi 11 .lss 8 10]),(.cond 11 .skip (.exit 0))]),(.block 1 (.reg [zmv 14 5,zfa 15 2 2,zld 16 15 1,zmv 17 6,zfa 18 2 1,zld 19 18 1,zbi 20 .mul 17 19,zmv 21 1,zbi 22 .add 20 21,zia 23 16 22 [TI],zld 24 23 1,zop 25 (.bsl 3 [TI] [24]),zop 26 (.app 14 25 3 [TI]),zmv 5 26])),(.reg [zmv 12 6,zbi 13 .add 12 (zki 1),zmv 6 13])])
def QzD:List (Nat × Md):=[(1,.one .d),(2,.b [.d,.d,.d]),(5,.one .f),(6,.one .d)]
def Qro:TCode :=
 (zsq [(.reg [zmv 27 5,zmv 4 27]),.ret])
def QHF:TCode :=
 (zsq [(.reg [zop 2 (.box 185 0 3),zmv 4 (.k (.n [TI]))]),(.reg [zop 7 (.bsl 3 [TI] []),zmv 5 7]),(zsq [(.reg [zmv 6 (zki 0)]),(.block 0 (.loop QzD Qyo))]),Qro])
def Qrh:List (ARv × Md):=[(.t 4,.one .d)]
def Qy3:Qb:=TQ 0 0 Qrh K
def QUR:Qb:=Qseq (tawp Qlk 0 Qro (Qy3 K)) (Qy3 K)
def QXq:Qb:=Qblk 0 (QUR K)
def QjC (m:TMat) (k:Int) (i:Int) (out:List Int):Prop:=Loop Qlk 0 QzD Qyo (QXq K) ⟨[(1,(zci k)),(2,(.p 0 0 0)),(5,(.r [TI] 1 0 out.length)),(6,(zci i))],[(0,(.box [(zci m.1),(zci m.2.1),(zcs [TI] m.2.2)])),(1,(.sl 3 [TI] true out))],2⟩
theorem QD6 (m:TMat) (k:Int) (i:Int) (out:List Int) (h :
 (zif (decide (i<m.1)) ((((0:Int)≤w64 ((w64 (i*m.2.1))+k)∧Int.toNat (w64 ((w64 (i*m.2.1))+k))<(m.2.2).length)∧((out.length=out.length∨out.length+1≤out.length)∧out.length+1≤big))∧(QjC K m k (w64 (i+(1:Int))) (List.take (out.length+1) ((List.take out.length out)++([(gtd (0:Int) m.2.2 (Int.toNat (w64 ((w64 (i*m.2.1))+k))))]))))) (K (QdD (List.take out.length (List.drop 0 out)))))):QjC K m k i out :=
 Loop.of (by kernel_rfl) h
theorem QXU (m:TMat) (k:Int) (h :
 (QjC K m k 0 ([]:List Int))):Hold (tawp Qlk (0+0) QHF (TQ 0 0 Qrh K) (Qd [(.a [(.c TI m.1),(.c TI m.2.1),(.c (.sl [TI]) m.2.2)]),(.c TI k)])) :=
 Hold.of (by kernel_rfl) h
theorem QRb (m:TMat) (k:Int) (hp:Qnp m k):TCon Tryz.prog 240 [(.a [(.c TI m.1),(.c TI m.2.1),(.c (.sl [TI]) m.2.2)]),(.c TI k)] (QdD (Z7 m k)):=by
 refine Qj rfl fun hb=>tcg (n:=28) (sg:=QnK.sg) Qg TOk.nil (by kernel_rfl) (by kernel_rfl) (QXU _ m k ?_)
 have hl_m_2:(m.2.2).length≤9223372036854775807:=hb.1.2.2.1.1
 obtain ⟨h2,h3,h4,h5,h6,h7⟩:=hp
 have h36:m.1*m.2.1≤36:=by
  have:=Int.mul_le_mul h6 h2 (by omega) (by omega:(0:Int)≤6);omega
 refine Jb m.1.toNat (fun j=>QjC (fun r'=>r'=QdD (Z7 m k)) m k (j:Int) ((List.range j).map fun i:Nat=>gtd 0 m.2.2 ((i:Int)*m.2.1+k).toNat)) ?_ ?_
 ·refine QD6 (fun r'=>r'=QdD (Z7 m k)) m k _ _ ⟨fun h=>by simp at h;omega,fun _=>R_eq ?_⟩
  unfold Z7;rw [List.drop_zero,List.take_length]
 ·intro j hj ih
  have hd:=idx (r:=j) (R:=m.1) (C:=m.2.1) (by omega) (by omega) (by omega)
  refine QD6 (fun r'=>r'=QdD (Z7 m k)) m k _ _ ⟨fun _=>?_,fun h=>by simp at h;omega⟩
  rw [Qq (x:=(j:Int)*m.2.1) (by omega) (by omega),Qq (x:=(j:Int)*m.2.1+k) (by omega) (by omega),sc1 (by omega),Zf]
  rw [Qfj] at ih
  exact ⟨⟨⟨by omega,by omega⟩,room (by simp;omega)⟩,ih⟩
theorem QEP:Qe Tryz.prog QnK:=Qh fun x h=>QRb x.1 x.2.1 h
def QcC (t:(List Int) × Bool):TRes:=zra (.tp [(zcs [TI] t.1),(zcb t.2)])
def QgK:TRow:=Qf 211 [(.a [TI,TI,(.sl [TI])]),(.c (.sl [TI]))] fun x=>(none,QcC (Zm x.1 x.2.1))
def Qlv:List TRow:=[Qgm,JO,QfI]
def QD3:TCode :=
 (zsq [(zsq [(.reg [zmv 22 8,zfa 23 2 0,zld 24 23 1,zbi 25 .lss 22 24]),(.cond 25 .skip (.exit 0))]),(.block 1 (zsq [(.reg [zfa 29 2 2,zld 30 29 1,zmv 31 8,zfa 32 2 1,zld 33 32 1,zbi 34 .mul 31 33,zmv 35 8,zbi 36 .add 35 (zki 1),zfa 37 2 1,zld 38 37 1,zbi 39 .mul 36 38,zop 40 (.slc 30 (some 34) (some 39) [TI]),zmv 41 1,zca 42 188 [40,41],zmv 28 42,zex 43 28 0,zex 44 28 1,zmv 9 43,zmv 10 44]),(.reg [zmv 45 6,zmv 46 9,zop 47 (.bsl 3 [TI] [46]),zop 48 (.app 45 47 3 [TI]),zmv 6 48]),(.reg [zmv 49 7,zmv 50 49,.grp 50 false [zmv 51 10] 52 51,zmv 7 52])])),(.reg [zmv 26 8,zbi 27 .add 26 (zki 1),zmv 8 27])])
def QCh:List (Nat × Md):=[(1,.one .d),(2,.b [.d,.d,.d]),(6,.one .f),(7,.one .d),(8,.one .d)]
def Qr3:TCode :=
 (zsq [(.reg [zmv 53 6,zmv 54 7,zmv 4 53,zmv 5 54]),.ret])
def QNz:TCode :=
 (zsq [(.reg [zop 2 (.box 185 0 3),zmv 4 (.k (.n [TI])),zmv 5 (zkb false)]),(zsq [(.reg [zLd 11 2 3,zca 12 233 [11],zno 13 12,zmv 14 13,.grp 14 false [zmv 15 1,zfa 16 2 1,zld 17 16 1,zca 18 114 [15,17],zno 19 18] 20 19]),(.cond 20 (zsq [(.reg [zmv 4 (.k (.n [TI])),zmv 5 (zkb false)]),.ret]) .skip)]),(.reg [zop 21 (.bsl 3 [TI] []),zmv 6 21]),(.reg [zmv 7 (zkb false)]),(zsq [(.reg [zmv 8 (zki 0)]),(.block 0 (.loop QCh QD3))]),Qr3])
def Qtj:List (ARv × Md):=[(.t 4,.one .d),(.t 5,.one .d)]
def QCN:Qb:=TQ 0 0 Qtj K
def QJw:Qb:=Qseq (tawp Qlv 0 Qr3 (QCN K)) (QCN K)
def QJW:Qb:=Qblk 0 (QJw K)
def Qkb (m:TMat) (x:List Int) (out:Bool) (r:Int) (v:List Int):Prop:=Loop Qlv 0 QCh QD3 (QJW K) ⟨[(1,(zcs [TI] x)),(2,(.p 0 0 0)),(6,(.r [TI] 1 0 v.length)),(7,(zcb out)),(8,(zci r))],[(0,(.box [(zci m.1),(zci m.2.1),(zcs [TI] m.2.2)])),(1,(.sl 3 [TI] true v))],2⟩
theorem Qvs (m:TMat) (x:List Int) (out:Bool) (r:Int) (v:List Int) (h :
 (zif (decide (r<m.1)) (((0:Int)≤w64 (r*m.2.1)∧w64 (r*m.2.1)≤w64 ((w64 (r+(1:Int)))*m.2.1)∧w64 ((w64 (r+(1:Int)))*m.2.1)≤((m.2.2).length:Int))∧(((v.length=v.length∨v.length+1≤v.length)∧v.length+1≤big)∧(Qkb K m x (out||((Q0 (List.take (Int.toNat (w64 ((w64 (r+(1:Int)))*m.2.1))-Int.toNat (w64 (r*m.2.1))) (List.drop (Int.toNat (w64 (r*m.2.1))) m.2.2)) x).2)) (w64 (r+(1:Int))) (List.take (v.length+1) ((List.take v.length v)++([(Q0 (List.take (Int.toNat (w64 ((w64 (r+(1:Int)))*m.2.1))-Int.toNat (w64 (r*m.2.1))) (List.drop (Int.toNat (w64 (r*m.2.1))) m.2.2)) x).1])))))) (K (QcC ((List.take v.length (List.drop 0 v)),out))))):Qkb K m x out r v :=
 Loop.of (by kernel_rfl) h
theorem QQo (m:TMat) (x:List Int) (h :
 (zif ((!(Zy m))||(!(Qr x m.2.1))) (K (QcC ([],false))) (Qkb K m x false 0 ([]:List Int)))):Hold (tawp Qlv (0+0) QNz (TQ 0 0 Qtj K) (Qd [(.a [(.c TI m.1),(.c TI m.2.1),(.c (.sl [TI]) m.2.2)]),(.c (.sl [TI]) x)])) :=
 Hold.of (by kernel_rfl) h
theorem QXE (m:TMat) (x:List Int):TCon Tryz.prog 211 [(.a [(.c TI m.1),(.c TI m.2.1),(.c (.sl [TI]) m.2.2)]),(.c (.sl [TI]) x)] (QcC (Zm m x)):=by
 refine Qj rfl fun hb=>tcg (n:=55) (sg:=QgK.sg) Qg (TOk.cons Qp3 (TOk.cons Qav (TOk.cons Qpv TOk.nil))) (by kernel_rfl) (by kernel_rfl) (QQo _ m x ?_)
 have hl_m_2:(m.2.2).length≤9223372036854775807:=hb.1.2.2.1.1
 have hl_x:x.length≤9223372036854775807:=hb.2.1.1
 refine ⟨fun h=>R_eq (by rw [Qrs];intro h2;simp [h2.1,h2.2] at h),fun h=>?_⟩
 have hp:Zy m=true∧Qr x m.2.1=true:=by simpa using h
 obtain ⟨h1,h2,h3,h4,h5,h6,h7⟩:=Qds hp.1
 have hv:(Zm m x)=((List.range m.1.toNat).map fun i:Nat=>(Q0 (Y8 m i) x).1,(List.range m.1.toNat).any fun i:Nat=>(Q0 (Y8 m i) x).2):=by unfold Zm;rw [if_pos (by simp [hp])]
 refine Jb m.1.toNat (fun j=>Qkb (fun r'=>r'=QcC (Zm m x)) m x ((List.range j).any fun i:Nat=>(Q0 (Y8 m i) x).2) (j:Int) ((List.range j).map fun i:Nat=>(Q0 (Y8 m i) x).1)) ?_ ?_
 ·refine Qvs (fun r'=>r'=QcC (Zm m x)) m x _ _ _ ⟨fun h=>by simp at h;omega,fun _=>R_eq ?_⟩
  rw [hv,List.drop_zero,List.take_length]
 ·intro j hj ih
  have hd:=idx (r:=j) (R:=m.1) (C:=m.2.1) (by omega) (by omega) (by omega)
  refine Qvs (fun r'=>r'=QcC (Zm m x)) m x _ _ _ ⟨fun _=>?_,fun h=>by simp at h;omega⟩
  rw [Qq (x:=(j:Int)+1) (by omega) (by omega),Qq (x:=(j:Int)*m.2.1) (by omega) (by omega),Qq (x:=((j:Int)+1)*m.2.1) (by omega) (by omega),Zf]
  rw [Qfj,Qle] at ih
  exact ⟨⟨by omega,by omega,by omega⟩,room (by simp;omega),ih⟩
theorem QDY:Qe Tryz.prog QgK:=Qh fun x _=>QXE x.1 x.2.1
def Qcl (t:(List Int) × Bool):TRes:=zra (.tp [(zcs [TI] t.1),(zcb t.2)])
def Qp7:TRow:=Qf 224 [(.a [TI,TI,(.sl [TI])]),(.c (.sl [TI]))] fun x=>(none,Qcl (Zm x.1 x.2.1))
def Qm9:List TRow:=[Qhi,Qar,QlP,QeD]
def QCn:TCode :=
 (zsq [(zsq [(.reg [zmv 28 8,zfa 29 2 0,zld 30 29 1,zbi 31 .lss 28 30]),(.cond 31 .skip (.exit 0))]),(.block 1 (zsq [(.reg [zLd 35 2 3,zmv 36 8,zca 37 237 [35,36],zmv 38 1,zca 39 206 [37,38],zmv 34 39,zex 40 34 0,zex 41 34 1,zmv 9 40,zmv 10 41]),(.reg [zmv 42 6,zmv 43 9,zop 44 (.bsl 3 [TI] [43]),zop 45 (.app 42 44 3 [TI]),zmv 6 45]),(.reg [zmv 46 7,zmv 47 46,.grp 47 false [zmv 48 10] 49 48,zmv 7 49])])),(.reg [zmv 32 8,zbi 33 .add 32 (zki 1),zmv 8 33])])
def QtX:List (Nat × Md):=[(1,.one .d),(2,.b [.d,.d,.d]),(6,.one .f),(7,.one .d),(8,.one .d)]
def Qs4:TCode :=
 (zsq [(.reg [zmv 50 6,zmv 51 7,zmv 4 50,zmv 5 51]),.ret])
def QQQ:TCode :=
 (zsq [(.reg [zop 2 (.box 185 0 3),zmv 4 (.k (.n [TI])),zmv 5 (zkb false)]),(.reg [zop 11 (.bsl 3 [TI] []),zmv 6 11]),(.reg [zmv 7 (zkb false)]),(zsq [(.reg [zLd 12 2 3,zca 13 236 [12],zno 14 13,zmv 15 14,.grp 15 false [zmv 16 1,zca 17 42 [16],zno 18 17] 19 18,zmv 20 19,.grp 20 false [zmv 21 1,zle 22 21,zfa 23 2 1,zld 24 23 1,zbi 25 .neq 22 24] 26 25]),(.cond 26 (zsq [(.reg [zmv 27 6,zmv 4 27,zmv 5 (zkb false)]),.ret]) .skip)]),(zsq [(.reg [zmv 8 (zki 0)]),(.block 0 (.loop QtX QCn))]),Qs4])
def QsL:List (ARv × Md):=[(.t 4,.one .d),(.t 5,.one .d)]
def Qzz:Qb:=TQ 0 0 QsL K
def QXf:Qb:=Qseq (tawp Qm9 0 Qs4 (Qzz K)) (Qzz K)
def QMX:Qb:=Qblk 0 (QXf K)
def QhJ (m:TMat) (x:List Int) (sat:Bool) (i:Int) (out:List Int):Prop:=Loop Qm9 0 QtX QCn (QMX K) ⟨[(1,(zcs [TI] x)),(2,(.p 0 0 0)),(6,(.r [TI] 1 0 out.length)),(7,(zcb sat)),(8,(zci i))],[(0,(.box [(zci m.1),(zci m.2.1),(zcs [TI] m.2.2)])),(1,(.sl 3 [TI] true out))],2⟩
theorem QBw (m:TMat) (x:List Int) (sat:Bool) (i:Int) (out:List Int) (h :
 (zif (decide (i<m.1)) ((Qqk m i)∧(((out.length=out.length∨out.length+1≤out.length)∧out.length+1≤big)∧(QhJ K m x (sat||((Q0 (Y8 m i) x).2)) (w64 (i+(1:Int))) (List.take (out.length+1) ((List.take out.length out)++([(Q0 (Y8 m i) x).1])))))) (K (Qcl ((List.take out.length (List.drop 0 out)),sat))))):QhJ K m x sat i out :=
 Loop.of (by kernel_rfl) h
theorem QVp (m:TMat) (x:List Int) (h :
 (zif (((!(Zy m))||(!(QU x)))||((x.length:Int) != m.2.1)) (K (Qcl (([]:List Int),false))) (QhJ K m x false 0 ([]:List Int)))):Hold (tawp Qm9 (0+0) QQQ (TQ 0 0 QsL K) (Qd [(.a [(.c TI m.1),(.c TI m.2.1),(.c (.sl [TI]) m.2.2)]),(.c (.sl [TI]) x)])) :=
 Hold.of (by kernel_rfl) h
theorem QMg (m:TMat) (x:List Int):TCon Tryz.prog 224 [(.a [(.c TI m.1),(.c TI m.2.1),(.c (.sl [TI]) m.2.2)]),(.c (.sl [TI]) x)] (Qcl (Zm m x)):=by
 refine Qj rfl fun hb=>tcg (n:=52) (sg:=Qp7.sg) Qg (TOk.cons QCu (TOk.cons Qbm (TOk.cons QXx (TOk.cons QhI TOk.nil)))) (by kernel_rfl) (by kernel_rfl) (QVp _ m x ?_)
 have hl_m_2:(m.2.2).length≤9223372036854775807:=hb.1.2.2.1.1
 have hl_x:x.length≤9223372036854775807:=hb.2.1.1
 have hg:∀ n:Int,(!(QU x)||((x.length:Int) != n)) = !(Qr x n):=fun n=>by unfold Qr;simp [bne]
 rw [Bool.or_assoc,hg]
 refine ⟨fun h=>R_eq (by rw [Qrs];intro h2;simp [h2.1,h2.2] at h),fun h=>?_⟩
 have hp:Zy m=true∧Qr x m.2.1=true:=by simpa using h
 obtain ⟨h1,h2,h3,h4,h5,h6,h7⟩:=Qds hp.1
 have hv:(Zm m x)=((List.range m.1.toNat).map fun i:Nat=>(Q0 (Y8 m i) x).1,(List.range m.1.toNat).any fun i:Nat=>(Q0 (Y8 m i) x).2):=by unfold Zm;rw [if_pos (by simp [hp])]
 refine Jb m.1.toNat (fun j=>QhJ (fun r'=>r'=Qcl (Zm m x)) m x ((List.range j).any fun i:Nat=>(Q0 (Y8 m i) x).2) (j:Int) ((List.range j).map fun i:Nat=>(Q0 (Y8 m i) x).1)) ?_ ?_
 ·refine QBw (fun r'=>r'=Qcl (Zm m x)) m x _ _ _ ⟨fun h=>by simp at h;omega,fun _=>R_eq ?_⟩
  rw [hv,List.drop_zero,List.take_length]
 ·intro j hj ih
  have hd:=idx (r:=j) (R:=m.1) (C:=m.2.1) (by omega) (by omega) (by omega)
  refine QBw (fun r'=>r'=Qcl (Zm m x)) m x _ _ _ ⟨fun _=>?_,fun h=>by simp at h;omega⟩
  rw [sc1 (by omega),Zf]
  rw [Qfj,Qle] at ih
  exact ⟨⟨by omega,by omega,by omega,by omega,by omega,h5⟩,room (by simp;omega),ih⟩
theorem QPU:Qe Tryz.prog Qp7:=Qh fun x _=>QMg x.1 x.2.1
def Qa0 (t:TMat):TRes:=zra (.a [(zci t.1),(zci t.2.1),(zcs [TI] t.2.2)])
def QoE:TRow:=Qf 235 [(.a [TI,TI,(.sl [TI])])] fun x=>(none,Qa0 (YS x.1))
def Qex:List TRow:=[Qgm]
def Qrl:TCode :=
 (zsq [(zsq [(.reg [zmv 21 5,zfa 22 1 0,zld 23 22 1,zbi 24 .lss 21 23]),(.cond 24 .skip (.exit 2))]),(.block 3 (.draw [zfa 27 3 2,zld 28 27 1,zfa 29 1 2,zld 30 29 1,zmv 31 5,zfa 32 1 1,zld 33 32 1,zbi 34 .mul 31 33,zmv 35 4,zbi 36 .add 34 35,zia 37 30 36 [TI],zld 38 37 1,zop 39 (.bsl 3 [TI] [38]),zop 40 (.app 28 39 3 [TI]),zfa 41 3 2,zst 41 40 1] [(0,12),(1,12)])),(.reg [zmv 25 5,zbi 26 .add 25 (zki 1),zmv 5 26])])
def QtV:List (Nat × Md):=[(1,.b [.d,.d,.d]),(2,.b [.d,.d,.d]),(3,.b [.d,.d,.f]),(4,.one .d),(5,.one .d)]
def Qsz:TCode :=
 (.reg [zmv 19 4,zbi 20 .add 19 (zki 1),zmv 4 20])
def QqC:TCode :=
 (zsq [(zsq [(.reg [zmv 15 4,zfa 16 1 1,zld 17 16 1,zbi 18 .lss 15 17]),(.cond 18 .skip (.exit 0))]),(.block 1 (zsq [(.reg [zmv 5 (zki 0)]),(.block 2 (.loop QtV Qrl))])),Qsz])
def QgA:List (Nat × Md):=[(1,.b [.d,.d,.d]),(2,.b [.d,.d,.d]),(3,.b [.d,.d,.o 3]),(4,.one .d)]
def Qtc:TCode :=
 (zsq [(.reg [zLd 42 3 3,zst 2 42 3]),.ret])
def QW1:TCode :=
 (zsq [(.reg [zop 1 (.box 185 0 3),zop 2 (.new 185 (z0s [TI,TI,(.sl [TI])]))]),(zsq [(.reg [zLd 6 1 3,zca 7 233 [6],zno 8 7]),(.cond 8 (zsq [(.reg [zop 9 (.build (z0s [TI,TI,(.sl [TI])]) []),zst 2 9 3]),.ret]) .skip)]),(.reg [zfa 10 1 1,zld 11 10 1,zfa 12 1 0,zld 13 12 1,zop 14 (.build (z0s [TI,TI,(.sl [TI])]) [(0,1,11),(1,1,13)]),zop 3 (.new 185 (z0s [TI,TI,(.sl [TI])])),zst 3 14 3]),(zsq [(.reg [zmv 4 (zki 0)]),(.block 0 (.loop QgA QqC))]),Qtc])
def QCr:List (ARv × Md):=[(.l 2 3 true,.b [.d,.d,.d])]
def Qrq:Qb:=TQ 0 0 QCr K
def QGR:Qb:=Qseq (tawp Qex 0 Qtc (Qrq K)) (Qrq K)
def Qph:Qb:=Qblk 0 (QGR K)
def Qug:Qb:=Qseq (fun s'=>Loop Qex 0 QgA QqC (Qph K) (gc 0 QgA s')) (Qph K)
def QIH:Qb:=Qseq (tawp Qex 0 Qsz (Qug K)) (Qug K)
def QKS:Qb:=Qblk 1 (QIH K)
def QS7:Qb:=Qblk 2 (QKS K)
def QiM (m:TMat) (r:Int) (t2:List Int) (c:Int):Prop:=Loop Qex 0 QtV Qrl (QS7 K) ⟨[(1,(.p 0 0 0)),(2,(.p 1 0 0)),(3,(.p 3 0 0)),(4,(zci c)),(5,(zci r))],[(0,(.box [(zci m.1),(zci m.2.1),(zcs [TI] m.2.2)])),(1,(.box [(zci 0),(zci 0),(zcs [TI] ([]))])),(2,(.sl 3 [TI] true t2)),(3,(.box [(zci m.2.1),(zci m.1),(.r [TI] 2 0 t2.length)]))],4⟩
def Qjh (m:TMat) (c:Int) (t21:List Int):Prop:=Loop Qex 0 QgA QqC (Qph K) ⟨[(1,(.p 0 0 0)),(2,(.p 1 0 0)),(3,(.p 3 0 0)),(4,(zci c))],[(0,(.box [(zci m.1),(zci m.2.1),(zcs [TI] m.2.2)])),(1,(.box [(zci 0),(zci 0),(zcs [TI] ([]))])),(2,(.sl 3 [TI] true t21)),(3,(.box [(zci m.2.1),(zci m.1),(.r [TI] 2 0 t21.length)]))],4⟩
theorem QB8 (m:TMat) (r:Int) (t2:List Int) (c:Int) (h :
 (zif (decide (r<m.1)) ((((0:Int)≤w64 ((w64 (r*m.2.1))+c)∧Int.toNat (w64 ((w64 (r*m.2.1))+c))<(m.2.2).length)∧((t2.length=t2.length∨t2.length+1≤t2.length)∧t2.length+1≤big))∧(QiM K m (w64 (r+(1:Int))) (List.take (t2.length+1) ((List.take t2.length t2)++([(gtd (0:Int) m.2.2 (Int.toNat (w64 ((w64 (r*m.2.1))+c))))]))) c)) (Qjh K m (w64 (c+(1:Int))) (List.take t2.length t2)))):QiM K m r t2 c :=
 Loop.of (by kernel_rfl) h
theorem Qzc (m:TMat) (c:Int) (t21:List Int) (h :
 (zif (decide (c<m.2.1)) (QiM K m 0 (List.take t21.length t21) c) (K (Qa0 (m.2.1,m.1,(List.take t21.length (List.drop 0 t21))))))):Qjh K m c t21 :=
 Loop.of (by kernel_rfl) h
theorem QWj (m:TMat) (h :
 (zif (!(Zy m)) (K (Qa0 ((0:Int),(0:Int),[]))) (Qjh K m 0 ([]:List Int)))):Hold (tawp Qex (0+0) QW1 (TQ 0 0 QCr K) (Qd [(.a [(.c TI m.1),(.c TI m.2.1),(.c (.sl [TI]) m.2.2)])])) :=
 Hold.of (by kernel_rfl) h
theorem QGm (m:TMat):TCon Tryz.prog 235 [(.a [(.c TI m.1),(.c TI m.2.1),(.c (.sl [TI]) m.2.2)])] (Qa0 (YS m)):=by
 refine Qj rfl fun hb=>tcg (n:=43) (sg:=QoE.sg) Qg (TOk.cons Qp3 TOk.nil) (by kernel_rfl) (by kernel_rfl) (QWj _ m ?_)
 have hl_m_2:(m.2.2).length≤9223372036854775807:=hb.1.2.2.1.1
 refine ⟨fun h=>R_eq (by unfold YS;rw [if_neg (by simpa using h)]),fun h=>?_⟩
 have hp:Zy m=true:=by simpa using h
 obtain ⟨h1,h2,h3,h4,h5,h6,h7⟩:=Qds hp
 refine Jb m.2.1.toNat (fun k=>Qjh (fun r'=>r'=Qa0 (YS m)) m (k:Int) ((List.range k).flatMap fun k:Nat=>Z7 m k)) ?_ ?_
 ·refine Qzc (fun r'=>r'=Qa0 (YS m)) m _ _ ⟨fun h=>by simp at h;omega,fun _=>R_eq ?_⟩
  rw [List.drop_zero,List.take_length];unfold YS;rw [if_pos hp]
 ·intro k hk ih
  refine Qzc (fun r'=>r'=Qa0 (YS m)) m _ _ ⟨fun _=>?_,fun h=>by simp at h;omega⟩
  rw [List.take_length]
  have hk36:((List.range k).flatMap fun k:Nat=>Z7 m k).length≤36:=by
   rw [QoG (R:=m.1.toNat) k (fun j _=>Qp5 m j)]
   have:k*m.1.toNat≤6*6:=Nat.mul_le_mul (by omega) (by omega)
   omega
  have inner:=Jb m.1.toNat (fun j=>QiM (fun r'=>r'=Qa0 (YS m)) m (j:Int) (((List.range k).flatMap fun k:Nat=>Z7 m k)++(List.range j).map fun i:Nat=>gtd 0 m.2.2 ((i:Int)*m.2.1+(k:Nat)).toNat) (k:Int)) ?_ ?_
  ·simpa using inner
  ·refine QB8 (fun r'=>r'=Qa0 (YS m)) m _ _ _ ⟨fun h=>by simp at h;omega,fun _=>?_⟩
   rw [List.take_length,sc1 (by omega)]
   rw [Qew] at ih
   exact ih
  ·intro j hj ih2
   have hd:=idx (r:=j) (R:=m.1) (C:=m.2.1) (by omega) (by omega) (by omega)
   refine QB8 (fun r'=>r'=Qa0 (YS m)) m _ _ _ ⟨fun _=>?_,fun h=>by simp at h;omega⟩
   rw [Qq (x:=(j:Int)*m.2.1) (by omega) (by omega),Qq (x:=(j:Int)*m.2.1+(k:Int)) (by omega) (by omega),sc1 (by omega),Zf]
   rw [Qfj,← List.append_assoc] at ih2
   exact ⟨⟨⟨by omega,by omega⟩,room (by rw [List.length_append];simp only [List.length_map,List.length_range];omega)⟩,ih2⟩
theorem QF7:Qe Tryz.prog QoE:=Qh fun x _=>QGm x.1
def Qkk (t:(List Int) × Bool):TRes:=zra (.tp [(zcs [TI] t.1),(zcb t.2)])
def Qn6:TRow:=Qf 218 [(.a [TI,TI,(.sl [TI])]),(.c (.sl [TI]))] fun x=>(none,Qkk (Zv x.1 x.2.1))
def QTD:List TRow:=[Qgm,JO,QoE,QgK]
def QRC:TCode :=
 (zsq [(.reg [zop 2 (.box 185 0 3),zmv 4 (.k (.n [TI])),zmv 5 (zkb false)]),(zsq [(.reg [zLd 6 2 3,zca 7 233 [6],zno 8 7,zmv 9 8,.grp 9 false [zmv 10 1,zfa 11 2 0,zld 12 11 1,zca 13 114 [10,12],zno 14 13] 15 14]),(.cond 15 (zsq [(.reg [zmv 4 (.k (.n [TI])),zmv 5 (zkb false)]),.ret]) .skip)]),(.reg [zLd 16 2 3,zca 17 235 [16],zmv 18 1,zca 19 211 [17,18],zex 20 19 0,zex 21 19 1,zmv 4 20,zmv 5 21]),.ret])
def QHH:List (ARv × Md):=[(.t 4,.one .d),(.t 5,.one .d)]
theorem QVj (m:TMat) (d:List Int) (h :
 (zif ((!(Zy m))||(!(Qr d m.1))) (K (Qkk ([],false))) (K (Qkk ((Zm (YS m) d).1,(Zm (YS m) d).2))))):Hold (tawp QTD (0+0) QRC (TQ 0 0 QHH K) (Qd [(.a [(.c TI m.1),(.c TI m.2.1),(.c (.sl [TI]) m.2.2)]),(.c (.sl [TI]) d)])) :=
 Hold.of (by kernel_rfl) h
theorem QMs (m:TMat) (d:List Int):TCon Tryz.prog 218 [(.a [(.c TI m.1),(.c TI m.2.1),(.c (.sl [TI]) m.2.2)]),(.c (.sl [TI]) d)] (Qkk (Zv m d)):=by
 refine Qj rfl fun hb=>tcg (n:=22) (sg:=Qn6.sg) Qg (TOk.cons Qp3 (TOk.cons Qav (TOk.cons QF7 (TOk.cons QDY TOk.nil)))) (by kernel_rfl) (by kernel_rfl) (QVj _ m d ?_)
 have hl_m_2:(m.2.2).length≤9223372036854775807:=hb.1.2.2.1.1
 have hl_d:d.length≤9223372036854775807:=hb.2.1.1
 refine ⟨fun h=>R_eq (by rw [QzV];intro h2;simp [h2.1,h2.2] at h),fun h=>?_⟩
 have hp:Zy m=true∧Qr d m.1=true:=by simpa using h
 exact R_eq (QLl hp.1 hp.2)
theorem QNm:Qe Tryz.prog Qn6:=Qh fun x _=>QMs x.1 x.2.1
def QcM (t:(List Int) × Bool):TRes:=zra (.tp [(zcs [TI] t.1),(zcb t.2)])
def QpH:TRow:=Qf 231 [(.a [TI,TI,(.sl [TI])]),(.c (.sl [TI]))] fun x=>(none,QcM (Zv x.1 x.2.1))
def Qp0:List TRow:=[Qhi,Qar,QnK,QeD]
def Qw7:TCode :=
 (zsq [(zsq [(.reg [zmv 28 8,zfa 29 2 1,zld 30 29 1,zbi 31 .lss 28 30]),(.cond 31 .skip (.exit 0))]),(.block 1 (zsq [(.reg [zLd 35 2 3,zmv 36 8,zca 37 240 [35,36],zmv 38 1,zca 39 206 [37,38],zmv 34 39,zex 40 34 0,zex 41 34 1,zmv 9 40,zmv 10 41]),(.reg [zmv 42 6,zmv 43 9,zop 44 (.bsl 3 [TI] [43]),zop 45 (.app 42 44 3 [TI]),zmv 6 45]),(.reg [zmv 46 7,zmv 47 46,.grp 47 false [zmv 48 10] 49 48,zmv 7 49])])),(.reg [zmv 32 8,zbi 33 .add 32 (zki 1),zmv 8 33])])
def QDS:List (Nat × Md):=[(1,.one .d),(2,.b [.d,.d,.d]),(6,.one .f),(7,.one .d),(8,.one .d)]
def QD0:TCode :=
 (zsq [(.reg [zmv 50 6,zmv 51 7,zmv 4 50,zmv 5 51]),.ret])
def QJk:TCode :=
 (zsq [(.reg [zop 2 (.box 185 0 3),zmv 4 (.k (.n [TI])),zmv 5 (zkb false)]),(.reg [zop 11 (.bsl 3 [TI] []),zmv 6 11]),(.reg [zmv 7 (zkb false)]),(zsq [(.reg [zLd 12 2 3,zca 13 236 [12],zno 14 13,zmv 15 14,.grp 15 false [zmv 16 1,zca 17 42 [16],zno 18 17] 19 18,zmv 20 19,.grp 20 false [zmv 21 1,zle 22 21,zfa 23 2 0,zld 24 23 1,zbi 25 .neq 22 24] 26 25]),(.cond 26 (zsq [(.reg [zmv 27 6,zmv 4 27,zmv 5 (zkb false)]),.ret]) .skip)]),(zsq [(.reg [zmv 8 (zki 0)]),(.block 0 (.loop QDS Qw7))]),QD0])
def Qs2:List (ARv × Md):=[(.t 4,.one .d),(.t 5,.one .d)]
def QBu:Qb:=TQ 0 0 Qs2 K
def QTl:Qb:=Qseq (tawp Qp0 0 QD0 (QBu K)) (QBu K)
def QLd:Qb:=Qblk 0 (QTl K)
def QjO (m:TMat) (d:List Int) (sat:Bool) (k:Int) (out:List Int):Prop:=Loop Qp0 0 QDS Qw7 (QLd K) ⟨[(1,(zcs [TI] d)),(2,(.p 0 0 0)),(6,(.r [TI] 1 0 out.length)),(7,(zcb sat)),(8,(zci k))],[(0,(.box [(zci m.1),(zci m.2.1),(zcs [TI] m.2.2)])),(1,(.sl 3 [TI] true out))],2⟩
theorem Qzh (m:TMat) (d:List Int) (sat:Bool) (k:Int) (out:List Int) (h :
 (zif (decide (k<m.2.1)) ((Qnp m k)∧(((out.length=out.length∨out.length+1≤out.length)∧out.length+1≤big)∧(QjO K m d (sat||((Q0 (Z7 m k) d).2)) (w64 (k+(1:Int))) (List.take (out.length+1) ((List.take out.length out)++([(Q0 (Z7 m k) d).1])))))) (K (QcM ((List.take out.length (List.drop 0 out)),sat))))):QjO K m d sat k out :=
 Loop.of (by kernel_rfl) h
theorem QM4 (m:TMat) (d:List Int) (h :
 (zif (((!(Zy m))||(!(QU d)))||((d.length:Int) != m.1)) (K (QcM (([]:List Int),false))) (QjO K m d false 0 ([]:List Int)))):Hold (tawp Qp0 (0+0) QJk (TQ 0 0 Qs2 K) (Qd [(.a [(.c TI m.1),(.c TI m.2.1),(.c (.sl [TI]) m.2.2)]),(.c (.sl [TI]) d)])) :=
 Hold.of (by kernel_rfl) h
theorem QFn (m:TMat) (d:List Int):TCon Tryz.prog 231 [(.a [(.c TI m.1),(.c TI m.2.1),(.c (.sl [TI]) m.2.2)]),(.c (.sl [TI]) d)] (QcM (Zv m d)):=by
 refine Qj rfl fun hb=>tcg (n:=52) (sg:=QpH.sg) Qg (TOk.cons QCu (TOk.cons Qbm (TOk.cons QEP (TOk.cons QhI TOk.nil)))) (by kernel_rfl) (by kernel_rfl) (QM4 _ m d ?_)
 have hl_m_2:(m.2.2).length≤9223372036854775807:=hb.1.2.2.1.1
 have hl_d:d.length≤9223372036854775807:=hb.2.1.1
 have hg:∀ n:Int,(!(QU d)||((d.length:Int) != n)) = !(Qr d n):=fun n=>by unfold Qr;simp [bne]
 rw [Bool.or_assoc,hg]
 refine ⟨fun h=>R_eq (by rw [QzV];intro h2;simp [h2.1,h2.2] at h),fun h=>?_⟩
 have hp:Zy m=true∧Qr d m.1=true:=by simpa using h
 obtain ⟨h1,h2,h3,h4,h5,h6,h7⟩:=Qds hp.1
 have hv:(Zv m d)=((List.range m.2.1.toNat).map fun k:Nat=>(Q0 (Z7 m k) d).1,(List.range m.2.1.toNat).any fun k:Nat=>(Q0 (Z7 m k) d).2):=by unfold Zv;rw [if_pos (by simp [hp])]
 refine Jb m.2.1.toNat (fun j=>QjO (fun r'=>r'=QcM (Zv m d)) m d ((List.range j).any fun k:Nat=>(Q0 (Z7 m k) d).2) (j:Int) ((List.range j).map fun k:Nat=>(Q0 (Z7 m k) d).1)) ?_ ?_
 ·refine Qzh (fun r'=>r'=QcM (Zv m d)) m d _ _ _ ⟨fun h=>by simp at h;omega,fun _=>R_eq ?_⟩
  rw [hv,List.drop_zero,List.take_length]
 ·intro j hj ih
  refine Qzh (fun r'=>r'=QcM (Zv m d)) m d _ _ _ ⟨fun _=>?_,fun h=>by simp at h;omega⟩
  rw [sc1 (by omega),Zf]
  rw [Qfj,Qle] at ih
  exact ⟨⟨by omega,by omega,by omega,by omega,by omega,h5⟩,room (by simp;omega),ih⟩
theorem QVC:Qe Tryz.prog QpH:=Qh fun x _=>QFn x.1 x.2.1
def QaO (t:TMat × Bool):TRes:=zra (.tp [(.a [(zci t.1.1),(zci t.1.2.1),(zcs [TI] t.1.2.2)]),(zcb t.2)])
def Qpt:TRow:=Qf 219 [(.c (.sl [TI])),(.c (.sl [TI]))] fun x=>(none,QaO (Zl x.1 x.2.1))
def QdI:List TRow:=[Qbs,Qfh]
def Qs9:TCode :=
 (zsq [(.reg [zbi 37 .lss 36 35]),(.cond 37 .skip (.exit 2)),(.block 3 (zsq [(.reg [zia 38 34 36 [TI],zld 39 38 1,zmv 11 39]),(.reg [zmv 41 9,zmv 42 11,zca 43 216 [41,42],zmv 40 43,zex 44 40 0,zex 45 40 1,zmv 12 44,zmv 13 45]),(.reg [zfa 46 6 2,zld 47 46 1,zmv 48 12,zop 49 (.bsl 3 [TI] [48]),zop 50 (.app 47 49 3 [TI]),zfa 51 6 2,zst 51 50 1]),(.reg [zmv 52 7,zmv 53 52,.grp 53 false [zmv 54 13] 55 54,zmv 7 55])])),(.reg [zbi 56 .add 36 (zki 1),zmv 36 56])])
def QsP:List (Nat × Md):=[(1,.one .d),(4,.b [.d,.d,.d]),(6,.b [.d,.d,.f]),(7,.one .d),(9,.one .d),(28,.one .d),(29,.one .d),(30,.one .d),(34,.one .d),(35,.one .d),(36,.one .d)]
def QxI:TCode :=
 (.reg [zbi 57 .add 30 (zki 1),zmv 30 57])
def QoV:TCode :=
 (zsq [(.reg [zbi 31 .lss 30 29]),(.cond 31 .skip (.exit 0)),(.block 1 (zsq [(.reg [zia 32 28 30 [TI],zld 33 32 1,zmv 9 33]),(.reg [zmv 34 1,zle 35 34,zmv 36 (zki 0)]),(.block 2 (.loop QsP Qs9))])),QxI])
def Qg6:List (Nat × Md):=[(1,.one .d),(4,.b [.d,.d,.d]),(6,.b [.d,.d,.o 3]),(7,.one .d),(28,.one .d),(29,.one .d),(30,.one .d)]
def QuD:TCode :=
 (zsq [(.reg [zLd 58 6 3,zmv 59 7,zst 4 58 3,zmv 5 59]),.ret])
def QIw:TCode :=
 (zsq [(.reg [zop 4 (.new 185 (z0s [TI,TI,(.sl [TI])])),zmv 5 (zkb false)]),(zsq [(.reg [zmv 14 0,zca 15 134 [14],zno 16 15,zmv 17 16,.grp 17 false [zmv 18 1,zca 19 134 [18],zno 20 19] 21 20]),(.cond 21 (zsq [(.reg [zop 22 (.build (z0s [TI,TI,(.sl [TI])]) []),zst 4 22 3,zmv 5 (zkb false)]),.ret]) .skip)]),(.reg [zmv 23 0,zle 24 23,zmv 25 1,zle 26 25,zop 27 (.build (z0s [TI,TI,(.sl [TI])]) [(0,1,24),(1,1,26)]),zop 6 (.new 185 (z0s [TI,TI,(.sl [TI])])),zst 6 27 3]),(.reg [zmv 7 (zkb false)]),(zsq [(.reg [zmv 28 0,zle 29 28,zmv 30 (zki 0)]),(.block 0 (.loop Qg6 QoV))]),QuD])
def QCW:List (ARv × Md):=[(.l 4 3 true,.b [.d,.d,.d]),(.t 5,.one .d)]
def QzY:Qb:=TQ 0 0 QCW K
def QFf:Qb:=Qseq (tawp QdI 0 QuD (QzY K)) (QzY K)
def Qn4:Qb:=Qblk 0 (QFf K)
def Qtl:Qb:=Qseq (fun s'=>Loop QdI 0 Qg6 QoV (Qn4 K) (gc 0 Qg6 s')) (Qn4 K)
def QLt:Qb:=Qseq (tawp QdI 0 QxI (Qtl K)) (Qtl K)
def QRq:Qb:=Qblk 1 (QLt K)
def QRi:Qb:=Qblk 2 (QRq K)
def Qjr (d:List Int) (x:List Int) (out:Bool) (x1:Int) (m2:List Int) (x2:Int):Prop:=Loop QdI 0 QsP Qs9 (QRi K) ⟨[(1,(zcs [TI] x)),(4,(.p 0 0 0)),(6,(.p 2 0 0)),(7,(zcb out)),(9,(zci (gtd (0:Int) d (Int.toNat x2)))),(28,(zcs [TI] d)),(29,(zci (d.length:Int))),(30,(zci x2)),(34,(zcs [TI] x)),(35,(zci (x.length:Int))),(36,(zci x1))],[(0,(.box [(zci 0),(zci 0),(zcs [TI] ([]))])),(1,(.sl 3 [TI] true m2)),(2,(.box [(zci (d.length:Int)),(zci (x.length:Int)),(.r [TI] 1 0 m2.length)]))],3⟩
def Qhz (d:List Int) (x:List Int) (out1:Bool) (x2:Int) (m21:List Int):Prop:=Loop QdI 0 Qg6 QoV (Qn4 K) ⟨[(1,(zcs [TI] x)),(4,(.p 0 0 0)),(6,(.p 2 0 0)),(7,(zcb out1)),(28,(zcs [TI] d)),(29,(zci (d.length:Int))),(30,(zci x2))],[(0,(.box [(zci 0),(zci 0),(zcs [TI] ([]))])),(1,(.sl 3 [TI] true m21)),(2,(.box [(zci (d.length:Int)),(zci (x.length:Int)),(.r [TI] 1 0 m21.length)]))],3⟩
theorem Qzq (d:List Int) (x:List Int) (out:Bool) (x1:Int) (m2:List Int) (x2:Int) (h :
 (zif (decide (x1<(x.length:Int))) (((0:Int)≤x1∧Int.toNat x1<x.length)∧(((m2.length=m2.length∨m2.length+1≤m2.length)∧m2.length+1≤big)∧(Qjr K d x (out||((Zo (gtd (0:Int) d (Int.toNat x2)) (gtd (0:Int) x (Int.toNat x1))).2)) (w64 (x1+(1:Int))) (List.take (m2.length+1) ((List.take m2.length m2)++([(Zo (gtd (0:Int) d (Int.toNat x2)) (gtd (0:Int) x (Int.toNat x1))).1]))) x2))) (Qhz K d x out (w64 (x2+(1:Int))) (List.take m2.length m2)))):Qjr K d x out x1 m2 x2 :=
 Loop.of (by kernel_rfl) h
theorem Qua (d:List Int) (x:List Int) (out1:Bool) (x2:Int) (m21:List Int) (h :
 (zif (decide (x2<(d.length:Int))) (((0:Int)≤x2∧Int.toNat x2<d.length)∧(Qjr K d x out1 0 (List.take m21.length m21) x2)) (K (QaO (((d.length:Int),(x.length:Int),(List.take m21.length (List.drop 0 m21))),out1))))):Qhz K d x out1 x2 m21 :=
 Loop.of (by kernel_rfl) h
theorem QJX (d:List Int) (x:List Int) (h :
 (zif ((!(QU d))||(!(QU x))) (K (QaO (((0:Int),(0:Int),[]),false))) (Qhz K d x false 0 ([]:List Int)))):Hold (tawp QdI (0+0) QIw (TQ 0 0 QCW K) (Qd [(.c (.sl [TI]) d),(.c (.sl [TI]) x)])) :=
 Hold.of (by kernel_rfl) h
theorem QT6 (d:List Int) (x:List Int):TCon Tryz.prog 219 [(.c (.sl [TI]) d),(.c (.sl [TI]) x)] (QaO (Zl d x)):=by
 refine Qj rfl fun hb=>tcg (n:=60) (sg:=Qpt.sg) Qg (TOk.cons QcE (TOk.cons QlI TOk.nil)) (by kernel_rfl) (by kernel_rfl) (QJX _ d x ?_)
 have hl_d:d.length≤9223372036854775807:=hb.1.1
 have hl_x:x.length≤9223372036854775807:=hb.2.1.1
 refine ⟨fun h=>R_eq (by unfold Zl;rw [if_neg (by simpa [Classical.or_iff_not_imp_left] using h)]),fun h=>?_⟩
 have hp:QU d=true∧QU x=true:=by simpa using h
 have h6:=(Z0.1 hp.1).1
 have h7:=(Z0.1 hp.2).1
 refine Zp d (fun r j=>∀ (v:List Int) (z:Bool),v.length≤6*j→((((d.length:Int),(x.length:Int),v++r.flatMap fun a=>x.map fun b=>(Zo a b).1),z||r.any fun a=>x.any fun b=>(Zo a b).2):TMat × Bool)=(Zl d x)→Qhz (fun r'=>r'=QaO (Zl d x)) d x z j v) ?_ ?_ [] false (Nat.zero_le _) (by unfold Zl;rw [if_pos (by simp [hp])];simp)
 ·intro v z hv he
  refine Qua (fun r'=>r'=QaO (Zl d x)) d x _ _ _ ⟨fun h=>by simp at h,fun _=>R_eq ?_⟩
  rw [← he];simp
 ·intro j y r hj hlt hg ih v z hv he
  refine Qua (fun r'=>r'=QaO (Zl d x)) d x _ _ _ ⟨fun _=>?_,fun h=>by simp at h;omega⟩
  rw [List.take_length]
  refine ⟨⟨by omega,by omega⟩,Zp x (fun r2 k=>∀ (v2:List Int) (z2:Bool),v2.length=v.length+k→v2++r2.map (fun b=>(Zo y b).1)=v++x.map (fun b=>(Zo y b).1)→(z2||r2.any fun b=>(Zo y b).2)=(z||x.any fun b=>(Zo y b).2)→Qjr (fun r'=>r'=QaO (Zl d x)) d x z2 k v2 j) ?_ ?_ v z (by omega) rfl rfl⟩
  ·intro v2 z2 hv2 he2 hz2
   refine Qzq (fun r'=>r'=QaO (Zl d x)) d x _ _ _ _ ⟨fun h=>by simp at h,fun _=>?_⟩
   rw [List.take_length,sc1 (by omega)]
   simp only [List.map_nil,List.append_nil,List.any_nil,Bool.or_false] at he2 hz2
   refine ih _ _ (by rw [hv2];omega) ?_
   rw [← he,he2,hz2];simp [Bool.or_assoc]
  ·intro k w r2 hk hlt2 hg2 ih2 v2 z2 hv2 he2 hz2
   refine Qzq (fun r'=>r'=QaO (Zl d x)) d x _ _ _ _ ⟨fun _=>?_,fun h=>by simp at h;omega⟩
   rw [Int.toNat_natCast,Int.toNat_natCast,hg,hg2,sc1 (by omega),Zf]
   refine ⟨⟨by omega,by omega⟩,room (by omega),ih2 _ _ (by simp;omega) ?_ ?_⟩
   ·rw [← he2];simp
   ·rw [← hz2];simp [Bool.or_assoc]
theorem QTC:Qe Tryz.prog Qpt:=Qh fun x _=>QT6 x.1 x.2.1
def QaM (t:TMat × Bool):TRes:=zra (.tp [(.a [(zci t.1.1),(zci t.1.2.1),(zcs [TI] t.1.2.2)]),(zcb t.2)])
def Qma:TRow:=Qf 232 [(.c (.sl [TI])),(.c (.sl [TI]))] fun x=>(none,QaM (Zl x.1 x.2.1))
def Qeu:List TRow:=[Qar,Qe2]
def QsK:TCode :=
 (zsq [(zsq [(.reg [zmv 32 9,zmv 33 1,zle 34 33,zbi 35 .lss 32 34]),(.cond 35 .skip (.exit 2))]),(.block 3 (zsq [(.draw [zmv 39 0,zmv 40 8,zia 41 39 40 [TI],zld 42 41 1,zmv 43 1,zmv 44 9,zia 45 43 44 [TI],zld 46 45 1,zca 47 229 [42,46],zmv 38 47,zex 48 38 0,zex 49 38 1,zmv 10 48,zmv 11 49] []),(.reg [zfa 50 6 2,zld 51 50 1,zmv 52 10,zop 53 (.bsl 3 [TI] [52]),zop 54 (.app 51 53 3 [TI]),zfa 55 6 2,zst 55 54 1]),(.reg [zmv 56 7,zmv 57 56,.grp 57 false [zmv 58 11] 59 58,zmv 7 59])])),(.reg [zmv 36 9,zbi 37 .add 36 (zki 1),zmv 9 37])])
def Qr2:List (Nat × Md):=[(0,.one .d),(1,.one .d),(4,.b [.d,.d,.d]),(6,.b [.d,.d,.f]),(7,.one .d),(8,.one .d),(9,.one .d)]
def QBt:TCode :=
 (.reg [zmv 30 8,zbi 31 .add 30 (zki 1),zmv 8 31])
def Qqw:TCode :=
 (zsq [(zsq [(.reg [zmv 26 8,zmv 27 0,zle 28 27,zbi 29 .lss 26 28]),(.cond 29 .skip (.exit 0))]),(.block 1 (zsq [(.reg [zmv 9 (zki 0)]),(.block 2 (.loop Qr2 QsK))])),QBt])
def QjI:List (Nat × Md):=[(0,.one .d),(1,.one .d),(4,.b [.d,.d,.d]),(6,.b [.d,.d,.o 3]),(7,.one .d),(8,.one .d)]
def QzI:TCode :=
 (zsq [(.reg [zLd 60 6 3,zmv 61 7,zst 4 60 3,zmv 5 61]),.ret])
def QQY:TCode :=
 (zsq [(.reg [zop 4 (.new 185 (z0s [TI,TI,(.sl [TI])])),zmv 5 (zkb false)]),(zsq [(.reg [zmv 12 0,zca 13 42 [12],zno 14 13,zmv 15 14,.grp 15 false [zmv 16 1,zca 17 42 [16],zno 18 17] 19 18]),(.cond 19 (zsq [(.reg [zop 20 (.build (z0s [TI,TI,(.sl [TI])]) []),zst 4 20 3,zmv 5 (zkb false)]),.ret]) .skip)]),(.reg [zmv 21 0,zle 22 21,zmv 23 1,zle 24 23,zop 25 (.build (z0s [TI,TI,(.sl [TI])]) [(0,1,22),(1,1,24)]),zop 6 (.new 185 (z0s [TI,TI,(.sl [TI])])),zst 6 25 3]),(.reg [zmv 7 (zkb false)]),(zsq [(.reg [zmv 8 (zki 0)]),(.block 0 (.loop QjI Qqw))]),QzI])
def QAG:List (ARv × Md):=[(.l 4 3 true,.b [.d,.d,.d]),(.t 5,.one .d)]
def QBH:Qb:=TQ 0 0 QAG K
def QKy:Qb:=Qseq (tawp Qeu 0 QzI (QBH K)) (QBH K)
def Qm7:Qb:=Qblk 0 (QKy K)
def Qv7:Qb:=Qseq (fun s'=>Loop Qeu 0 QjI Qqw (Qm7 K) (gc 0 QjI s')) (Qm7 K)
def QNv:Qb:=Qseq (tawp Qeu 0 QBt (Qv7 K)) (Qv7 K)
def QEh:Qb:=Qblk 1 (QNv K)
def QF2:Qb:=Qblk 2 (QEh K)
def Qkg (d:List Int) (x:List Int) (sat:Bool) (k:Int) (m2:List Int) (i:Int):Prop:=Loop Qeu 0 Qr2 QsK (QF2 K) ⟨[(0,(zcs [TI] d)),(1,(zcs [TI] x)),(4,(.p 0 0 0)),(6,(.p 2 0 0)),(7,(zcb sat)),(8,(zci i)),(9,(zci k))],[(0,(.box [(zci 0),(zci 0),(zcs [TI] ([]))])),(1,(.sl 3 [TI] true m2)),(2,(.box [(zci (d.length:Int)),(zci (x.length:Int)),(.r [TI] 1 0 m2.length)]))],3⟩
def QkC (d:List Int) (x:List Int) (sat1:Bool) (i:Int) (m21:List Int):Prop:=Loop Qeu 0 QjI Qqw (Qm7 K) ⟨[(0,(zcs [TI] d)),(1,(zcs [TI] x)),(4,(.p 0 0 0)),(6,(.p 2 0 0)),(7,(zcb sat1)),(8,(zci i))],[(0,(.box [(zci 0),(zci 0),(zcs [TI] ([]))])),(1,(.sl 3 [TI] true m21)),(2,(.box [(zci (d.length:Int)),(zci (x.length:Int)),(.r [TI] 1 0 m21.length)]))],3⟩
theorem QvS (d:List Int) (x:List Int) (sat:Bool) (k:Int) (m2:List Int) (i:Int) (h :
 (zif (decide (k<(x.length:Int))) ((((0:Int)≤i∧Int.toNat i<d.length)∧((0:Int)≤k∧Int.toNat k<x.length))∧(((m2.length=m2.length∨m2.length+1≤m2.length)∧m2.length+1≤big)∧(Qkg K d x (sat||((Zo (gtd (0:Int) d (Int.toNat i)) (gtd (0:Int) x (Int.toNat k))).2)) (w64 (k+(1:Int))) (List.take (m2.length+1) ((List.take m2.length m2)++([(Zo (gtd (0:Int) d (Int.toNat i)) (gtd (0:Int) x (Int.toNat k))).1]))) i))) (QkC K d x sat (w64 (i+(1:Int))) (List.take m2.length m2)))):Qkg K d x sat k m2 i :=
 Loop.of (by kernel_rfl) h
theorem Qz7 (d:List Int) (x:List Int) (sat1:Bool) (i:Int) (m21:List Int) (h :
 (zif (decide (i<(d.length:Int))) (Qkg K d x sat1 0 (List.take m21.length m21) i) (K (QaM (((d.length:Int),(x.length:Int),(List.take m21.length (List.drop 0 m21))),sat1))))):QkC K d x sat1 i m21 :=
 Loop.of (by kernel_rfl) h
theorem QSk (d:List Int) (x:List Int) (h :
 (zif ((!(QU d))||(!(QU x))) (K (QaM (((0:Int),(0:Int),[]),false))) (QkC K d x false 0 ([]:List Int)))):Hold (tawp Qeu (0+0) QQY (TQ 0 0 QAG K) (Qd [(.c (.sl [TI]) d),(.c (.sl [TI]) x)])) :=
 Hold.of (by kernel_rfl) h
theorem QQi (d:List Int) (x:List Int):TCon Tryz.prog 232 [(.c (.sl [TI]) d),(.c (.sl [TI]) x)] (QaM (Zl d x)):=by
 refine Qj rfl fun hb=>tcg (n:=62) (sg:=Qma.sg) Qg (TOk.cons Qbm (TOk.cons Qor TOk.nil)) (by kernel_rfl) (by kernel_rfl) (QSk _ d x ?_)
 have hl_d:d.length≤9223372036854775807:=hb.1.1
 have hl_x:x.length≤9223372036854775807:=hb.2.1.1
 refine ⟨fun h=>R_eq (by unfold Zl;rw [if_neg (by simpa [Classical.or_iff_not_imp_left] using h)]),fun h=>?_⟩
 have hp:QU d=true∧QU x=true:=by simpa using h
 have h6:=(Z0.1 hp.1).1
 have h7:=(Z0.1 hp.2).1
 refine Zp d (fun r j=>∀ (v:List Int) (z:Bool),v.length≤6*j→((((d.length:Int),(x.length:Int),v++r.flatMap fun a=>x.map fun b=>(Zo a b).1),z||r.any fun a=>x.any fun b=>(Zo a b).2):TMat × Bool)=(Zl d x)→QkC (fun r'=>r'=QaM (Zl d x)) d x z j v) ?_ ?_ [] false (Nat.zero_le _) (by unfold Zl;rw [if_pos (by simp [hp])];simp)
 ·intro v z hv he
  refine Qz7 (fun r'=>r'=QaM (Zl d x)) d x _ _ _ ⟨fun h=>by simp at h,fun _=>R_eq ?_⟩
  rw [← he];simp
 ·intro j y r hj hlt hg ih v z hv he
  refine Qz7 (fun r'=>r'=QaM (Zl d x)) d x _ _ _ ⟨fun _=>?_,fun h=>by simp at h;omega⟩
  rw [List.take_length]
  refine Zp x (fun r2 k=>∀ (v2:List Int) (z2:Bool),v2.length=v.length+k→v2++r2.map (fun b=>(Zo y b).1)=v++x.map (fun b=>(Zo y b).1)→(z2||r2.any fun b=>(Zo y b).2)=(z||x.any fun b=>(Zo y b).2)→Qkg (fun r'=>r'=QaM (Zl d x)) d x z2 k v2 j) ?_ ?_ v z (by omega) rfl rfl
  ·intro v2 z2 hv2 he2 hz2
   refine QvS (fun r'=>r'=QaM (Zl d x)) d x _ _ _ _ ⟨fun h=>by simp at h,fun _=>?_⟩
   rw [List.take_length,sc1 (by omega)]
   simp only [List.map_nil,List.append_nil,List.any_nil,Bool.or_false] at he2 hz2
   refine ih _ _ (by rw [hv2];omega) ?_
   rw [← he,he2,hz2];simp [Bool.or_assoc]
  ·intro k w r2 hk hlt2 hg2 ih2 v2 z2 hv2 he2 hz2
   refine QvS (fun r'=>r'=QaM (Zl d x)) d x _ _ _ _ ⟨fun _=>?_,fun h=>by simp at h;omega⟩
   rw [Int.toNat_natCast,Int.toNat_natCast,hg,hg2,sc1 (by omega),Zf]
   refine ⟨⟨⟨by omega,by omega⟩,by omega,by omega⟩,room (by omega),ih2 _ _ (by simp;omega) ?_ ?_⟩
   ·rw [← he2];simp
   ·rw [← hz2];simp [Bool.or_assoc]
theorem QSr:Qe Tryz.prog Qma:=Qh fun x _=>QQi x.1 x.2.1
def Qln (t:TMat):TRes:=zra (.a [(zci t.1),(zci t.2.1),(zcs [TI] t.2.2)])
def QgB:TRow:=Qf 212 [(.a ctOp)] fun x=>(none,Qln (QZ x.1))
def QFA:List TRow:=[]
def QH9:TCode :=
 (zsq [(.reg [zop 1 (.box 69 0 4),zop 2 (.new 185 (z0s [TI,TI,(.sl [TI])]))]),(.reg [zfa 3 1 2,zld 4 3 1,zfa 5 1 1,zld 6 5 1,zfa 7 1 3,zld 8 7 1,zop 9 (.build (z0s [TI,TI,(.sl [TI])]) [(0,1,4),(1,1,6),(2,1,8)]),zst 2 9 3]),.ret])
def QN4:List (ARv × Md):=[(.l 2 3 true,.b [.d,.d,.d])]
theorem QI3 (o:TOp') (h :
 K (Qln (o.2.2.1,o.2.1,o.2.2.2))):Hold (tawp QFA (0+0) QH9 (TQ 0 0 QN4 K) (Qd [(.a (Tup.cells ctOp o))])) :=
 Hold.of (by kernel_rfl) h
theorem QRv (o:TOp'):TCon Tryz.prog 212 [(.a (Tup.cells ctOp o))] (Qln (QZ o)):=by
 refine Qj rfl fun hb=>tcg (n:=10) (sg:=QgB.sg) Qg TOk.nil (by kernel_rfl) (by kernel_rfl) (QI3 _ o ?_)
 have hl_o_3:(o.2.2.2).length≤9223372036854775807:=hb.1.2.2.2.1.1
 exact R_eq rfl
theorem Qxg:Qe Tryz.prog QgB:=Qh fun x _=>QRv x.1
def Qpu (t:TMat):TRes:=zra (.a [(zci t.1),(zci t.2.1),(zcs [TI] t.2.2)])
def Qi1:TRow:=Qf 225 [(.a ctOp)] fun x=>(none,Qpu (QZ x.1))
def QIQ:List TRow:=[]
def QVw:TCode :=
 (zsq [(.reg [zop 1 (.box 69 0 4),zop 2 (.new 185 (z0s [TI,TI,(.sl [TI])]))]),(.reg [zfa 3 1 2,zld 4 3 1,zfa 5 1 1,zld 6 5 1,zfa 7 1 3,zld 8 7 1,zop 9 (.build (z0s [TI,TI,(.sl [TI])]) [(0,1,4),(1,1,6),(2,1,8)]),zst 2 9 3]),.ret])
def QUW:List (ARv × Md):=[(.l 2 3 true,.b [.d,.d,.d])]
theorem QWN (o:TOp') (h :
 K (Qpu (o.2.2.1,o.2.1,o.2.2.2))):Hold (tawp QIQ (0+0) QVw (TQ 0 0 QUW K) (Qd [(.a (Tup.cells ctOp o))])) :=
 Hold.of (by kernel_rfl) h
theorem QYl (o:TOp'):TCon Tryz.prog 225 [(.a (Tup.cells ctOp o))] (Qpu (QZ o)):=by
 refine Qj rfl fun hb=>tcg (n:=10) (sg:=Qi1.sg) Qg TOk.nil (by kernel_rfl) (by kernel_rfl) (QWN _ o ?_)
 have hl_o_3:(o.2.2.2).length≤9223372036854775807:=hb.1.2.2.2.1.1
 exact R_eq rfl
theorem Qzj:Qe Tryz.prog Qi1:=Qh fun x _=>QYl x.1
end
end Go.Proofs.YtjbdljkhbglnhaaGreat.Am

