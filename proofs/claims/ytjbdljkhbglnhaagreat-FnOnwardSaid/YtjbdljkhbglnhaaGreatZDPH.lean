/- -/
import Derived.Test.YtjbdljkhbglnhaaGreatZDP1
import Derived.Test.YtjbdljkhbglnhaaGreatZDPG
import Derived.Test.YtjbdljkhbglnhaaGreatZDPF
namespace Go.Proofs.YtjbdljkhbglnhaaGreat.Am
open Go Go.RowKit Go.Proofs.YtjbdljkhbglnhaaGreat
set_option linter.all false
noncomputable section
variable (K:TRes→Prop)
def Qif (t:Bool):TRes:=zre (zcb t)
def Qgg:TRow:=Qj 233 [(.a [TI,TI,(.sl [TI])])] fun x=>(none,Qif (Zx x.1))
def QHQ:List TRow:=[QfQ]
def QGy:TCode :=
 (zsq [(.reg [zop 1 (.box 185 0 3),zmv 2 (zkb false)]),(zsq [(.reg [zfa 3 1 0,zld 4 3 1,zbi 5 .lss 4 (zki 1),zmv 6 5,.grp 6 false [zfa 7 1 0,zld 8 7 1,zbi 9 .gtr 8 (zki 6)] 10 9,zmv 11 10,.grp 11 false [zfa 12 1 1,zld 13 12 1,zbi 14 .lss 13 (zki 1)] 15 14,zmv 16 15,.grp 16 false [zfa 17 1 1,zld 18 17 1,zbi 19 .gtr 18 (zki 6)] 20 19]),(.cond 20 (zsq [(.reg [zmv 2 (zkb false)]),.ret]) .skip)]),(.reg [zfa 21 1 2,zld 22 21 1,zle 23 22,zfa 24 1 0,zld 25 24 1,zfa 26 1 1,zld 27 26 1,zbi 28 .mul 25 27,zbi 29 .eql 23 28,zmv 30 29,.grp 30 true [zfa 31 1 2,zld 32 31 1,zca 33 195 [32]] 34 33,zmv 2 34]),.ret])
def QLx:List (ARv × Md):=[(.t 2,.one .d)]
theorem QSx (m:TMat) (h :
 (zif ((((decide (m.1<(1:Int)))||(decide (m.1>(6:Int))))||(decide (m.2.1<(1:Int))))||(decide (m.2.1>(6:Int)))) (K (Qif false)) (K (Qif ((((m.2.2).length:Int)==(w64 (m.1*m.2.1)))&&(ZD m.2.2)))))):Hold (tawp QHQ (0+0) QGy (TQ 0 0 QLx K) (Qh [(.a [(.c TI m.1),(.c TI m.2.1),(.c (.sl [TI]) m.2.2)])])) :=
 Hold.of (by kernel_rfl) h
theorem QSP (m:TMat):TCon Tryz.prog 233 [(.a [(.c TI m.1),(.c TI m.2.1),(.c (.sl [TI]) m.2.2)])] (Qif (Zx m)):=by
 refine Qo rfl fun hb=>tcg (n:=35) (sg:=Qgg.sg) Ql (TOk.cons Qpt TOk.nil) (by kernel_rfl) (by kernel_rfl) (QSx _ m ?_)
 have hl_m_2:(m.2.2).length≤9223372036854775807:=hb.1.2.2.1.1
 refine ⟨fun h=>R_eq ?_,fun h=>R_eq ?_⟩
 ·have:(m_in m.1 1 6&&m_in m.2.1 1 6)=false:=by simp [m_in];simp at h;omega
  unfold Zx;rw [this];rfl
 ·have h':(1≤m.1∧m.1≤6)∧1≤m.2.1∧m.2.1≤6:=by simp at h;omega
  have hm:=Qc5 h'.1.1 h'.1.2 h'.2.1 h'.2.2
  rw [Qt (x:=m.1*m.2.1) (by omega) (by omega)]
  unfold Zx
  rw [QS.2 h'.1,QS.2 h'.2];simp
theorem QkR:Qi Tryz.prog Qgg:=Qm fun x _=>QSP x.1
def Qcj (t:Bool):TRes:=zre (zcb t)
def QiR:TRow:=Qj 236 [(.a [TI,TI,(.sl [TI])])] fun x=>(none,Qcj (Zx x.1))
def QmQ:List TRow:=[YL,Qen]
def Qrh:TCode :=
 (zsq [(zsq [(.reg [zmv 25 3,zfa 26 1 2,zld 27 26 1,zle 28 27,zbi 29 .lss 25 28]),(.cond 29 .skip (.exit 0))]),(.block 1 (zsq [(.reg [zfa 32 1 2,zld 33 32 1,zmv 34 3,zia 35 33 34 [TI],zld 36 35 1,zca 37 110 [36],zno 38 37]),(.cond 38 (zsq [(.reg [zmv 2 (zkb false)]),.ret]) .skip)])),(.reg [zmv 30 3,zbi 31 .add 30 (zki 1),zmv 3 31])])
def QB6:List (Nat × Md):=[(1,.b [.d,.d,.d]),(3,.one .d)]
def QxT:TCode :=
 (zsq [(.reg [zmv 2 (zkb true)]),.ret])
def QMP:TCode :=
 (zsq [(.reg [zop 1 (.box 185 0 3),zmv 2 (zkb false)]),(zsq [(.reg [zfa 4 1 0,zld 5 4 1,zca 6 77 [5,(zki 1),(zki 6)],zno 7 6,zmv 8 7,.grp 8 false [zfa 9 1 1,zld 10 9 1,zca 11 77 [10,(zki 1),(zki 6)],zno 12 11] 13 12,zmv 14 13,.grp 14 false [zfa 15 1 2,zld 16 15 1,zle 17 16,zfa 18 1 0,zld 19 18 1,zfa 20 1 1,zld 21 20 1,zbi 22 .mul 19 21,zbi 23 .neq 17 22] 24 23]),(.cond 24 (zsq [(.reg [zmv 2 (zkb false)]),.ret]) .skip)]),(zsq [(.reg [zmv 3 (zki 0)]),(.block 0 (.loop QB6 Qrh))]),QxT])
def Qvn:List (ARv × Md):=[(.t 2,.one .d)]
def QxH:Qb:=TQ 0 0 Qvn K
def QJR:Qb:=Qseq (tawp QmQ 0 QxT (QxH K)) (QxH K)
def QSW:Qb:=Qblk 0 (QJR K)
def Qls (m:TMat) (i:Int):Prop:=Loop QmQ 0 QB6 Qrh (QSW K) ⟨[(1,(.p 0 0 0)),(3,(zci i))],[(0,(.box [(zci m.1),(zci m.2.1),(zcs [TI] m.2.2)]))],1⟩
theorem QLm (m:TMat) (i:Int) (h :
 (zif (decide (i<((m.2.2).length:Int))) (((0:Int)≤i∧Int.toNat i<(m.2.2).length)∧(zif (!(Zb (gtd (0:Int) m.2.2 (Int.toNat i)))) (K (Qcj false)) (Qls K m (w64 (i+(1:Int)))))) (K (Qcj true)))):Qls K m i :=
 Loop.of (by kernel_rfl) h
theorem QRm (m:TMat) (h :
 (zif (((!(m_in m.1 (1:Int) (6:Int)))||(!(m_in m.2.1 (1:Int) (6:Int))))||(((m.2.2).length:Int) != (w64 (m.1*m.2.1)))) (K (Qcj false)) (Qls K m 0))):Hold (tawp QmQ (0+0) QMP (TQ 0 0 Qvn K) (Qh [(.a [(.c TI m.1),(.c TI m.2.1),(.c (.sl [TI]) m.2.2)])])) :=
 Hold.of (by kernel_rfl) h
theorem QP5 (m:TMat):TCon Tryz.prog 236 [(.a [(.c TI m.1),(.c TI m.2.1),(.c (.sl [TI]) m.2.2)])] (Qcj (Zx m)):=by
 refine Qo rfl fun hb=>tcg (n:=39) (sg:=QiR.sg) Ql (TOk.cons Y2 (TOk.cons Qhr TOk.nil)) (by kernel_rfl) (by kernel_rfl) (QRm _ m ?_)
 have hl_m_2:(m.2.2).length≤9223372036854775807:=hb.1.2.2.1.1
 refine ⟨fun h=>R_eq ?_,fun h=>?_⟩
 ·have:Zx m=false:=by
   cases hm:Zx m with
   | false=>rfl
   | true =>
    obtain ⟨h1,h2,h3,h4,h5,h6,h7⟩:=Qdu hm
    rw [QS.2 ⟨h1,h2⟩,QS.2 ⟨h3,h4⟩,Qt (x:=m.1*m.2.1) (by have:=Qc5 h1 h2 h3 h4;omega) (by omega),← h5] at h
    simp at h
  exact this.symm
 ·have h':m_in m.1 1 6=true∧m_in m.2.1 1 6=true:=by simp at h;exact h.1
  have h1:=QS.1 h'.1
  have h2:=QS.1 h'.2
  have hm:=Qc5 h1.1 h1.2 h2.1 h2.2
  rw [Qt (x:=m.1*m.2.1) (by omega) (by omega)] at h
  exact Qb4 (Q:=fun x=>Qcj x=Qcj (Zx m)) (p:=Zb) (c:=fun x=>!(Zb x)) 0 hl_m_2 (fun _=>rfl) (fun i h=>QLm (fun r'=>r'=Qcj (Zx m)) m i h) (R_eq (by
   unfold Zx ZD
   have h3:((m.2.2.length:Int)==m.1*m.2.1)=true:=by simp [h'] at h;simp [h]
   rw [h'.1,h'.2,h3];simp))
theorem Qsg:Qi Tryz.prog QiR:=Qm fun x _=>QP5 x.1
def QoZ (t:(List Int)):TRes:=zra (zcs [TI] t)
def QlU:TRow:=Qj 237 [(.a [TI,TI,(.sl [TI])]),(.c TI)] fun x=>(some (QoE x.1 x.2.1),QoZ (Y4 x.1 x.2.1))
def QO1:List TRow:=[]
def QUf:TCode :=
 (zsq [(.reg [zop 2 (.box 185 0 3),zmv 4 (.k (.n [TI]))]),(.reg [zfa 5 2 2,zld 6 5 1,zmv 7 1,zfa 8 2 1,zld 9 8 1,zbi 10 .mul 7 9,zmv 11 1,zbi 12 .add 11 (zki 1),zfa 13 2 1,zld 14 13 1,zbi 15 .mul 12 14,zop 16 (.slc 6 (some 10) (some 15) [TI]),zmv 4 16]),.ret])
def QSu:List (ARv × Md):=[(.t 4,.one .d)]
theorem QF1 (m:TMat) (i:Int) (h :
 (((0:Int)≤w64 (i*m.2.1)∧w64 (i*m.2.1)≤w64 ((w64 (i+(1:Int)))*m.2.1)∧w64 ((w64 (i+(1:Int)))*m.2.1)≤((m.2.2).length:Int))∧K (QoZ (List.take (Int.toNat (w64 ((w64 (i+(1:Int)))*m.2.1))-Int.toNat (w64 (i*m.2.1))) (List.drop (Int.toNat (w64 (i*m.2.1))) m.2.2))))):Hold (tawp QO1 (0+0) QUf (TQ 0 0 QSu K) (Qh [(.a [(.c TI m.1),(.c TI m.2.1),(.c (.sl [TI]) m.2.2)]),(.c TI i)])) :=
 Hold.of (by kernel_rfl) h
theorem QFD (m:TMat) (i:Int) (hp:QoE m i):TCon Tryz.prog 237 [(.a [(.c TI m.1),(.c TI m.2.1),(.c (.sl [TI]) m.2.2)]),(.c TI i)] (QoZ (Y4 m i)):=by
 refine Qo rfl fun hb=>tcg (n:=17) (sg:=QlU.sg) Ql TOk.nil (by kernel_rfl) (by kernel_rfl) (QF1 _ m i ?_)
 have hl_m_2:(m.2.2).length≤9223372036854775807:=hb.1.2.2.1.1
 obtain ⟨h1,h2,h3,h4,h5,h6⟩:=hp
 have hd:=idx h3 h4 h1
 have h36:m.1*m.2.1≤36:=by
  have:=Int.mul_le_mul h5 h2 h1 (by omega:(0:Int)≤6);omega
 rw [Qt (x:=i+1) (by omega) (by omega),Qt (x:=i*m.2.1) (by omega) (by omega),Qt (x:=(i+1)*m.2.1) (by omega) (by omega)]
 exact ⟨⟨by omega,by omega,by omega⟩,R_eq rfl⟩
theorem QQD:Qi Tryz.prog QlU:=Qm fun x h=>QFD x.1 x.2.1 h
def QdW (t:(List Int)):TRes:=zra (zcs [TI] t)
def Qqy:TRow:=Qj 240 [(.a [TI,TI,(.sl [TI])]),(.c TI)] fun x=>(some (Qne x.1 x.2.1),QdW (Z9 x.1 x.2.1))
def QnO:List TRow:=[]
def QtL:TCode :=
 (zsq [(zsq [(.reg [zmv 8 6,zfa 9 2 0,zld 10 9 1,zbi 11 .lss 8 10]),(.cond 11 .skip (.exit 0))]),(.block 1 (.reg [zmv 14 5,zfa 15 2 2,zld 16 15 1,zmv 17 6,zfa 18 2 1,zld 19 18 1,zbi 20 .mul 17 19,zmv 21 1,zbi 22 .add 20 21,zia 23 16 22 [TI],zld 24 23 1,zop 25 (.bsl 3 [TI] [24]),zop 26 (.app 14 25 3 [TI]),zmv 5 26])),(.reg [zmv 12 6,zbi 13 .add 12 (zki 1),zmv 6 13])])
def Qwp:List (Nat × Md):=[(1,.one .d),(2,.b [.d,.d,.d]),(5,.one .f),(6,.one .d)]
def QAj:TCode :=
 (zsq [(.reg [zmv 27 5,zmv 4 27]),.ret])
def QXj:TCode :=
 (zsq [(.reg [zop 2 (.box 185 0 3),zmv 4 (.k (.n [TI]))]),(.reg [zop 7 (.bsl 3 [TI] []),zmv 5 7]),(zsq [(.reg [zmv 6 (zki 0)]),(.block 0 (.loop Qwp QtL))]),QAj])
def QzR:List (ARv × Md):=[(.t 4,.one .d)]
def Qsu:Qb:=TQ 0 0 QzR K
def QRq:Qb:=Qseq (tawp QnO 0 QAj (Qsu K)) (Qsu K)
def QOK:Qb:=Qblk 0 (QRq K)
def QgR (m:TMat) (k:Int) (i:Int) (out:List Int):Prop:=Loop QnO 0 Qwp QtL (QOK K) ⟨[(1,(zci k)),(2,(.p 0 0 0)),(5,(.r [TI] 1 0 out.length)),(6,(zci i))],[(0,(.box [(zci m.1),(zci m.2.1),(zcs [TI] m.2.2)])),(1,(.sl 3 [TI] true out))],2⟩
theorem QCa (m:TMat) (k:Int) (i:Int) (out:List Int) (h :
 (zif (decide (i<m.1)) ((((0:Int)≤w64 ((w64 (i*m.2.1))+k)∧Int.toNat (w64 ((w64 (i*m.2.1))+k))<(m.2.2).length)∧((out.length=out.length∨out.length+1≤out.length)∧out.length+1≤big))∧(QgR K m k (w64 (i+(1:Int))) (List.take (out.length+1) ((List.take out.length out)++([(gtd (0:Int) m.2.2 (Int.toNat (w64 ((w64 (i*m.2.1))+k))))]))))) (K (QdW (List.take out.length (List.drop 0 out)))))):QgR K m k i out :=
 Loop.of (by kernel_rfl) h
theorem QK4 (m:TMat) (k:Int) (h :
 (QgR K m k 0 ([]:List Int))):Hold (tawp QnO (0+0) QXj (TQ 0 0 QzR K) (Qh [(.a [(.c TI m.1),(.c TI m.2.1),(.c (.sl [TI]) m.2.2)]),(.c TI k)])) :=
 Hold.of (by kernel_rfl) h
theorem QG6 (m:TMat) (k:Int) (hp:Qne m k):TCon Tryz.prog 240 [(.a [(.c TI m.1),(.c TI m.2.1),(.c (.sl [TI]) m.2.2)]),(.c TI k)] (QdW (Z9 m k)):=by
 refine Qo rfl fun hb=>tcg (n:=28) (sg:=Qqy.sg) Ql TOk.nil (by kernel_rfl) (by kernel_rfl) (QK4 _ m k ?_)
 have hl_m_2:(m.2.2).length≤9223372036854775807:=hb.1.2.2.1.1
 obtain ⟨h2,h3,h4,h5,h6,h7⟩:=hp
 have h36:m.1*m.2.1≤36:=by
  have:=Int.mul_le_mul h6 h2 (by omega) (by omega:(0:Int)≤6);omega
 refine Jb m.1.toNat (fun j=>QgR (fun r'=>r'=QdW (Z9 m k)) m k (j:Int) ((List.range j).map fun i:Nat=>gtd 0 m.2.2 ((i:Int)*m.2.1+k).toNat)) ?_ ?_
 ·refine QCa (fun r'=>r'=QdW (Z9 m k)) m k _ _ ⟨fun h=>by simp at h;omega,fun _=>R_eq ?_⟩
  unfold Z9;rw [List.drop_zero,List.take_length]
 ·intro j hj ih
  have hd:=idx (r:=j) (R:=m.1) (C:=m.2.1) (by omega) (by omega) (by omega)
  refine QCa (fun r'=>r'=QdW (Z9 m k)) m k _ _ ⟨fun _=>?_,fun h=>by simp at h;omega⟩
  rw [Qt (x:=(j:Int)*m.2.1) (by omega) (by omega),Qt (x:=(j:Int)*m.2.1+k) (by omega) (by omega),sc1 (by omega),Za]
  rw [Qgd] at ih
  exact ⟨⟨⟨by omega,by omega⟩,room (by simp;omega)⟩,ih⟩
theorem QV3:Qi Tryz.prog Qqy:=Qm fun x h=>QG6 x.1 x.2.1 h
def QcR (t:(List Int) × Bool):TRes:=zra (.tp [(zcs [TI] t.1),(zcb t.2)])
def Qg3:TRow:=Qj 211 [(.a [TI,TI,(.sl [TI])]),(.c (.sl [TI]))] fun x=>(none,QcR (Zn x.1 x.2.1))
def Qnk:List TRow:=[Qgg,Qah,Qgp]
def QsR:TCode :=
 (zsq [(zsq [(.reg [zmv 22 8,zfa 23 2 0,zld 24 23 1,zbi 25 .lss 22 24]),(.cond 25 .skip (.exit 0))]),(.block 1 (zsq [(.reg [zfa 29 2 2,zld 30 29 1,zmv 31 8,zfa 32 2 1,zld 33 32 1,zbi 34 .mul 31 33,zmv 35 8,zbi 36 .add 35 (zki 1),zfa 37 2 1,zld 38 37 1,zbi 39 .mul 36 38,zop 40 (.slc 30 (some 34) (some 39) [TI]),zmv 41 1,zca 42 188 [40,41],zmv 28 42,zex 43 28 0,zex 44 28 1,zmv 9 43,zmv 10 44]),(.reg [zmv 45 6,zmv 46 9,zop 47 (.bsl 3 [TI] [46]),zop 48 (.app 45 47 3 [TI]),zmv 6 48]),(.reg [zmv 49 7,zmv 50 49,.grp 50 false [zmv 51 10] 52 51,zmv 7 52])])),(.reg [zmv 26 8,zbi 27 .add 26 (zki 1),zmv 8 27])])
def Quo:List (Nat × Md):=[(1,.one .d),(2,.b [.d,.d,.d]),(6,.one .f),(7,.one .d),(8,.one .d)]
def QAO:TCode :=
 (zsq [(.reg [zmv 53 6,zmv 54 7,zmv 4 53,zmv 5 54]),.ret])
def QMc:TCode :=
 (zsq [(.reg [zop 2 (.box 185 0 3),zmv 4 (.k (.n [TI])),zmv 5 (zkb false)]),(zsq [(.reg [zLd 11 2 3,zca 12 233 [11],zno 13 12,zmv 14 13,.grp 14 false [zmv 15 1,zfa 16 2 1,zld 17 16 1,zca 18 114 [15,17],zno 19 18] 20 19]),(.cond 20 (zsq [(.reg [zmv 4 (.k (.n [TI])),zmv 5 (zkb false)]),.ret]) .skip)]),(.reg [zop 21 (.bsl 3 [TI] []),zmv 6 21]),(.reg [zmv 7 (zkb false)]),(zsq [(.reg [zmv 8 (zki 0)]),(.block 0 (.loop Quo QsR))]),QAO])
def Qw9:List (ARv × Md):=[(.t 4,.one .d),(.t 5,.one .d)]
def QrG:Qb:=TQ 0 0 Qw9 K
def QOH:Qb:=Qseq (tawp Qnk 0 QAO (QrG K)) (QrG K)
def QIs:Qb:=Qblk 0 (QOH K)
def Qjk (m:TMat) (x:List Int) (out:Bool) (r:Int) (v:List Int):Prop:=Loop Qnk 0 Quo QsR (QIs K) ⟨[(1,(zcs [TI] x)),(2,(.p 0 0 0)),(6,(.r [TI] 1 0 v.length)),(7,(zcb out)),(8,(zci r))],[(0,(.box [(zci m.1),(zci m.2.1),(zcs [TI] m.2.2)])),(1,(.sl 3 [TI] true v))],2⟩
theorem QES (m:TMat) (x:List Int) (out:Bool) (r:Int) (v:List Int) (h :
 (zif (decide (r<m.1)) (((0:Int)≤w64 (r*m.2.1)∧w64 (r*m.2.1)≤w64 ((w64 (r+(1:Int)))*m.2.1)∧w64 ((w64 (r+(1:Int)))*m.2.1)≤((m.2.2).length:Int))∧(((v.length=v.length∨v.length+1≤v.length)∧v.length+1≤big)∧(Qjk K m x (out||((Q1 (List.take (Int.toNat (w64 ((w64 (r+(1:Int)))*m.2.1))-Int.toNat (w64 (r*m.2.1))) (List.drop (Int.toNat (w64 (r*m.2.1))) m.2.2)) x).2)) (w64 (r+(1:Int))) (List.take (v.length+1) ((List.take v.length v)++([(Q1 (List.take (Int.toNat (w64 ((w64 (r+(1:Int)))*m.2.1))-Int.toNat (w64 (r*m.2.1))) (List.drop (Int.toNat (w64 (r*m.2.1))) m.2.2)) x).1])))))) (K (QcR ((List.take v.length (List.drop 0 v)),out))))):Qjk K m x out r v :=
 Loop.of (by kernel_rfl) h
theorem QXN (m:TMat) (x:List Int) (h :
 (zif ((!(Zx m))||(!(Qq x m.2.1))) (K (QcR ([],false))) (Qjk K m x false 0 ([]:List Int)))):Hold (tawp Qnk (0+0) QMc (TQ 0 0 Qw9 K) (Qh [(.a [(.c TI m.1),(.c TI m.2.1),(.c (.sl [TI]) m.2.2)]),(.c (.sl [TI]) x)])) :=
 Hold.of (by kernel_rfl) h
theorem QPZ (m:TMat) (x:List Int):TCon Tryz.prog 211 [(.a [(.c TI m.1),(.c TI m.2.1),(.c (.sl [TI]) m.2.2)]),(.c (.sl [TI]) x)] (QcR (Zn m x)):=by
 refine Qo rfl fun hb=>tcg (n:=55) (sg:=Qg3.sg) Ql (TOk.cons QkR (TOk.cons QaM (TOk.cons Qp1 TOk.nil))) (by kernel_rfl) (by kernel_rfl) (QXN _ m x ?_)
 have hl_m_2:(m.2.2).length≤9223372036854775807:=hb.1.2.2.1.1
 have hl_x:x.length≤9223372036854775807:=hb.2.1.1
 refine ⟨fun h=>R_eq (by rw [QwZ];intro h2;simp [h2.1,h2.2] at h),fun h=>?_⟩
 have hp:Zx m=true∧Qq x m.2.1=true:=by simpa using h
 obtain ⟨h1,h2,h3,h4,h5,h6,h7⟩:=Qdu hp.1
 have hv:(Zn m x)=((List.range m.1.toNat).map fun i:Nat=>(Q1 (Y4 m i) x).1,(List.range m.1.toNat).any fun i:Nat=>(Q1 (Y4 m i) x).2):=by unfold Zn;rw [if_pos (by simp [hp])]
 refine Jb m.1.toNat (fun j=>Qjk (fun r'=>r'=QcR (Zn m x)) m x ((List.range j).any fun i:Nat=>(Q1 (Y4 m i) x).2) (j:Int) ((List.range j).map fun i:Nat=>(Q1 (Y4 m i) x).1)) ?_ ?_
 ·refine QES (fun r'=>r'=QcR (Zn m x)) m x _ _ _ ⟨fun h=>by simp at h;omega,fun _=>R_eq ?_⟩
  rw [hv,List.drop_zero,List.take_length]
 ·intro j hj ih
  have hd:=idx (r:=j) (R:=m.1) (C:=m.2.1) (by omega) (by omega) (by omega)
  refine QES (fun r'=>r'=QcR (Zn m x)) m x _ _ _ ⟨fun _=>?_,fun h=>by simp at h;omega⟩
  rw [Qt (x:=(j:Int)+1) (by omega) (by omega),Qt (x:=(j:Int)*m.2.1) (by omega) (by omega),Qt (x:=((j:Int)+1)*m.2.1) (by omega) (by omega),Za]
  rw [Qgd,Qm5] at ih
  exact ⟨⟨by omega,by omega,by omega⟩,room (by simp;omega),ih⟩
theorem QuU:Qi Tryz.prog Qg3:=Qm fun x _=>QPZ x.1 x.2.1
def Qcr (t:(List Int) × Bool):TRes:=zra (.tp [(zcs [TI] t.1),(zcb t.2)])
def Qoz:TRow:=Qj 224 [(.a [TI,TI,(.sl [TI])]),(.c (.sl [TI]))] fun x=>(none,Qcr (Zn x.1 x.2.1))
def Qpl:List TRow:=[QiR,Y6,QlU,QdN]
def Qwx:TCode :=
 (zsq [(zsq [(.reg [zmv 28 8,zfa 29 2 0,zld 30 29 1,zbi 31 .lss 28 30]),(.cond 31 .skip (.exit 0))]),(.block 1 (zsq [(.reg [zLd 35 2 3,zmv 36 8,zca 37 237 [35,36],zmv 38 1,zca 39 206 [37,38],zmv 34 39,zex 40 34 0,zex 41 34 1,zmv 9 40,zmv 10 41]),(.reg [zmv 42 6,zmv 43 9,zop 44 (.bsl 3 [TI] [43]),zop 45 (.app 42 44 3 [TI]),zmv 6 45]),(.reg [zmv 46 7,zmv 47 46,.grp 47 false [zmv 48 10] 49 48,zmv 7 49])])),(.reg [zmv 32 8,zbi 33 .add 32 (zki 1),zmv 8 33])])
def QBK:List (Nat × Md):=[(1,.one .d),(2,.b [.d,.d,.d]),(6,.one .f),(7,.one .d),(8,.one .d)]
def QwB:TCode :=
 (zsq [(.reg [zmv 50 6,zmv 51 7,zmv 4 50,zmv 5 51]),.ret])
def QW5:TCode :=
 (zsq [(.reg [zop 2 (.box 185 0 3),zmv 4 (.k (.n [TI])),zmv 5 (zkb false)]),(.reg [zop 11 (.bsl 3 [TI] []),zmv 6 11]),(.reg [zmv 7 (zkb false)]),(zsq [(.reg [zLd 12 2 3,zca 13 236 [12],zno 14 13,zmv 15 14,.grp 15 false [zmv 16 1,zca 17 42 [16],zno 18 17] 19 18,zmv 20 19,.grp 20 false [zmv 21 1,zle 22 21,zfa 23 2 1,zld 24 23 1,zbi 25 .neq 22 24] 26 25]),(.cond 26 (zsq [(.reg [zmv 27 6,zmv 4 27,zmv 5 (zkb false)]),.ret]) .skip)]),(zsq [(.reg [zmv 8 (zki 0)]),(.block 0 (.loop QBK Qwx))]),QwB])
def QCo:List (ARv × Md):=[(.t 4,.one .d),(.t 5,.one .d)]
def Qwe:Qb:=TQ 0 0 QCo K
def QXA:Qb:=Qseq (tawp Qpl 0 QwB (Qwe K)) (Qwe K)
def QVH:Qb:=Qblk 0 (QXA K)
def Qki (m:TMat) (x:List Int) (sat:Bool) (i:Int) (out:List Int):Prop:=Loop Qpl 0 QBK Qwx (QVH K) ⟨[(1,(zcs [TI] x)),(2,(.p 0 0 0)),(6,(.r [TI] 1 0 out.length)),(7,(zcb sat)),(8,(zci i))],[(0,(.box [(zci m.1),(zci m.2.1),(zcs [TI] m.2.2)])),(1,(.sl 3 [TI] true out))],2⟩
theorem Qv5 (m:TMat) (x:List Int) (sat:Bool) (i:Int) (out:List Int) (h :
 (zif (decide (i<m.1)) ((QoE m i)∧(((out.length=out.length∨out.length+1≤out.length)∧out.length+1≤big)∧(Qki K m x (sat||((Q1 (Y4 m i) x).2)) (w64 (i+(1:Int))) (List.take (out.length+1) ((List.take out.length out)++([(Q1 (Y4 m i) x).1])))))) (K (Qcr ((List.take out.length (List.drop 0 out)),sat))))):Qki K m x sat i out :=
 Loop.of (by kernel_rfl) h
theorem QLf (m:TMat) (x:List Int) (h :
 (zif (((!(Zx m))||(!(QK x)))||((x.length:Int) != m.2.1)) (K (Qcr (([]:List Int),false))) (Qki K m x false 0 ([]:List Int)))):Hold (tawp Qpl (0+0) QW5 (TQ 0 0 QCo K) (Qh [(.a [(.c TI m.1),(.c TI m.2.1),(.c (.sl [TI]) m.2.2)]),(.c (.sl [TI]) x)])) :=
 Hold.of (by kernel_rfl) h
theorem QTi (m:TMat) (x:List Int):TCon Tryz.prog 224 [(.a [(.c TI m.1),(.c TI m.2.1),(.c (.sl [TI]) m.2.2)]),(.c (.sl [TI]) x)] (Qcr (Zn m x)):=by
 refine Qo rfl fun hb=>tcg (n:=52) (sg:=Qoz.sg) Ql (TOk.cons Qsg (TOk.cons Jp (TOk.cons QQD (TOk.cons Qhb TOk.nil)))) (by kernel_rfl) (by kernel_rfl) (QLf _ m x ?_)
 have hl_m_2:(m.2.2).length≤9223372036854775807:=hb.1.2.2.1.1
 have hl_x:x.length≤9223372036854775807:=hb.2.1.1
 have hg:∀ n:Int,(!(QK x)||((x.length:Int) != n)) = !(Qq x n):=fun n=>by unfold Qq;simp [bne]
 rw [Bool.or_assoc,hg]
 refine ⟨fun h=>R_eq (by rw [QwZ];intro h2;simp [h2.1,h2.2] at h),fun h=>?_⟩
 have hp:Zx m=true∧Qq x m.2.1=true:=by simpa using h
 obtain ⟨h1,h2,h3,h4,h5,h6,h7⟩:=Qdu hp.1
 have hv:(Zn m x)=((List.range m.1.toNat).map fun i:Nat=>(Q1 (Y4 m i) x).1,(List.range m.1.toNat).any fun i:Nat=>(Q1 (Y4 m i) x).2):=by unfold Zn;rw [if_pos (by simp [hp])]
 refine Jb m.1.toNat (fun j=>Qki (fun r'=>r'=Qcr (Zn m x)) m x ((List.range j).any fun i:Nat=>(Q1 (Y4 m i) x).2) (j:Int) ((List.range j).map fun i:Nat=>(Q1 (Y4 m i) x).1)) ?_ ?_
 ·refine Qv5 (fun r'=>r'=Qcr (Zn m x)) m x _ _ _ ⟨fun h=>by simp at h;omega,fun _=>R_eq ?_⟩
  rw [hv,List.drop_zero,List.take_length]
 ·intro j hj ih
  have hd:=idx (r:=j) (R:=m.1) (C:=m.2.1) (by omega) (by omega) (by omega)
  refine Qv5 (fun r'=>r'=Qcr (Zn m x)) m x _ _ _ ⟨fun _=>?_,fun h=>by simp at h;omega⟩
  rw [sc1 (by omega),Za]
  rw [Qgd,Qm5] at ih
  exact ⟨⟨by omega,by omega,by omega,by omega,by omega,h5⟩,room (by simp;omega),ih⟩
theorem QFl:Qi Tryz.prog Qoz:=Qm fun x _=>QTi x.1 x.2.1
def QaX (t:TMat):TRes:=zra (.a [(zci t.1),(zci t.2.1),(zcs [TI] t.2.2)])
def Qpo:TRow:=Qj 235 [(.a [TI,TI,(.sl [TI])])] fun x=>(none,QaX (YX x.1))
def QdH:List TRow:=[Qgg]
def QyZ:TCode :=
 (zsq [(zsq [(.reg [zmv 21 5,zfa 22 1 0,zld 23 22 1,zbi 24 .lss 21 23]),(.cond 24 .skip (.exit 2))]),(.block 3 (.draw [zfa 27 3 2,zld 28 27 1,zfa 29 1 2,zld 30 29 1,zmv 31 5,zfa 32 1 1,zld 33 32 1,zbi 34 .mul 31 33,zmv 35 4,zbi 36 .add 34 35,zia 37 30 36 [TI],zld 38 37 1,zop 39 (.bsl 3 [TI] [38]),zop 40 (.app 28 39 3 [TI]),zfa 41 3 2,zst 41 40 1] [(0,12),(1,12)])),(.reg [zmv 25 5,zbi 26 .add 25 (zki 1),zmv 5 26])])
def QEp:List (Nat × Md):=[(1,.b [.d,.d,.d]),(2,.b [.d,.d,.d]),(3,.b [.d,.d,.f]),(4,.one .d),(5,.one .d)]
def Qwt:TCode :=
 (.reg [zmv 19 4,zbi 20 .add 19 (zki 1),zmv 4 20])
def QoP:TCode :=
 (zsq [(zsq [(.reg [zmv 15 4,zfa 16 1 1,zld 17 16 1,zbi 18 .lss 15 17]),(.cond 18 .skip (.exit 0))]),(.block 1 (zsq [(.reg [zmv 5 (zki 0)]),(.block 2 (.loop QEp QyZ))])),Qwt])
def Qjf:List (Nat × Md):=[(1,.b [.d,.d,.d]),(2,.b [.d,.d,.d]),(3,.b [.d,.d,.o 3]),(4,.one .d)]
def Qxa:TCode :=
 (zsq [(.reg [zLd 42 3 3,zst 2 42 3]),.ret])
def QO9:TCode :=
 (zsq [(.reg [zop 1 (.box 185 0 3),zop 2 (.new 185 (z0s [TI,TI,(.sl [TI])]))]),(zsq [(.reg [zLd 6 1 3,zca 7 233 [6],zno 8 7]),(.cond 8 (zsq [(.reg [zop 9 (.build (z0s [TI,TI,(.sl [TI])]) []),zst 2 9 3]),.ret]) .skip)]),(.reg [zfa 10 1 1,zld 11 10 1,zfa 12 1 0,zld 13 12 1,zop 14 (.build (z0s [TI,TI,(.sl [TI])]) [(0,1,11),(1,1,13)]),zop 3 (.new 185 (z0s [TI,TI,(.sl [TI])])),zst 3 14 3]),(zsq [(.reg [zmv 4 (zki 0)]),(.block 0 (.loop Qjf QoP))]),Qxa])
def QDf:List (ARv × Md):=[(.l 2 3 true,.b [.d,.d,.d])]
def Qvq:Qb:=TQ 0 0 QDf K
def QGe:Qb:=Qseq (tawp QdH 0 Qxa (Qvq K)) (Qvq K)
def Qot:Qb:=Qblk 0 (QGe K)
def QyB:Qb:=Qseq (fun s'=>Loop QdH 0 Qjf QoP (Qot K) (gc 0 Qjf s')) (Qot K)
def QTe:Qb:=Qseq (tawp QdH 0 Qwt (QyB K)) (QyB K)
def QGg:Qb:=Qblk 1 (QTe K)
def QZm:Qb:=Qblk 2 (QGg K)
def QiY (m:TMat) (r:Int) (t2:List Int) (c:Int):Prop:=Loop QdH 0 QEp QyZ (QZm K) ⟨[(1,(.p 0 0 0)),(2,(.p 1 0 0)),(3,(.p 3 0 0)),(4,(zci c)),(5,(zci r))],[(0,(.box [(zci m.1),(zci m.2.1),(zcs [TI] m.2.2)])),(1,(.box [(zci 0),(zci 0),(zcs [TI] ([]))])),(2,(.sl 3 [TI] true t2)),(3,(.box [(zci m.2.1),(zci m.1),(.r [TI] 2 0 t2.length)]))],4⟩
def Qh0 (m:TMat) (c:Int) (t21:List Int):Prop:=Loop QdH 0 Qjf QoP (Qot K) ⟨[(1,(.p 0 0 0)),(2,(.p 1 0 0)),(3,(.p 3 0 0)),(4,(zci c))],[(0,(.box [(zci m.1),(zci m.2.1),(zcs [TI] m.2.2)])),(1,(.box [(zci 0),(zci 0),(zcs [TI] ([]))])),(2,(.sl 3 [TI] true t21)),(3,(.box [(zci m.2.1),(zci m.1),(.r [TI] 2 0 t21.length)]))],4⟩
theorem QCU (m:TMat) (r:Int) (t2:List Int) (c:Int) (h :
 (zif (decide (r<m.1)) ((((0:Int)≤w64 ((w64 (r*m.2.1))+c)∧Int.toNat (w64 ((w64 (r*m.2.1))+c))<(m.2.2).length)∧((t2.length=t2.length∨t2.length+1≤t2.length)∧t2.length+1≤big))∧(QiY K m (w64 (r+(1:Int))) (List.take (t2.length+1) ((List.take t2.length t2)++([(gtd (0:Int) m.2.2 (Int.toNat (w64 ((w64 (r*m.2.1))+c))))]))) c)) (Qh0 K m (w64 (c+(1:Int))) (List.take t2.length t2)))):QiY K m r t2 c :=
 Loop.of (by kernel_rfl) h
theorem QCP (m:TMat) (c:Int) (t21:List Int) (h :
 (zif (decide (c<m.2.1)) (QiY K m 0 (List.take t21.length t21) c) (K (QaX (m.2.1,m.1,(List.take t21.length (List.drop 0 t21))))))):Qh0 K m c t21 :=
 Loop.of (by kernel_rfl) h
theorem QKK (m:TMat) (h :
 (zif (!(Zx m)) (K (QaX ((0:Int),(0:Int),[]))) (Qh0 K m 0 ([]:List Int)))):Hold (tawp QdH (0+0) QO9 (TQ 0 0 QDf K) (Qh [(.a [(.c TI m.1),(.c TI m.2.1),(.c (.sl [TI]) m.2.2)])])) :=
 Hold.of (by kernel_rfl) h
theorem QJV (m:TMat):TCon Tryz.prog 235 [(.a [(.c TI m.1),(.c TI m.2.1),(.c (.sl [TI]) m.2.2)])] (QaX (YX m)):=by
 refine Qo rfl fun hb=>tcg (n:=43) (sg:=Qpo.sg) Ql (TOk.cons QkR TOk.nil) (by kernel_rfl) (by kernel_rfl) (QKK _ m ?_)
 have hl_m_2:(m.2.2).length≤9223372036854775807:=hb.1.2.2.1.1
 refine ⟨fun h=>R_eq (by unfold YX;rw [if_neg (by simpa using h)]),fun h=>?_⟩
 have hp:Zx m=true:=by simpa using h
 obtain ⟨h1,h2,h3,h4,h5,h6,h7⟩:=Qdu hp
 refine Jb m.2.1.toNat (fun k=>Qh0 (fun r'=>r'=QaX (YX m)) m (k:Int) ((List.range k).flatMap fun k:Nat=>Z9 m k)) ?_ ?_
 ·refine QCP (fun r'=>r'=QaX (YX m)) m _ _ ⟨fun h=>by simp at h;omega,fun _=>R_eq ?_⟩
  rw [List.drop_zero,List.take_length];unfold YX;rw [if_pos hp]
 ·intro k hk ih
  refine QCP (fun r'=>r'=QaX (YX m)) m _ _ ⟨fun _=>?_,fun h=>by simp at h;omega⟩
  rw [List.take_length]
  have hk36:((List.range k).flatMap fun k:Nat=>Z9 m k).length≤36:=by
   rw [Qog (R:=m.1.toNat) k (fun j _=>QpY m j)]
   have:k*m.1.toNat≤6*6:=Nat.mul_le_mul (by omega) (by omega)
   omega
  have inner:=Jb m.1.toNat (fun j=>QiY (fun r'=>r'=QaX (YX m)) m (j:Int) (((List.range k).flatMap fun k:Nat=>Z9 m k)++(List.range j).map fun i:Nat=>gtd 0 m.2.2 ((i:Int)*m.2.1+(k:Nat)).toNat) (k:Int)) ?_ ?_
  ·simpa using inner
  ·refine QCU (fun r'=>r'=QaX (YX m)) m _ _ _ ⟨fun h=>by simp at h;omega,fun _=>?_⟩
   rw [List.take_length,sc1 (by omega)]
   rw [Qem] at ih
   exact ih
  ·intro j hj ih2
   have hd:=idx (r:=j) (R:=m.1) (C:=m.2.1) (by omega) (by omega) (by omega)
   refine QCU (fun r'=>r'=QaX (YX m)) m _ _ _ ⟨fun _=>?_,fun h=>by simp at h;omega⟩
   rw [Qt (x:=(j:Int)*m.2.1) (by omega) (by omega),Qt (x:=(j:Int)*m.2.1+(k:Int)) (by omega) (by omega),sc1 (by omega),Za]
   rw [Qgd,← List.append_assoc] at ih2
   exact ⟨⟨⟨by omega,by omega⟩,room (by rw [List.length_append];simp only [List.length_map,List.length_range];omega)⟩,ih2⟩
theorem QZA:Qi Tryz.prog Qpo:=Qm fun x _=>QJV x.1
def Qkv (t:(List Int) × Bool):TRes:=zra (.tp [(zcs [TI] t.1),(zcb t.2)])
def QnK:TRow:=Qj 218 [(.a [TI,TI,(.sl [TI])]),(.c (.sl [TI]))] fun x=>(none,Qkv (Zt x.1 x.2.1))
def QIX:List TRow:=[Qgg,Qah,Qpo,Qg3]
def QWx:TCode :=
 (zsq [(.reg [zop 2 (.box 185 0 3),zmv 4 (.k (.n [TI])),zmv 5 (zkb false)]),(zsq [(.reg [zLd 6 2 3,zca 7 233 [6],zno 8 7,zmv 9 8,.grp 9 false [zmv 10 1,zfa 11 2 0,zld 12 11 1,zca 13 114 [10,12],zno 14 13] 15 14]),(.cond 15 (zsq [(.reg [zmv 4 (.k (.n [TI])),zmv 5 (zkb false)]),.ret]) .skip)]),(.reg [zLd 16 2 3,zca 17 235 [16],zmv 18 1,zca 19 211 [17,18],zex 20 19 0,zex 21 19 1,zmv 4 20,zmv 5 21]),.ret])
def QVN:List (ARv × Md):=[(.t 4,.one .d),(.t 5,.one .d)]
theorem QOg (m:TMat) (d:List Int) (h :
 (zif ((!(Zx m))||(!(Qq d m.1))) (K (Qkv ([],false))) (K (Qkv ((Zn (YX m) d).1,(Zn (YX m) d).2))))):Hold (tawp QIX (0+0) QWx (TQ 0 0 QVN K) (Qh [(.a [(.c TI m.1),(.c TI m.2.1),(.c (.sl [TI]) m.2.2)]),(.c (.sl [TI]) d)])) :=
 Hold.of (by kernel_rfl) h
theorem QTa (m:TMat) (d:List Int):TCon Tryz.prog 218 [(.a [(.c TI m.1),(.c TI m.2.1),(.c (.sl [TI]) m.2.2)]),(.c (.sl [TI]) d)] (Qkv (Zt m d)):=by
 refine Qo rfl fun hb=>tcg (n:=22) (sg:=QnK.sg) Ql (TOk.cons QkR (TOk.cons QaM (TOk.cons QZA (TOk.cons QuU TOk.nil)))) (by kernel_rfl) (by kernel_rfl) (QOg _ m d ?_)
 have hl_m_2:(m.2.2).length≤9223372036854775807:=hb.1.2.2.1.1
 have hl_d:d.length≤9223372036854775807:=hb.2.1.1
 refine ⟨fun h=>R_eq (by rw [Qtl];intro h2;simp [h2.1,h2.2] at h),fun h=>?_⟩
 have hp:Zx m=true∧Qq d m.1=true:=by simpa using h
 exact R_eq (QYE hp.1 hp.2)
theorem QUQ:Qi Tryz.prog QnK:=Qm fun x _=>QTa x.1 x.2.1
def QcX (t:(List Int) × Bool):TRes:=zra (.tp [(zcs [TI] t.1),(zcb t.2)])
def Qqh:TRow:=Qj 231 [(.a [TI,TI,(.sl [TI])]),(.c (.sl [TI]))] fun x=>(none,QcX (Zt x.1 x.2.1))
def QmI:List TRow:=[QiR,Y6,Qqy,QdN]
def QBZ:TCode :=
 (zsq [(zsq [(.reg [zmv 28 8,zfa 29 2 1,zld 30 29 1,zbi 31 .lss 28 30]),(.cond 31 .skip (.exit 0))]),(.block 1 (zsq [(.reg [zLd 35 2 3,zmv 36 8,zca 37 240 [35,36],zmv 38 1,zca 39 206 [37,38],zmv 34 39,zex 40 34 0,zex 41 34 1,zmv 9 40,zmv 10 41]),(.reg [zmv 42 6,zmv 43 9,zop 44 (.bsl 3 [TI] [43]),zop 45 (.app 42 44 3 [TI]),zmv 6 45]),(.reg [zmv 46 7,zmv 47 46,.grp 47 false [zmv 48 10] 49 48,zmv 7 49])])),(.reg [zmv 32 8,zbi 33 .add 32 (zki 1),zmv 8 33])])
def Qxt:List (Nat × Md):=[(1,.one .d),(2,.b [.d,.d,.d]),(6,.one .f),(7,.one .d),(8,.one .d)]
def QuI:TCode :=
 (zsq [(.reg [zmv 50 6,zmv 51 7,zmv 4 50,zmv 5 51]),.ret])
def QLw:TCode :=
 (zsq [(.reg [zop 2 (.box 185 0 3),zmv 4 (.k (.n [TI])),zmv 5 (zkb false)]),(.reg [zop 11 (.bsl 3 [TI] []),zmv 6 11]),(.reg [zmv 7 (zkb false)]),(zsq [(.reg [zLd 12 2 3,zca 13 236 [12],zno 14 13,zmv 15 14,.grp 15 false [zmv 16 1,zca 17 42 [16],zno 18 17] 19 18,zmv 20 19,.grp 20 false [zmv 21 1,zle 22 21,zfa 23 2 0,zld 24 23 1,zbi 25 .neq 22 24] 26 25]),(.cond 26 (zsq [(.reg [zmv 27 6,zmv 4 27,zmv 5 (zkb false)]),.ret]) .skip)]),(zsq [(.reg [zmv 8 (zki 0)]),(.block 0 (.loop Qxt QBZ))]),QuI])
def QwS:List (ARv × Md):=[(.t 4,.one .d),(.t 5,.one .d)]
def QAw:Qb:=TQ 0 0 QwS K
def QTC:Qb:=Qseq (tawp QmI 0 QuI (QAw K)) (QAw K)
def QKh:Qb:=Qblk 0 (QTC K)
def Qkz (m:TMat) (d:List Int) (sat:Bool) (k:Int) (out:List Int):Prop:=Loop QmI 0 Qxt QBZ (QKh K) ⟨[(1,(zcs [TI] d)),(2,(.p 0 0 0)),(6,(.r [TI] 1 0 out.length)),(7,(zcb sat)),(8,(zci k))],[(0,(.box [(zci m.1),(zci m.2.1),(zcs [TI] m.2.2)])),(1,(.sl 3 [TI] true out))],2⟩
theorem QsI (m:TMat) (d:List Int) (sat:Bool) (k:Int) (out:List Int) (h :
 (zif (decide (k<m.2.1)) ((Qne m k)∧(((out.length=out.length∨out.length+1≤out.length)∧out.length+1≤big)∧(Qkz K m d (sat||((Q1 (Z9 m k) d).2)) (w64 (k+(1:Int))) (List.take (out.length+1) ((List.take out.length out)++([(Q1 (Z9 m k) d).1])))))) (K (QcX ((List.take out.length (List.drop 0 out)),sat))))):Qkz K m d sat k out :=
 Loop.of (by kernel_rfl) h
theorem QVI (m:TMat) (d:List Int) (h :
 (zif (((!(Zx m))||(!(QK d)))||((d.length:Int) != m.1)) (K (QcX (([]:List Int),false))) (Qkz K m d false 0 ([]:List Int)))):Hold (tawp QmI (0+0) QLw (TQ 0 0 QwS K) (Qh [(.a [(.c TI m.1),(.c TI m.2.1),(.c (.sl [TI]) m.2.2)]),(.c (.sl [TI]) d)])) :=
 Hold.of (by kernel_rfl) h
theorem QNr (m:TMat) (d:List Int):TCon Tryz.prog 231 [(.a [(.c TI m.1),(.c TI m.2.1),(.c (.sl [TI]) m.2.2)]),(.c (.sl [TI]) d)] (QcX (Zt m d)):=by
 refine Qo rfl fun hb=>tcg (n:=52) (sg:=Qqh.sg) Ql (TOk.cons Qsg (TOk.cons Jp (TOk.cons QV3 (TOk.cons Qhb TOk.nil)))) (by kernel_rfl) (by kernel_rfl) (QVI _ m d ?_)
 have hl_m_2:(m.2.2).length≤9223372036854775807:=hb.1.2.2.1.1
 have hl_d:d.length≤9223372036854775807:=hb.2.1.1
 have hg:∀ n:Int,(!(QK d)||((d.length:Int) != n)) = !(Qq d n):=fun n=>by unfold Qq;simp [bne]
 rw [Bool.or_assoc,hg]
 refine ⟨fun h=>R_eq (by rw [Qtl];intro h2;simp [h2.1,h2.2] at h),fun h=>?_⟩
 have hp:Zx m=true∧Qq d m.1=true:=by simpa using h
 obtain ⟨h1,h2,h3,h4,h5,h6,h7⟩:=Qdu hp.1
 have hv:(Zt m d)=((List.range m.2.1.toNat).map fun k:Nat=>(Q1 (Z9 m k) d).1,(List.range m.2.1.toNat).any fun k:Nat=>(Q1 (Z9 m k) d).2):=by unfold Zt;rw [if_pos (by simp [hp])]
 refine Jb m.2.1.toNat (fun j=>Qkz (fun r'=>r'=QcX (Zt m d)) m d ((List.range j).any fun k:Nat=>(Q1 (Z9 m k) d).2) (j:Int) ((List.range j).map fun k:Nat=>(Q1 (Z9 m k) d).1)) ?_ ?_
 ·refine QsI (fun r'=>r'=QcX (Zt m d)) m d _ _ _ ⟨fun h=>by simp at h;omega,fun _=>R_eq ?_⟩
  rw [hv,List.drop_zero,List.take_length]
 ·intro j hj ih
  refine QsI (fun r'=>r'=QcX (Zt m d)) m d _ _ _ ⟨fun _=>?_,fun h=>by simp at h;omega⟩
  rw [sc1 (by omega),Za]
  rw [Qgd,Qm5] at ih
  exact ⟨⟨by omega,by omega,by omega,by omega,by omega,h5⟩,room (by simp;omega),ih⟩
theorem QGl:Qi Tryz.prog Qqh:=Qm fun x _=>QNr x.1 x.2.1
def QaZ (t:TMat × Bool):TRes:=zra (.tp [(.a [(zci t.1.1),(zci t.1.2.1),(zcs [TI] t.1.2.2)]),(zcb t.2)])
def Qob:TRow:=Qj 219 [(.c (.sl [TI])),(.c (.sl [TI]))] fun x=>(none,QaZ (Zl x.1 x.2.1))
def QeC:List TRow:=[Qbg,QfA]
def QA8:TCode :=
 (zsq [(.reg [zbi 37 .lss 36 35]),(.cond 37 .skip (.exit 2)),(.block 3 (zsq [(.reg [zia 38 34 36 [TI],zld 39 38 1,zmv 11 39]),(.reg [zmv 41 9,zmv 42 11,zca 43 216 [41,42],zmv 40 43,zex 44 40 0,zex 45 40 1,zmv 12 44,zmv 13 45]),(.reg [zfa 46 6 2,zld 47 46 1,zmv 48 12,zop 49 (.bsl 3 [TI] [48]),zop 50 (.app 47 49 3 [TI]),zfa 51 6 2,zst 51 50 1]),(.reg [zmv 52 7,zmv 53 52,.grp 53 false [zmv 54 13] 55 54,zmv 7 55])])),(.reg [zbi 56 .add 36 (zki 1),zmv 36 56])])
def Qv1:List (Nat × Md):=[(1,.one .d),(4,.b [.d,.d,.d]),(6,.b [.d,.d,.f]),(7,.one .d),(9,.one .d),(28,.one .d),(29,.one .d),(30,.one .d),(34,.one .d),(35,.one .d),(36,.one .d)]
def Qvt:TCode :=
 (.reg [zbi 57 .add 30 (zki 1),zmv 30 57])
def QlL:TCode :=
 (zsq [(.reg [zbi 31 .lss 30 29]),(.cond 31 .skip (.exit 0)),(.block 1 (zsq [(.reg [zia 32 28 30 [TI],zld 33 32 1,zmv 9 33]),(.reg [zmv 34 1,zle 35 34,zmv 36 (zki 0)]),(.block 2 (.loop Qv1 QA8))])),Qvt])
def QkK:List (Nat × Md):=[(1,.one .d),(4,.b [.d,.d,.d]),(6,.b [.d,.d,.o 3]),(7,.one .d),(28,.one .d),(29,.one .d),(30,.one .d)]
def Qxj:TCode :=
 (zsq [(.reg [zLd 58 6 3,zmv 59 7,zst 4 58 3,zmv 5 59]),.ret])
def QHB:TCode :=
 (zsq [(.reg [zop 4 (.new 185 (z0s [TI,TI,(.sl [TI])])),zmv 5 (zkb false)]),(zsq [(.reg [zmv 14 0,zca 15 134 [14],zno 16 15,zmv 17 16,.grp 17 false [zmv 18 1,zca 19 134 [18],zno 20 19] 21 20]),(.cond 21 (zsq [(.reg [zop 22 (.build (z0s [TI,TI,(.sl [TI])]) []),zst 4 22 3,zmv 5 (zkb false)]),.ret]) .skip)]),(.reg [zmv 23 0,zle 24 23,zmv 25 1,zle 26 25,zop 27 (.build (z0s [TI,TI,(.sl [TI])]) [(0,1,24),(1,1,26)]),zop 6 (.new 185 (z0s [TI,TI,(.sl [TI])])),zst 6 27 3]),(.reg [zmv 7 (zkb false)]),(zsq [(.reg [zmv 28 0,zle 29 28,zmv 30 (zki 0)]),(.block 0 (.loop QkK QlL))]),Qxj])
def Qur:List (ARv × Md):=[(.l 4 3 true,.b [.d,.d,.d]),(.t 5,.one .d)]
def QEi:Qb:=TQ 0 0 Qur K
def QOc:Qb:=Qseq (tawp QeC 0 Qxj (QEi K)) (QEi K)
def QqI:Qb:=Qblk 0 (QOc K)
def QsE:Qb:=Qseq (fun s'=>Loop QeC 0 QkK QlL (QqI K) (gc 0 QkK s')) (QqI K)
def QRP:Qb:=Qseq (tawp QeC 0 Qvt (QsE K)) (QsE K)
def QVd:Qb:=Qblk 1 (QRP K)
def QPy:Qb:=Qblk 2 (QVd K)
def QjV (d:List Int) (x:List Int) (out:Bool) (x1:Int) (m2:List Int) (x2:Int):Prop:=Loop QeC 0 Qv1 QA8 (QPy K) ⟨[(1,(zcs [TI] x)),(4,(.p 0 0 0)),(6,(.p 2 0 0)),(7,(zcb out)),(9,(zci (gtd (0:Int) d (Int.toNat x2)))),(28,(zcs [TI] d)),(29,(zci (d.length:Int))),(30,(zci x2)),(34,(zcs [TI] x)),(35,(zci (x.length:Int))),(36,(zci x1))],[(0,(.box [(zci 0),(zci 0),(zcs [TI] ([]))])),(1,(.sl 3 [TI] true m2)),(2,(.box [(zci (d.length:Int)),(zci (x.length:Int)),(.r [TI] 1 0 m2.length)]))],3⟩
def Qkp (d:List Int) (x:List Int) (out1:Bool) (x2:Int) (m21:List Int):Prop:=Loop QeC 0 QkK QlL (QqI K) ⟨[(1,(zcs [TI] x)),(4,(.p 0 0 0)),(6,(.p 2 0 0)),(7,(zcb out1)),(28,(zcs [TI] d)),(29,(zci (d.length:Int))),(30,(zci x2))],[(0,(.box [(zci 0),(zci 0),(zcs [TI] ([]))])),(1,(.sl 3 [TI] true m21)),(2,(.box [(zci (d.length:Int)),(zci (x.length:Int)),(.r [TI] 1 0 m21.length)]))],3⟩
theorem QDJ (d:List Int) (x:List Int) (out:Bool) (x1:Int) (m2:List Int) (x2:Int) (h :
 (zif (decide (x1<(x.length:Int))) (((0:Int)≤x1∧Int.toNat x1<x.length)∧(((m2.length=m2.length∨m2.length+1≤m2.length)∧m2.length+1≤big)∧(QjV K d x (out||((Zp (gtd (0:Int) d (Int.toNat x2)) (gtd (0:Int) x (Int.toNat x1))).2)) (w64 (x1+(1:Int))) (List.take (m2.length+1) ((List.take m2.length m2)++([(Zp (gtd (0:Int) d (Int.toNat x2)) (gtd (0:Int) x (Int.toNat x1))).1]))) x2))) (Qkp K d x out (w64 (x2+(1:Int))) (List.take m2.length m2)))):QjV K d x out x1 m2 x2 :=
 Loop.of (by kernel_rfl) h
theorem Qvb (d:List Int) (x:List Int) (out1:Bool) (x2:Int) (m21:List Int) (h :
 (zif (decide (x2<(d.length:Int))) (((0:Int)≤x2∧Int.toNat x2<d.length)∧(QjV K d x out1 0 (List.take m21.length m21) x2)) (K (QaZ (((d.length:Int),(x.length:Int),(List.take m21.length (List.drop 0 m21))),out1))))):Qkp K d x out1 x2 m21 :=
 Loop.of (by kernel_rfl) h
theorem QFH (d:List Int) (x:List Int) (h :
 (zif ((!(QK d))||(!(QK x))) (K (QaZ (((0:Int),(0:Int),[]),false))) (Qkp K d x false 0 ([]:List Int)))):Hold (tawp QeC (0+0) QHB (TQ 0 0 Qur K) (Qh [(.c (.sl [TI]) d),(.c (.sl [TI]) x)])) :=
 Hold.of (by kernel_rfl) h
theorem QN9 (d:List Int) (x:List Int):TCon Tryz.prog 219 [(.c (.sl [TI]) d),(.c (.sl [TI]) x)] (QaZ (Zl d x)):=by
 refine Qo rfl fun hb=>tcg (n:=60) (sg:=Qob.sg) Ql (TOk.cons QcB (TOk.cons QlX TOk.nil)) (by kernel_rfl) (by kernel_rfl) (QFH _ d x ?_)
 have hl_d:d.length≤9223372036854775807:=hb.1.1
 have hl_x:x.length≤9223372036854775807:=hb.2.1.1
 refine ⟨fun h=>R_eq (by unfold Zl;rw [if_neg (by simpa [Classical.or_iff_not_imp_left] using h)]),fun h=>?_⟩
 have hp:QK d=true∧QK x=true:=by simpa using h
 have h6:=(ZZ.1 hp.1).1
 have h7:=(ZZ.1 hp.2).1
 refine Zj d (fun r j=>∀ (v:List Int) (z:Bool),v.length≤6*j→((((d.length:Int),(x.length:Int),v++r.flatMap fun a=>x.map fun b=>(Zp a b).1),z||r.any fun a=>x.any fun b=>(Zp a b).2):TMat × Bool)=(Zl d x)→Qkp (fun r'=>r'=QaZ (Zl d x)) d x z j v) ?_ ?_ [] false (Nat.zero_le _) (by unfold Zl;rw [if_pos (by simp [hp])];simp)
 ·intro v z hv he
  refine Qvb (fun r'=>r'=QaZ (Zl d x)) d x _ _ _ ⟨fun h=>by simp at h,fun _=>R_eq ?_⟩
  rw [← he];simp
 ·intro j y r hj hlt hg ih v z hv he
  refine Qvb (fun r'=>r'=QaZ (Zl d x)) d x _ _ _ ⟨fun _=>?_,fun h=>by simp at h;omega⟩
  rw [List.take_length]
  refine ⟨⟨by omega,by omega⟩,Zj x (fun r2 k=>∀ (v2:List Int) (z2:Bool),v2.length=v.length+k→v2++r2.map (fun b=>(Zp y b).1)=v++x.map (fun b=>(Zp y b).1)→(z2||r2.any fun b=>(Zp y b).2)=(z||x.any fun b=>(Zp y b).2)→QjV (fun r'=>r'=QaZ (Zl d x)) d x z2 k v2 j) ?_ ?_ v z (by omega) rfl rfl⟩
  ·intro v2 z2 hv2 he2 hz2
   refine QDJ (fun r'=>r'=QaZ (Zl d x)) d x _ _ _ _ ⟨fun h=>by simp at h,fun _=>?_⟩
   rw [List.take_length,sc1 (by omega)]
   simp only [List.map_nil,List.append_nil,List.any_nil,Bool.or_false] at he2 hz2
   refine ih _ _ (by rw [hv2];omega) ?_
   rw [← he,he2,hz2];simp [Bool.or_assoc]
  ·intro k w r2 hk hlt2 hg2 ih2 v2 z2 hv2 he2 hz2
   refine QDJ (fun r'=>r'=QaZ (Zl d x)) d x _ _ _ _ ⟨fun _=>?_,fun h=>by simp at h;omega⟩
   rw [Int.toNat_natCast,Int.toNat_natCast,hg,hg2,sc1 (by omega),Za]
   refine ⟨⟨by omega,by omega⟩,room (by omega),ih2 _ _ (by simp;omega) ?_ ?_⟩
   ·rw [← he2];simp
   ·rw [← hz2];simp [Bool.or_assoc]
theorem QYc:Qi Tryz.prog Qob:=Qm fun x _=>QN9 x.1 x.2.1
def QaE (t:TMat × Bool):TRes:=zra (.tp [(.a [(zci t.1.1),(zci t.1.2.1),(zcs [TI] t.1.2.2)]),(zcb t.2)])
def Qmj:TRow:=Qj 232 [(.c (.sl [TI])),(.c (.sl [TI]))] fun x=>(none,QaE (Zl x.1 x.2.1))
def Qd9:List TRow:=[Y6,QeZ]
def QAU:TCode :=
 (zsq [(zsq [(.reg [zmv 32 9,zmv 33 1,zle 34 33,zbi 35 .lss 32 34]),(.cond 35 .skip (.exit 2))]),(.block 3 (zsq [(.draw [zmv 39 0,zmv 40 8,zia 41 39 40 [TI],zld 42 41 1,zmv 43 1,zmv 44 9,zia 45 43 44 [TI],zld 46 45 1,zca 47 229 [42,46],zmv 38 47,zex 48 38 0,zex 49 38 1,zmv 10 48,zmv 11 49] []),(.reg [zfa 50 6 2,zld 51 50 1,zmv 52 10,zop 53 (.bsl 3 [TI] [52]),zop 54 (.app 51 53 3 [TI]),zfa 55 6 2,zst 55 54 1]),(.reg [zmv 56 7,zmv 57 56,.grp 57 false [zmv 58 11] 59 58,zmv 7 59])])),(.reg [zmv 36 9,zbi 37 .add 36 (zki 1),zmv 9 37])])
def QEt:List (Nat × Md):=[(0,.one .d),(1,.one .d),(4,.b [.d,.d,.d]),(6,.b [.d,.d,.f]),(7,.one .d),(8,.one .d),(9,.one .d)]
def Qvj:TCode :=
 (.reg [zmv 30 8,zbi 31 .add 30 (zki 1),zmv 8 31])
def QqD:TCode :=
 (zsq [(zsq [(.reg [zmv 26 8,zmv 27 0,zle 28 27,zbi 29 .lss 26 28]),(.cond 29 .skip (.exit 0))]),(.block 1 (zsq [(.reg [zmv 9 (zki 0)]),(.block 2 (.loop QEt QAU))])),Qvj])
def Qjt:List (Nat × Md):=[(0,.one .d),(1,.one .d),(4,.b [.d,.d,.d]),(6,.b [.d,.d,.o 3]),(7,.one .d),(8,.one .d)]
def QtC:TCode :=
 (zsq [(.reg [zLd 60 6 3,zmv 61 7,zst 4 60 3,zmv 5 61]),.ret])
def QJ2:TCode :=
 (zsq [(.reg [zop 4 (.new 185 (z0s [TI,TI,(.sl [TI])])),zmv 5 (zkb false)]),(zsq [(.reg [zmv 12 0,zca 13 42 [12],zno 14 13,zmv 15 14,.grp 15 false [zmv 16 1,zca 17 42 [16],zno 18 17] 19 18]),(.cond 19 (zsq [(.reg [zop 20 (.build (z0s [TI,TI,(.sl [TI])]) []),zst 4 20 3,zmv 5 (zkb false)]),.ret]) .skip)]),(.reg [zmv 21 0,zle 22 21,zmv 23 1,zle 24 23,zop 25 (.build (z0s [TI,TI,(.sl [TI])]) [(0,1,22),(1,1,24)]),zop 6 (.new 185 (z0s [TI,TI,(.sl [TI])])),zst 6 25 3]),(.reg [zmv 7 (zkb false)]),(zsq [(.reg [zmv 8 (zki 0)]),(.block 0 (.loop Qjt QqD))]),QtC])
def Qra:List (ARv × Md):=[(.l 4 3 true,.b [.d,.d,.d]),(.t 5,.one .d)]
def Qto:Qb:=TQ 0 0 Qra K
def QUr:Qb:=Qseq (tawp Qd9 0 QtC (Qto K)) (Qto K)
def Qmu:Qb:=Qblk 0 (QUr K)
def Qsm:Qb:=Qseq (fun s'=>Loop Qd9 0 Qjt QqD (Qmu K) (gc 0 Qjt s')) (Qmu K)
def QYt:Qb:=Qseq (tawp Qd9 0 Qvj (Qsm K)) (Qsm K)
def QXE:Qb:=Qblk 1 (QYt K)
def QXp:Qb:=Qblk 2 (QXE K)
def Qjq (d:List Int) (x:List Int) (sat:Bool) (k:Int) (m2:List Int) (i:Int):Prop:=Loop Qd9 0 QEt QAU (QXp K) ⟨[(0,(zcs [TI] d)),(1,(zcs [TI] x)),(4,(.p 0 0 0)),(6,(.p 2 0 0)),(7,(zcb sat)),(8,(zci i)),(9,(zci k))],[(0,(.box [(zci 0),(zci 0),(zcs [TI] ([]))])),(1,(.sl 3 [TI] true m2)),(2,(.box [(zci (d.length:Int)),(zci (x.length:Int)),(.r [TI] 1 0 m2.length)]))],3⟩
def QiH (d:List Int) (x:List Int) (sat1:Bool) (i:Int) (m21:List Int):Prop:=Loop Qd9 0 Qjt QqD (Qmu K) ⟨[(0,(zcs [TI] d)),(1,(zcs [TI] x)),(4,(.p 0 0 0)),(6,(.p 2 0 0)),(7,(zcb sat1)),(8,(zci i))],[(0,(.box [(zci 0),(zci 0),(zcs [TI] ([]))])),(1,(.sl 3 [TI] true m21)),(2,(.box [(zci (d.length:Int)),(zci (x.length:Int)),(.r [TI] 1 0 m21.length)]))],3⟩
theorem Qv6 (d:List Int) (x:List Int) (sat:Bool) (k:Int) (m2:List Int) (i:Int) (h :
 (zif (decide (k<(x.length:Int))) ((((0:Int)≤i∧Int.toNat i<d.length)∧((0:Int)≤k∧Int.toNat k<x.length))∧(((m2.length=m2.length∨m2.length+1≤m2.length)∧m2.length+1≤big)∧(Qjq K d x (sat||((Zp (gtd (0:Int) d (Int.toNat i)) (gtd (0:Int) x (Int.toNat k))).2)) (w64 (k+(1:Int))) (List.take (m2.length+1) ((List.take m2.length m2)++([(Zp (gtd (0:Int) d (Int.toNat i)) (gtd (0:Int) x (Int.toNat k))).1]))) i))) (QiH K d x sat (w64 (i+(1:Int))) (List.take m2.length m2)))):Qjq K d x sat k m2 i :=
 Loop.of (by kernel_rfl) h
theorem QBo (d:List Int) (x:List Int) (sat1:Bool) (i:Int) (m21:List Int) (h :
 (zif (decide (i<(d.length:Int))) (Qjq K d x sat1 0 (List.take m21.length m21) i) (K (QaE (((d.length:Int),(x.length:Int),(List.take m21.length (List.drop 0 m21))),sat1))))):QiH K d x sat1 i m21 :=
 Loop.of (by kernel_rfl) h
theorem QWE (d:List Int) (x:List Int) (h :
 (zif ((!(QK d))||(!(QK x))) (K (QaE (((0:Int),(0:Int),[]),false))) (QiH K d x false 0 ([]:List Int)))):Hold (tawp Qd9 (0+0) QJ2 (TQ 0 0 Qra K) (Qh [(.c (.sl [TI]) d),(.c (.sl [TI]) x)])) :=
 Hold.of (by kernel_rfl) h
theorem QHb (d:List Int) (x:List Int):TCon Tryz.prog 232 [(.c (.sl [TI]) d),(.c (.sl [TI]) x)] (QaE (Zl d x)):=by
 refine Qo rfl fun hb=>tcg (n:=62) (sg:=Qmj.sg) Ql (TOk.cons Jp (TOk.cons QqW TOk.nil)) (by kernel_rfl) (by kernel_rfl) (QWE _ d x ?_)
 have hl_d:d.length≤9223372036854775807:=hb.1.1
 have hl_x:x.length≤9223372036854775807:=hb.2.1.1
 refine ⟨fun h=>R_eq (by unfold Zl;rw [if_neg (by simpa [Classical.or_iff_not_imp_left] using h)]),fun h=>?_⟩
 have hp:QK d=true∧QK x=true:=by simpa using h
 have h6:=(ZZ.1 hp.1).1
 have h7:=(ZZ.1 hp.2).1
 refine Zj d (fun r j=>∀ (v:List Int) (z:Bool),v.length≤6*j→((((d.length:Int),(x.length:Int),v++r.flatMap fun a=>x.map fun b=>(Zp a b).1),z||r.any fun a=>x.any fun b=>(Zp a b).2):TMat × Bool)=(Zl d x)→QiH (fun r'=>r'=QaE (Zl d x)) d x z j v) ?_ ?_ [] false (Nat.zero_le _) (by unfold Zl;rw [if_pos (by simp [hp])];simp)
 ·intro v z hv he
  refine QBo (fun r'=>r'=QaE (Zl d x)) d x _ _ _ ⟨fun h=>by simp at h,fun _=>R_eq ?_⟩
  rw [← he];simp
 ·intro j y r hj hlt hg ih v z hv he
  refine QBo (fun r'=>r'=QaE (Zl d x)) d x _ _ _ ⟨fun _=>?_,fun h=>by simp at h;omega⟩
  rw [List.take_length]
  refine Zj x (fun r2 k=>∀ (v2:List Int) (z2:Bool),v2.length=v.length+k→v2++r2.map (fun b=>(Zp y b).1)=v++x.map (fun b=>(Zp y b).1)→(z2||r2.any fun b=>(Zp y b).2)=(z||x.any fun b=>(Zp y b).2)→Qjq (fun r'=>r'=QaE (Zl d x)) d x z2 k v2 j) ?_ ?_ v z (by omega) rfl rfl
  ·intro v2 z2 hv2 he2 hz2
   refine Qv6 (fun r'=>r'=QaE (Zl d x)) d x _ _ _ _ ⟨fun h=>by simp at h,fun _=>?_⟩
   rw [List.take_length,sc1 (by omega)]
   simp only [List.map_nil,List.append_nil,List.any_nil,Bool.or_false] at he2 hz2
   refine ih _ _ (by rw [hv2];omega) ?_
   rw [← he,he2,hz2];simp [Bool.or_assoc]
  ·intro k w r2 hk hlt2 hg2 ih2 v2 z2 hv2 he2 hz2
   refine Qv6 (fun r'=>r'=QaE (Zl d x)) d x _ _ _ _ ⟨fun _=>?_,fun h=>by simp at h;omega⟩
   rw [Int.toNat_natCast,Int.toNat_natCast,hg,hg2,sc1 (by omega),Za]
   refine ⟨⟨⟨by omega,by omega⟩,by omega,by omega⟩,room (by omega),ih2 _ _ (by simp;omega) ?_ ?_⟩
   ·rw [← he2];simp
   ·rw [← hz2];simp [Bool.or_assoc]
theorem QOl:Qi Tryz.prog Qmj:=Qm fun x _=>QHb x.1 x.2.1
def Qmc (t:TMat):TRes:=zra (.a [(zci t.1),(zci t.2.1),(zcs [TI] t.2.2)])
def Qio:TRow:=Qj 212 [(.a ctOp)] fun x=>(none,Qmc (Q3 x.1))
def QIH:List TRow:=[]
def QXv:TCode :=
 (zsq [(.reg [zop 1 (.box 69 0 4),zop 2 (.new 185 (z0s [TI,TI,(.sl [TI])]))]),(.reg [zfa 3 1 2,zld 4 3 1,zfa 5 1 1,zld 6 5 1,zfa 7 1 3,zld 8 7 1,zop 9 (.build (z0s [TI,TI,(.sl [TI])]) [(0,1,4),(1,1,6),(2,1,8)]),zst 2 9 3]),.ret])
def QJ9:List (ARv × Md):=[(.l 2 3 true,.b [.d,.d,.d])]
theorem QY3 (o:TOp') (h :
 K (Qmc (o.2.2.1,o.2.1,o.2.2.2))):Hold (tawp QIH (0+0) QXv (TQ 0 0 QJ9 K) (Qh [(.a (Tup.cells ctOp o))])) :=
 Hold.of (by kernel_rfl) h
theorem QLL (o:TOp'):TCon Tryz.prog 212 [(.a (Tup.cells ctOp o))] (Qmc (Q3 o)):=by
 refine Qo rfl fun hb=>tcg (n:=10) (sg:=Qio.sg) Ql TOk.nil (by kernel_rfl) (by kernel_rfl) (QY3 _ o ?_)
 have hl_o_3:(o.2.2.2).length≤9223372036854775807:=hb.1.2.2.2.1.1
 exact R_eq rfl
theorem Qwq:Qi Tryz.prog Qio:=Qm fun x _=>QLL x.1
def QmH (t:TMat):TRes:=zra (.a [(zci t.1),(zci t.2.1),(zcs [TI] t.2.2)])
def QiD:TRow:=Qj 225 [(.a ctOp)] fun x=>(none,QmH (Q3 x.1))
def QVq:List TRow:=[]
def QIe:TCode :=
 (zsq [(.reg [zop 1 (.box 69 0 4),zop 2 (.new 185 (z0s [TI,TI,(.sl [TI])]))]),(.reg [zfa 3 1 2,zld 4 3 1,zfa 5 1 1,zld 6 5 1,zfa 7 1 3,zld 8 7 1,zop 9 (.build (z0s [TI,TI,(.sl [TI])]) [(0,1,4),(1,1,6),(2,1,8)]),zst 2 9 3]),.ret])
def QTj:List (ARv × Md):=[(.l 2 3 true,.b [.d,.d,.d])]
theorem QZb (o:TOp') (h :
 K (QmH (o.2.2.1,o.2.1,o.2.2.2))):Hold (tawp QVq (0+0) QIe (TQ 0 0 QTj K) (Qh [(.a (Tup.cells ctOp o))])) :=
 Hold.of (by kernel_rfl) h
theorem QLR (o:TOp'):TCon Tryz.prog 225 [(.a (Tup.cells ctOp o))] (QmH (Q3 o)):=by
 refine Qo rfl fun hb=>tcg (n:=10) (sg:=QiD.sg) Ql TOk.nil (by kernel_rfl) (by kernel_rfl) (QZb _ o ?_)
 have hl_o_3:(o.2.2.2).length≤9223372036854775807:=hb.1.2.2.2.1.1
 exact R_eq rfl
theorem QCf:Qi Tryz.prog QiD:=Qm fun x _=>QLR x.1
end
end Go.Proofs.YtjbdljkhbglnhaaGreat.Am

