/- -/
import Derived.Test.YtjbdljkhbglnhaaGreatZIP1
import Derived.Test.YtjbdljkhbglnhaaGreatZIPG
import Derived.Test.YtjbdljkhbglnhaaGreatZIPF
namespace Go.Proofs.YtjbdljkhbglnhaaGreat.Am
open Go Go.RowKit Go.Proofs.YtjbdljkhbglnhaaGreat
set_option linter.all false
noncomputable section
variable (K:TRes→Prop)
def Qil (t:Bool):TRes:=zre (zcb t)
def QeO:TRow:=Qk 233 [(.a [TI,TI,(.sl [TI])])] fun x=>(none,Qil (Zw x.1))
def QWe:List TRow:=[Qgd]
def QWA:TCode :=
 (zsq [(.reg [zop 1 (.box 185 0 3),zmv 2 (zkb false)]),(zsq [(.reg [zfa 3 1 0,zld 4 3 1,zbi 5 .lss 4 (zki 1),zmv 6 5,.grp 6 false [zfa 7 1 0,zld 8 7 1,zbi 9 .gtr 8 (zki 6)] 10 9,zmv 11 10,.grp 11 false [zfa 12 1 1,zld 13 12 1,zbi 14 .lss 13 (zki 1)] 15 14,zmv 16 15,.grp 16 false [zfa 17 1 1,zld 18 17 1,zbi 19 .gtr 18 (zki 6)] 20 19]),(.cond 20 (zsq [(.reg [zmv 2 (zkb false)]),.ret]) .skip)]),(.reg [zfa 21 1 2,zld 22 21 1,zle 23 22,zfa 24 1 0,zld 25 24 1,zfa 26 1 1,zld 27 26 1,zbi 28 .mul 25 27,zbi 29 .eql 23 28,zmv 30 29,.grp 30 true [zfa 31 1 2,zld 32 31 1,zca 33 195 [32]] 34 33,zmv 2 34]),.ret])
def QK8:List (ARv × Md):=[(.t 2,.one .d)]
theorem QWQ (m:TMat) (h :
 (zif ((((decide (m.1<(1:Int)))||(decide (m.1>(6:Int))))||(decide (m.2.1<(1:Int))))||(decide (m.2.1>(6:Int)))) (K (Qil false)) (K (Qil ((((m.2.2).length:Int)==(w64 (m.1*m.2.1)))&&(Zz m.2.2)))))):Hold (tawp QWe (0+0) QWA (TQ 0 0 QK8 K) (Qi [(.a [(.c TI m.1),(.c TI m.2.1),(.c (.sl [TI]) m.2.2)])])) :=
 Hold.of (by kernel_rfl) h
theorem QLm (m:TMat):TCon Tryz.prog 233 [(.a [(.c TI m.1),(.c TI m.2.1),(.c (.sl [TI]) m.2.2)])] (Qil (Zw m)):=by
 refine Qo rfl fun hb=>tcg (n:=35) (sg:=QeO.sg) Qm (TOk.cons Qnt TOk.nil) (by kernel_rfl) (by kernel_rfl) (QWQ _ m ?_)
 have hl_m_2:(m.2.2).length≤9223372036854775807:=hb.1.2.2.1.1
 refine ⟨fun h=>R_eq ?_,fun h=>R_eq ?_⟩
 ·have:(m_in m.1 1 6&&m_in m.2.1 1 6)=false:=by simp [m_in];simp at h;omega
  unfold Zw;rw [this];rfl
 ·have h':(1≤m.1∧m.1≤6)∧1≤m.2.1∧m.2.1≤6:=by simp at h;omega
  have hm:=QcN h'.1.1 h'.1.2 h'.2.1 h'.2.2
  rw [Qp (x:=m.1*m.2.1) (by omega) (by omega)]
  unfold Zw
  rw [QP.2 h'.1,QP.2 h'.2];simp
theorem QlJ:Ql Tryz.prog QeO:=Qn fun x _=>QLm x.1
def Qch (t:Bool):TRes:=zre (zcb t)
def QjP:TRow:=Qk 236 [(.a [TI,TI,(.sl [TI])])] fun x=>(none,Qch (Zw x.1))
def Qma:List TRow:=[YN,QdS]
def QC7:TCode :=
 (zsq [(zsq [(.reg [zmv 25 3,zfa 26 1 2,zld 27 26 1,zle 28 27,zbi 29 .lss 25 28]),(.cond 29 .skip (.exit 0))]),(.block 1 (zsq [(.reg [zfa 32 1 2,zld 33 32 1,zmv 34 3,zia 35 33 34 [TI],zld 36 35 1,zca 37 110 [36],zno 38 37]),(.cond 38 (zsq [(.reg [zmv 2 (zkb false)]),.ret]) .skip)])),(.reg [zmv 30 3,zbi 31 .add 30 (zki 1),zmv 3 31])])
def QxP:List (Nat × Md):=[(1,.b [.d,.d,.d]),(3,.one .d)]
def QzD:TCode :=
 (zsq [(.reg [zmv 2 (zkb true)]),.ret])
def QTr:TCode :=
 (zsq [(.reg [zop 1 (.box 185 0 3),zmv 2 (zkb false)]),(zsq [(.reg [zfa 4 1 0,zld 5 4 1,zca 6 77 [5,(zki 1),(zki 6)],zno 7 6,zmv 8 7,.grp 8 false [zfa 9 1 1,zld 10 9 1,zca 11 77 [10,(zki 1),(zki 6)],zno 12 11] 13 12,zmv 14 13,.grp 14 false [zfa 15 1 2,zld 16 15 1,zle 17 16,zfa 18 1 0,zld 19 18 1,zfa 20 1 1,zld 21 20 1,zbi 22 .mul 19 21,zbi 23 .neq 17 22] 24 23]),(.cond 24 (zsq [(.reg [zmv 2 (zkb false)]),.ret]) .skip)]),(zsq [(.reg [zmv 3 (zki 0)]),(.block 0 (.loop QxP QC7))]),QzD])
def QtE:List (ARv × Md):=[(.t 2,.one .d)]
def Qvg:Qb:=TQ 0 0 QtE K
def QLV:Qb:=Qseq (tawp Qma 0 QzD (Qvg K)) (Qvg K)
def QGL:Qb:=Qblk 0 (QLV K)
def QkC (m:TMat) (i:Int):Prop:=Loop Qma 0 QxP QC7 (QGL K) ⟨[(1,(.p 0 0 0)),(3,(zci i))],[(0,(.box [(zci m.1),(zci m.2.1),(zcs [TI] m.2.2)]))],1⟩
theorem QQM (m:TMat) (i:Int) (h :
 (zif (decide (i<((m.2.2).length:Int))) (((0:Int)≤i∧Int.toNat i<(m.2.2).length)∧(zif (!(Zb (gtd (0:Int) m.2.2 (Int.toNat i)))) (K (Qch false)) (QkC K m (w64 (i+(1:Int)))))) (K (Qch true)))):QkC K m i :=
 Loop.of (by kernel_rfl) h
theorem QUN (m:TMat) (h :
 (zif (((!(m_in m.1 (1:Int) (6:Int)))||(!(m_in m.2.1 (1:Int) (6:Int))))||(((m.2.2).length:Int) != (w64 (m.1*m.2.1)))) (K (Qch false)) (QkC K m 0))):Hold (tawp Qma (0+0) QTr (TQ 0 0 QtE K) (Qi [(.a [(.c TI m.1),(.c TI m.2.1),(.c (.sl [TI]) m.2.2)])])) :=
 Hold.of (by kernel_rfl) h
theorem QX6 (m:TMat):TCon Tryz.prog 236 [(.a [(.c TI m.1),(.c TI m.2.1),(.c (.sl [TI]) m.2.2)])] (Qch (Zw m)):=by
 refine Qo rfl fun hb=>tcg (n:=39) (sg:=QjP.sg) Qm (TOk.cons Y5 (TOk.cons Qj4 TOk.nil)) (by kernel_rfl) (by kernel_rfl) (QUN _ m ?_)
 have hl_m_2:(m.2.2).length≤9223372036854775807:=hb.1.2.2.1.1
 refine ⟨fun h=>R_eq ?_,fun h=>?_⟩
 ·have:Zw m=false:=by
   cases hm:Zw m with
   | false=>rfl
   | true =>
    obtain ⟨h1,h2,h3,h4,h5,h6,h7⟩:=Qc8 hm
    rw [QP.2 ⟨h1,h2⟩,QP.2 ⟨h3,h4⟩,Qp (x:=m.1*m.2.1) (by have:=QcN h1 h2 h3 h4;omega) (by omega),← h5] at h
    simp at h
  exact this.symm
 ·have h':m_in m.1 1 6=true∧m_in m.2.1 1 6=true:=by simp at h;exact h.1
  have h1:=QP.1 h'.1
  have h2:=QP.1 h'.2
  have hm:=QcN h1.1 h1.2 h2.1 h2.2
  rw [Qp (x:=m.1*m.2.1) (by omega) (by omega)] at h
  exact QbR (Q:=fun x=>Qch x=Qch (Zw m)) (p:=Zb) (c:=fun x=>!(Zb x)) 0 hl_m_2 (fun _=>rfl) (fun i h=>QQM (fun r'=>r'=Qch (Zw m)) m i h) (R_eq (by
   unfold Zw Zz
   have h3:((m.2.2.length:Int)==m.1*m.2.1)=true:=by simp [h'] at h;simp [h]
   rw [h'.1,h'.2,h3];simp))
theorem QB5:Ql Tryz.prog QjP:=Qn fun x _=>QX6 x.1
def Qqo (t:(List Int)):TRes:=zra (zcs [TI] t)
def QnF:TRow:=Qk 237 [(.a [TI,TI,(.sl [TI])]),(.c TI)] fun x=>(some (Qpm x.1 x.2.1),Qqo (Jd x.1 x.2.1))
def QQ3:List TRow:=[]
def QOb:TCode :=
 (zsq [(.reg [zop 2 (.box 185 0 3),zmv 4 (.k (.n [TI]))]),(.reg [zfa 5 2 2,zld 6 5 1,zmv 7 1,zfa 8 2 1,zld 9 8 1,zbi 10 .mul 7 9,zmv 11 1,zbi 12 .add 11 (zki 1),zfa 13 2 1,zld 14 13 1,zbi 15 .mul 12 14,zop 16 (.slc 6 (some 10) (some 15) [TI]),zmv 4 16]),.ret])
def QJr:List (ARv × Md):=[(.t 4,.one .d)]
theorem QQN (m:TMat) (i:Int) (h :
 (((0:Int)≤w64 (i*m.2.1)∧w64 (i*m.2.1)≤w64 ((w64 (i+(1:Int)))*m.2.1)∧w64 ((w64 (i+(1:Int)))*m.2.1)≤((m.2.2).length:Int))∧K (Qqo (List.take (Int.toNat (w64 ((w64 (i+(1:Int)))*m.2.1))-Int.toNat (w64 (i*m.2.1))) (List.drop (Int.toNat (w64 (i*m.2.1))) m.2.2))))):Hold (tawp QQ3 (0+0) QOb (TQ 0 0 QJr K) (Qi [(.a [(.c TI m.1),(.c TI m.2.1),(.c (.sl [TI]) m.2.2)]),(.c TI i)])) :=
 Hold.of (by kernel_rfl) h
theorem QTz (m:TMat) (i:Int) (hp:Qpm m i):TCon Tryz.prog 237 [(.a [(.c TI m.1),(.c TI m.2.1),(.c (.sl [TI]) m.2.2)]),(.c TI i)] (Qqo (Jd m i)):=by
 refine Qo rfl fun hb=>tcg (n:=17) (sg:=QnF.sg) Qm TOk.nil (by kernel_rfl) (by kernel_rfl) (QQN _ m i ?_)
 have hl_m_2:(m.2.2).length≤9223372036854775807:=hb.1.2.2.1.1
 obtain ⟨h1,h2,h3,h4,h5,h6⟩:=hp
 have hd:=idx h3 h4 h1
 have h36:m.1*m.2.1≤36:=by
  have:=Int.mul_le_mul h5 h2 h1 (by omega:(0:Int)≤6);omega
 rw [Qp (x:=i+1) (by omega) (by omega),Qp (x:=i*m.2.1) (by omega) (by omega),Qp (x:=(i+1)*m.2.1) (by omega) (by omega)]
 exact ⟨⟨by omega,by omega,by omega⟩,R_eq rfl⟩
theorem QIo:Ql Tryz.prog QnF:=Qn fun x h=>QTz x.1 x.2.1 h
def QdE (t:(List Int)):TRes:=zra (zcs [TI] t)
def Qnc:TRow:=Qk 240 [(.a [TI,TI,(.sl [TI])]),(.c TI)] fun x=>(some (QkG x.1 x.2.1),QdE (Z7 x.1 x.2.1))
def QlH:List TRow:=[]
def Qy0:TCode :=
 (zsq [(zsq [(.reg [zmv 8 6,zfa 9 2 0,zld 10 9 1,zbi 11 .lss 8 10]),(.cond 11 .skip (.exit 0))]),(.block 1 (.reg [zmv 14 5,zfa 15 2 2,zld 16 15 1,zmv 17 6,zfa 18 2 1,zld 19 18 1,zbi 20 .mul 17 19,zmv 21 1,zbi 22 .add 20 21,zia 23 16 22 [TI],zld 24 23 1,zop 25 (.bsl 3 [TI] [24]),zop 26 (.app 14 25 3 [TI]),zmv 5 26])),(.reg [zmv 12 6,zbi 13 .add 12 (zki 1),zmv 6 13])])
def QDP:List (Nat × Md):=[(1,.one .d),(2,.b [.d,.d,.d]),(5,.one .f),(6,.one .d)]
def Qvj:TCode :=
 (zsq [(.reg [zmv 27 5,zmv 4 27]),.ret])
def QVa:TCode :=
 (zsq [(.reg [zop 2 (.box 185 0 3),zmv 4 (.k (.n [TI]))]),(.reg [zop 7 (.bsl 3 [TI] []),zmv 5 7]),(zsq [(.reg [zmv 6 (zki 0)]),(.block 0 (.loop QDP Qy0))]),Qvj])
def Qx6:List (ARv × Md):=[(.t 4,.one .d)]
def Qv4:Qb:=TQ 0 0 Qx6 K
def QWz:Qb:=Qseq (tawp QlH 0 Qvj (Qv4 K)) (Qv4 K)
def QF9:Qb:=Qblk 0 (QWz K)
def Qg5 (m:TMat) (k:Int) (i:Int) (out:List Int):Prop:=Loop QlH 0 QDP Qy0 (QF9 K) ⟨[(1,(zci k)),(2,(.p 0 0 0)),(5,(.r [TI] 1 0 out.length)),(6,(zci i))],[(0,(.box [(zci m.1),(zci m.2.1),(zcs [TI] m.2.2)])),(1,(.sl 3 [TI] true out))],2⟩
theorem QyK (m:TMat) (k:Int) (i:Int) (out:List Int) (h :
 (zif (decide (i<m.1)) ((((0:Int)≤w64 ((w64 (i*m.2.1))+k)∧Int.toNat (w64 ((w64 (i*m.2.1))+k))<(m.2.2).length)∧((out.length=out.length∨out.length+1≤out.length)∧out.length+1≤big))∧(Qg5 K m k (w64 (i+(1:Int))) (List.take (out.length+1) ((List.take out.length out)++([(gtd (0:Int) m.2.2 (Int.toNat (w64 ((w64 (i*m.2.1))+k))))]))))) (K (QdE (List.take out.length (List.drop 0 out)))))):Qg5 K m k i out :=
 Loop.of (by kernel_rfl) h
theorem QPK (m:TMat) (k:Int) (h :
 (Qg5 K m k 0 ([]:List Int))):Hold (tawp QlH (0+0) QVa (TQ 0 0 Qx6 K) (Qi [(.a [(.c TI m.1),(.c TI m.2.1),(.c (.sl [TI]) m.2.2)]),(.c TI k)])) :=
 Hold.of (by kernel_rfl) h
theorem QLM (m:TMat) (k:Int) (hp:QkG m k):TCon Tryz.prog 240 [(.a [(.c TI m.1),(.c TI m.2.1),(.c (.sl [TI]) m.2.2)]),(.c TI k)] (QdE (Z7 m k)):=by
 refine Qo rfl fun hb=>tcg (n:=28) (sg:=Qnc.sg) Qm TOk.nil (by kernel_rfl) (by kernel_rfl) (QPK _ m k ?_)
 have hl_m_2:(m.2.2).length≤9223372036854775807:=hb.1.2.2.1.1
 obtain ⟨h2,h3,h4,h5,h6,h7⟩:=hp
 have h36:m.1*m.2.1≤36:=by
  have:=Int.mul_le_mul h6 h2 (by omega) (by omega:(0:Int)≤6);omega
 refine JH m.1.toNat (fun j=>Qg5 (fun r'=>r'=QdE (Z7 m k)) m k (j:Int) ((List.range j).map fun i:Nat=>gtd 0 m.2.2 ((i:Int)*m.2.1+k).toNat)) ?_ ?_
 ·refine QyK (fun r'=>r'=QdE (Z7 m k)) m k _ _ ⟨fun h=>by simp at h;omega,fun _=>R_eq ?_⟩
  unfold Z7;rw [List.drop_zero,List.take_length]
 ·intro j hj ih
  have hd:=idx (r:=j) (R:=m.1) (C:=m.2.1) (by omega) (by omega) (by omega)
  refine QyK (fun r'=>r'=QdE (Z7 m k)) m k _ _ ⟨fun _=>?_,fun h=>by simp at h;omega⟩
  rw [Qp (x:=(j:Int)*m.2.1) (by omega) (by omega),Qp (x:=(j:Int)*m.2.1+k) (by omega) (by omega),sc1 (by omega),Zc]
  rw [QfA] at ih
  exact ⟨⟨⟨by omega,by omega⟩,room (by simp;omega)⟩,ih⟩
theorem QNU:Ql Tryz.prog Qnc:=Qn fun x h=>QLM x.1 x.2.1 h
def QcI (t:(List Int) × Bool):TRes:=zra (.tp [(zcs [TI] t.1),(zcb t.2)])
def QiQ:TRow:=Qk 211 [(.a [TI,TI,(.sl [TI])]),(.c (.sl [TI]))] fun x=>(none,QcI (Zl x.1 x.2.1))
def Qox:List TRow:=[QeO,Qac,Qfl]
def QtT:TCode :=
 (zsq [(zsq [(.reg [zmv 22 8,zfa 23 2 0,zld 24 23 1,zbi 25 .lss 22 24]),(.cond 25 .skip (.exit 0))]),(.block 1 (zsq [(.reg [zfa 29 2 2,zld 30 29 1,zmv 31 8,zfa 32 2 1,zld 33 32 1,zbi 34 .mul 31 33,zmv 35 8,zbi 36 .add 35 (zki 1),zfa 37 2 1,zld 38 37 1,zbi 39 .mul 36 38,zop 40 (.slc 30 (some 34) (some 39) [TI]),zmv 41 1,zca 42 188 [40,41],zmv 28 42,zex 43 28 0,zex 44 28 1,zmv 9 43,zmv 10 44]),(.reg [zmv 45 6,zmv 46 9,zop 47 (.bsl 3 [TI] [46]),zop 48 (.app 45 47 3 [TI]),zmv 6 48]),(.reg [zmv 49 7,zmv 50 49,.grp 50 false [zmv 51 10] 52 51,zmv 7 52])])),(.reg [zmv 26 8,zbi 27 .add 26 (zki 1),zmv 8 27])])
def Qy5:List (Nat × Md):=[(1,.one .d),(2,.b [.d,.d,.d]),(6,.one .f),(7,.one .d),(8,.one .d)]
def QBI:TCode :=
 (zsq [(.reg [zmv 53 6,zmv 54 7,zmv 4 53,zmv 5 54]),.ret])
def QHW:TCode :=
 (zsq [(.reg [zop 2 (.box 185 0 3),zmv 4 (.k (.n [TI])),zmv 5 (zkb false)]),(zsq [(.reg [zLd 11 2 3,zca 12 233 [11],zno 13 12,zmv 14 13,.grp 14 false [zmv 15 1,zfa 16 2 1,zld 17 16 1,zca 18 114 [15,17],zno 19 18] 20 19]),(.cond 20 (zsq [(.reg [zmv 4 (.k (.n [TI])),zmv 5 (zkb false)]),.ret]) .skip)]),(.reg [zop 21 (.bsl 3 [TI] []),zmv 6 21]),(.reg [zmv 7 (zkb false)]),(zsq [(.reg [zmv 8 (zki 0)]),(.block 0 (.loop Qy5 QtT))]),QBI])
def Qwf:List (ARv × Md):=[(.t 4,.one .d),(.t 5,.one .d)]
def QwX:Qb:=TQ 0 0 Qwf K
def QKN:Qb:=Qseq (tawp Qox 0 QBI (QwX K)) (QwX K)
def QXg:Qb:=Qblk 0 (QKN K)
def QgK (m:TMat) (x:List Int) (out:Bool) (r:Int) (v:List Int):Prop:=Loop Qox 0 Qy5 QtT (QXg K) ⟨[(1,(zcs [TI] x)),(2,(.p 0 0 0)),(6,(.r [TI] 1 0 v.length)),(7,(zcb out)),(8,(zci r))],[(0,(.box [(zci m.1),(zci m.2.1),(zcs [TI] m.2.2)])),(1,(.sl 3 [TI] true v))],2⟩
theorem QBC (m:TMat) (x:List Int) (out:Bool) (r:Int) (v:List Int) (h :
 (zif (decide (r<m.1)) (((0:Int)≤w64 (r*m.2.1)∧w64 (r*m.2.1)≤w64 ((w64 (r+(1:Int)))*m.2.1)∧w64 ((w64 (r+(1:Int)))*m.2.1)≤((m.2.2).length:Int))∧(((v.length=v.length∨v.length+1≤v.length)∧v.length+1≤big)∧(QgK K m x (out||((Q2 (List.take (Int.toNat (w64 ((w64 (r+(1:Int)))*m.2.1))-Int.toNat (w64 (r*m.2.1))) (List.drop (Int.toNat (w64 (r*m.2.1))) m.2.2)) x).2)) (w64 (r+(1:Int))) (List.take (v.length+1) ((List.take v.length v)++([(Q2 (List.take (Int.toNat (w64 ((w64 (r+(1:Int)))*m.2.1))-Int.toNat (w64 (r*m.2.1))) (List.drop (Int.toNat (w64 (r*m.2.1))) m.2.2)) x).1])))))) (K (QcI ((List.take v.length (List.drop 0 v)),out))))):QgK K m x out r v :=
 Loop.of (by kernel_rfl) h
theorem QHJ (m:TMat) (x:List Int) (h :
 (zif ((!(Zw m))||(!(Qr x m.2.1))) (K (QcI ([],false))) (QgK K m x false 0 ([]:List Int)))):Hold (tawp Qox (0+0) QHW (TQ 0 0 Qwf K) (Qi [(.a [(.c TI m.1),(.c TI m.2.1),(.c (.sl [TI]) m.2.2)]),(.c (.sl [TI]) x)])) :=
 Hold.of (by kernel_rfl) h
theorem QFe (m:TMat) (x:List Int):TCon Tryz.prog 211 [(.a [(.c TI m.1),(.c TI m.2.1),(.c (.sl [TI]) m.2.2)]),(.c (.sl [TI]) x)] (QcI (Zl m x)):=by
 refine Qo rfl fun hb=>tcg (n:=55) (sg:=QiQ.sg) Qm (TOk.cons QlJ (TOk.cons QaH (TOk.cons Qmx TOk.nil))) (by kernel_rfl) (by kernel_rfl) (QHJ _ m x ?_)
 have hl_m_2:(m.2.2).length≤9223372036854775807:=hb.1.2.2.1.1
 have hl_x:x.length≤9223372036854775807:=hb.2.1.1
 refine ⟨fun h=>R_eq (by rw [QzJ];intro h2;simp [h2.1,h2.2] at h),fun h=>?_⟩
 have hp:Zw m=true∧Qr x m.2.1=true:=by simpa using h
 obtain ⟨h1,h2,h3,h4,h5,h6,h7⟩:=Qc8 hp.1
 have hv:(Zl m x)=((List.range m.1.toNat).map fun i:Nat=>(Q2 (Jd m i) x).1,(List.range m.1.toNat).any fun i:Nat=>(Q2 (Jd m i) x).2):=by unfold Zl;rw [if_pos (by simp [hp])]
 refine JH m.1.toNat (fun j=>QgK (fun r'=>r'=QcI (Zl m x)) m x ((List.range j).any fun i:Nat=>(Q2 (Jd m i) x).2) (j:Int) ((List.range j).map fun i:Nat=>(Q2 (Jd m i) x).1)) ?_ ?_
 ·refine QBC (fun r'=>r'=QcI (Zl m x)) m x _ _ _ ⟨fun h=>by simp at h;omega,fun _=>R_eq ?_⟩
  rw [hv,List.drop_zero,List.take_length]
 ·intro j hj ih
  have hd:=idx (r:=j) (R:=m.1) (C:=m.2.1) (by omega) (by omega) (by omega)
  refine QBC (fun r'=>r'=QcI (Zl m x)) m x _ _ _ ⟨fun _=>?_,fun h=>by simp at h;omega⟩
  rw [Qp (x:=(j:Int)+1) (by omega) (by omega),Qp (x:=(j:Int)*m.2.1) (by omega) (by omega),Qp (x:=((j:Int)+1)*m.2.1) (by omega) (by omega),Zc]
  rw [QfA,Qn6] at ih
  exact ⟨⟨by omega,by omega,by omega⟩,room (by simp;omega),ih⟩
theorem Qru:Ql Tryz.prog QiQ:=Qn fun x _=>QFe x.1 x.2.1
def Qdm (t:(List Int) × Bool):TRes:=zra (.tp [(zcs [TI] t.1),(zcb t.2)])
def Qof:TRow:=Qk 224 [(.a [TI,TI,(.sl [TI])]),(.c (.sl [TI]))] fun x=>(none,Qdm (Zl x.1 x.2.1))
def Qpc:List TRow:=[QjP,Jc,QnF,Qd3]
def QCT:TCode :=
 (zsq [(zsq [(.reg [zmv 28 8,zfa 29 2 0,zld 30 29 1,zbi 31 .lss 28 30]),(.cond 31 .skip (.exit 0))]),(.block 1 (zsq [(.reg [zLd 35 2 3,zmv 36 8,zca 37 237 [35,36],zmv 38 1,zca 39 206 [37,38],zmv 34 39,zex 40 34 0,zex 41 34 1,zmv 9 40,zmv 10 41]),(.reg [zmv 42 6,zmv 43 9,zop 44 (.bsl 3 [TI] [43]),zop 45 (.app 42 44 3 [TI]),zmv 6 45]),(.reg [zmv 46 7,zmv 47 46,.grp 47 false [zmv 48 10] 49 48,zmv 7 49])])),(.reg [zmv 32 8,zbi 33 .add 32 (zki 1),zmv 8 33])])
def QtB:List (Nat × Md):=[(1,.one .d),(2,.b [.d,.d,.d]),(6,.one .f),(7,.one .d),(8,.one .d)]
def Qzm:TCode :=
 (zsq [(.reg [zmv 50 6,zmv 51 7,zmv 4 50,zmv 5 51]),.ret])
def QOx:TCode :=
 (zsq [(.reg [zop 2 (.box 185 0 3),zmv 4 (.k (.n [TI])),zmv 5 (zkb false)]),(.reg [zop 11 (.bsl 3 [TI] []),zmv 6 11]),(.reg [zmv 7 (zkb false)]),(zsq [(.reg [zLd 12 2 3,zca 13 236 [12],zno 14 13,zmv 15 14,.grp 15 false [zmv 16 1,zca 17 42 [16],zno 18 17] 19 18,zmv 20 19,.grp 20 false [zmv 21 1,zle 22 21,zfa 23 2 1,zld 24 23 1,zbi 25 .neq 22 24] 26 25]),(.cond 26 (zsq [(.reg [zmv 27 6,zmv 4 27,zmv 5 (zkb false)]),.ret]) .skip)]),(zsq [(.reg [zmv 8 (zki 0)]),(.block 0 (.loop QtB QCT))]),Qzm])
def QvE:List (ARv × Md):=[(.t 4,.one .d),(.t 5,.one .d)]
def QCd:Qb:=TQ 0 0 QvE K
def QKf:Qb:=Qseq (tawp Qpc 0 Qzm (QCd K)) (QCd K)
def QKR:Qb:=Qblk 0 (QKf K)
def QhZ (m:TMat) (x:List Int) (sat:Bool) (i:Int) (out:List Int):Prop:=Loop Qpc 0 QtB QCT (QKR K) ⟨[(1,(zcs [TI] x)),(2,(.p 0 0 0)),(6,(.r [TI] 1 0 out.length)),(7,(zcb sat)),(8,(zci i))],[(0,(.box [(zci m.1),(zci m.2.1),(zcs [TI] m.2.2)])),(1,(.sl 3 [TI] true out))],2⟩
theorem Qy1 (m:TMat) (x:List Int) (sat:Bool) (i:Int) (out:List Int) (h :
 (zif (decide (i<m.1)) ((Qpm m i)∧(((out.length=out.length∨out.length+1≤out.length)∧out.length+1≤big)∧(QhZ K m x (sat||((Q2 (Jd m i) x).2)) (w64 (i+(1:Int))) (List.take (out.length+1) ((List.take out.length out)++([(Q2 (Jd m i) x).1])))))) (K (Qdm ((List.take out.length (List.drop 0 out)),sat))))):QhZ K m x sat i out :=
 Loop.of (by kernel_rfl) h
theorem QPm (m:TMat) (x:List Int) (h :
 (zif (((!(Zw m))||(!(QJ x)))||((x.length:Int) != m.2.1)) (K (Qdm (([]:List Int),false))) (QhZ K m x false 0 ([]:List Int)))):Hold (tawp Qpc (0+0) QOx (TQ 0 0 QvE K) (Qi [(.a [(.c TI m.1),(.c TI m.2.1),(.c (.sl [TI]) m.2.2)]),(.c (.sl [TI]) x)])) :=
 Hold.of (by kernel_rfl) h
theorem QR1 (m:TMat) (x:List Int):TCon Tryz.prog 224 [(.a [(.c TI m.1),(.c TI m.2.1),(.c (.sl [TI]) m.2.2)]),(.c (.sl [TI]) x)] (Qdm (Zl m x)):=by
 refine Qo rfl fun hb=>tcg (n:=52) (sg:=Qof.sg) Qm (TOk.cons QB5 (TOk.cons Jr (TOk.cons QIo (TOk.cons QiL TOk.nil)))) (by kernel_rfl) (by kernel_rfl) (QPm _ m x ?_)
 have hl_m_2:(m.2.2).length≤9223372036854775807:=hb.1.2.2.1.1
 have hl_x:x.length≤9223372036854775807:=hb.2.1.1
 have hg:∀ n:Int,(!(QJ x)||((x.length:Int) != n)) = !(Qr x n):=fun n=>by unfold Qr;simp [bne]
 rw [Bool.or_assoc,hg]
 refine ⟨fun h=>R_eq (by rw [QzJ];intro h2;simp [h2.1,h2.2] at h),fun h=>?_⟩
 have hp:Zw m=true∧Qr x m.2.1=true:=by simpa using h
 obtain ⟨h1,h2,h3,h4,h5,h6,h7⟩:=Qc8 hp.1
 have hv:(Zl m x)=((List.range m.1.toNat).map fun i:Nat=>(Q2 (Jd m i) x).1,(List.range m.1.toNat).any fun i:Nat=>(Q2 (Jd m i) x).2):=by unfold Zl;rw [if_pos (by simp [hp])]
 refine JH m.1.toNat (fun j=>QhZ (fun r'=>r'=Qdm (Zl m x)) m x ((List.range j).any fun i:Nat=>(Q2 (Jd m i) x).2) (j:Int) ((List.range j).map fun i:Nat=>(Q2 (Jd m i) x).1)) ?_ ?_
 ·refine Qy1 (fun r'=>r'=Qdm (Zl m x)) m x _ _ _ ⟨fun h=>by simp at h;omega,fun _=>R_eq ?_⟩
  rw [hv,List.drop_zero,List.take_length]
 ·intro j hj ih
  have hd:=idx (r:=j) (R:=m.1) (C:=m.2.1) (by omega) (by omega) (by omega)
  refine Qy1 (fun r'=>r'=Qdm (Zl m x)) m x _ _ _ ⟨fun _=>?_,fun h=>by simp at h;omega⟩
  rw [sc1 (by omega),Zc]
  rw [QfA,Qn6] at ih
  exact ⟨⟨by omega,by omega,by omega,by omega,by omega,h5⟩,room (by simp;omega),ih⟩
theorem QTa:Ql Tryz.prog Qof:=Qn fun x _=>QR1 x.1 x.2.1
def QaN (t:TMat):TRes:=zra (.a [(zci t.1),(zci t.2.1),(zcs [TI] t.2.2)])
def Qqn:TRow:=Qk 235 [(.a [TI,TI,(.sl [TI])])] fun x=>(none,QaN (YV x.1))
def Qd4:List TRow:=[QeO]
def QAZ:TCode :=
 (zsq [(zsq [(.reg [zmv 21 5,zfa 22 1 0,zld 23 22 1,zbi 24 .lss 21 23]),(.cond 24 .skip (.exit 2))]),(.block 3 (.draw [zfa 27 3 2,zld 28 27 1,zfa 29 1 2,zld 30 29 1,zmv 31 5,zfa 32 1 1,zld 33 32 1,zbi 34 .mul 31 33,zmv 35 4,zbi 36 .add 34 35,zia 37 30 36 [TI],zld 38 37 1,zop 39 (.bsl 3 [TI] [38]),zop 40 (.app 28 39 3 [TI]),zfa 41 3 2,zst 41 40 1] [(0,12),(1,12)])),(.reg [zmv 25 5,zbi 26 .add 25 (zki 1),zmv 5 26])])
def Qvd:List (Nat × Md):=[(1,.b [.d,.d,.d]),(2,.b [.d,.d,.d]),(3,.b [.d,.d,.f]),(4,.one .d),(5,.one .d)]
def Qvu:TCode :=
 (.reg [zmv 19 4,zbi 20 .add 19 (zki 1),zmv 4 20])
def QoU:TCode :=
 (zsq [(zsq [(.reg [zmv 15 4,zfa 16 1 1,zld 17 16 1,zbi 18 .lss 15 17]),(.cond 18 .skip (.exit 0))]),(.block 1 (zsq [(.reg [zmv 5 (zki 0)]),(.block 2 (.loop Qvd QAZ))])),Qvu])
def Qkk:List (Nat × Md):=[(1,.b [.d,.d,.d]),(2,.b [.d,.d,.d]),(3,.b [.d,.d,.o 3]),(4,.one .d)]
def Qyu:TCode :=
 (zsq [(.reg [zLd 42 3 3,zst 2 42 3]),.ret])
def QSG:TCode :=
 (zsq [(.reg [zop 1 (.box 185 0 3),zop 2 (.new 185 (z0s [TI,TI,(.sl [TI])]))]),(zsq [(.reg [zLd 6 1 3,zca 7 233 [6],zno 8 7]),(.cond 8 (zsq [(.reg [zop 9 (.build (z0s [TI,TI,(.sl [TI])]) []),zst 2 9 3]),.ret]) .skip)]),(.reg [zfa 10 1 1,zld 11 10 1,zfa 12 1 0,zld 13 12 1,zop 14 (.build (z0s [TI,TI,(.sl [TI])]) [(0,1,11),(1,1,13)]),zop 3 (.new 185 (z0s [TI,TI,(.sl [TI])])),zst 3 14 3]),(zsq [(.reg [zmv 4 (zki 0)]),(.block 0 (.loop Qkk QoU))]),Qyu])
def Qzw:List (ARv × Md):=[(.l 2 3 true,.b [.d,.d,.d])]
def Qzs:Qb:=TQ 0 0 Qzw K
def QIh:Qb:=Qseq (tawp Qd4 0 Qyu (Qzs K)) (Qzs K)
def QpX:Qb:=Qblk 0 (QIh K)
def QCW:Qb:=Qseq (fun s'=>Loop Qd4 0 Qkk QoU (QpX K) (gc 0 Qkk s')) (QpX K)
def QUn:Qb:=Qseq (tawp Qd4 0 Qvu (QCW K)) (QCW K)
def QUC:Qb:=Qblk 1 (QUn K)
def QOs:Qb:=Qblk 2 (QUC K)
def QhN (m:TMat) (r:Int) (t2:List Int) (c:Int):Prop:=Loop Qd4 0 Qvd QAZ (QOs K) ⟨[(1,(.p 0 0 0)),(2,(.p 1 0 0)),(3,(.p 3 0 0)),(4,(zci c)),(5,(zci r))],[(0,(.box [(zci m.1),(zci m.2.1),(zcs [TI] m.2.2)])),(1,(.box [(zci 0),(zci 0),(zcs [TI] ([]))])),(2,(.sl 3 [TI] true t2)),(3,(.box [(zci m.2.1),(zci m.1),(.r [TI] 2 0 t2.length)]))],4⟩
def Qio (m:TMat) (c:Int) (t21:List Int):Prop:=Loop Qd4 0 Qkk QoU (QpX K) ⟨[(1,(.p 0 0 0)),(2,(.p 1 0 0)),(3,(.p 3 0 0)),(4,(zci c))],[(0,(.box [(zci m.1),(zci m.2.1),(zcs [TI] m.2.2)])),(1,(.box [(zci 0),(zci 0),(zcs [TI] ([]))])),(2,(.sl 3 [TI] true t21)),(3,(.box [(zci m.2.1),(zci m.1),(.r [TI] 2 0 t21.length)]))],4⟩
theorem Qwj (m:TMat) (r:Int) (t2:List Int) (c:Int) (h :
 (zif (decide (r<m.1)) ((((0:Int)≤w64 ((w64 (r*m.2.1))+c)∧Int.toNat (w64 ((w64 (r*m.2.1))+c))<(m.2.2).length)∧((t2.length=t2.length∨t2.length+1≤t2.length)∧t2.length+1≤big))∧(QhN K m (w64 (r+(1:Int))) (List.take (t2.length+1) ((List.take t2.length t2)++([(gtd (0:Int) m.2.2 (Int.toNat (w64 ((w64 (r*m.2.1))+c))))]))) c)) (Qio K m (w64 (c+(1:Int))) (List.take t2.length t2)))):QhN K m r t2 c :=
 Loop.of (by kernel_rfl) h
theorem QvK (m:TMat) (c:Int) (t21:List Int) (h :
 (zif (decide (c<m.2.1)) (QhN K m 0 (List.take t21.length t21) c) (K (QaN (m.2.1,m.1,(List.take t21.length (List.drop 0 t21))))))):Qio K m c t21 :=
 Loop.of (by kernel_rfl) h
theorem QWo (m:TMat) (h :
 (zif (!(Zw m)) (K (QaN ((0:Int),(0:Int),[]))) (Qio K m 0 ([]:List Int)))):Hold (tawp Qd4 (0+0) QSG (TQ 0 0 Qzw K) (Qi [(.a [(.c TI m.1),(.c TI m.2.1),(.c (.sl [TI]) m.2.2)])])) :=
 Hold.of (by kernel_rfl) h
theorem QSK (m:TMat):TCon Tryz.prog 235 [(.a [(.c TI m.1),(.c TI m.2.1),(.c (.sl [TI]) m.2.2)])] (QaN (YV m)):=by
 refine Qo rfl fun hb=>tcg (n:=43) (sg:=Qqn.sg) Qm (TOk.cons QlJ TOk.nil) (by kernel_rfl) (by kernel_rfl) (QWo _ m ?_)
 have hl_m_2:(m.2.2).length≤9223372036854775807:=hb.1.2.2.1.1
 refine ⟨fun h=>R_eq (by unfold YV;rw [if_neg (by simpa using h)]),fun h=>?_⟩
 have hp:Zw m=true:=by simpa using h
 obtain ⟨h1,h2,h3,h4,h5,h6,h7⟩:=Qc8 hp
 refine JH m.2.1.toNat (fun k=>Qio (fun r'=>r'=QaN (YV m)) m (k:Int) ((List.range k).flatMap fun k:Nat=>Z7 m k)) ?_ ?_
 ·refine QvK (fun r'=>r'=QaN (YV m)) m _ _ ⟨fun h=>by simp at h;omega,fun _=>R_eq ?_⟩
  rw [List.drop_zero,List.take_length];unfold YV;rw [if_pos hp]
 ·intro k hk ih
  refine QvK (fun r'=>r'=QaN (YV m)) m _ _ ⟨fun _=>?_,fun h=>by simp at h;omega⟩
  rw [List.take_length]
  have hk36:((List.range k).flatMap fun k:Nat=>Z7 m k).length≤36:=by
   rw [QmP (R:=m.1.toNat) k (fun j _=>Ql6 m j)]
   have:k*m.1.toNat≤6*6:=Nat.mul_le_mul (by omega) (by omega)
   omega
  have inner:=JH m.1.toNat (fun j=>QhN (fun r'=>r'=QaN (YV m)) m (j:Int) (((List.range k).flatMap fun k:Nat=>Z7 m k)++(List.range j).map fun i:Nat=>gtd 0 m.2.2 ((i:Int)*m.2.1+(k:Nat)).toNat) (k:Int)) ?_ ?_
  ·simpa using inner
  ·refine Qwj (fun r'=>r'=QaN (YV m)) m _ _ _ ⟨fun h=>by simp at h;omega,fun _=>?_⟩
   rw [List.take_length,sc1 (by omega)]
   rw [Qd5] at ih
   exact ih
  ·intro j hj ih2
   have hd:=idx (r:=j) (R:=m.1) (C:=m.2.1) (by omega) (by omega) (by omega)
   refine Qwj (fun r'=>r'=QaN (YV m)) m _ _ _ ⟨fun _=>?_,fun h=>by simp at h;omega⟩
   rw [Qp (x:=(j:Int)*m.2.1) (by omega) (by omega),Qp (x:=(j:Int)*m.2.1+(k:Int)) (by omega) (by omega),sc1 (by omega),Zc]
   rw [QfA,← List.append_assoc] at ih2
   exact ⟨⟨⟨by omega,by omega⟩,room (by rw [List.length_append];simp only [List.length_map,List.length_range];omega)⟩,ih2⟩
theorem QXY:Ql Tryz.prog Qqn:=Qn fun x _=>QSK x.1
def Qkh (t:(List Int) × Bool):TRes:=zra (.tp [(zcs [TI] t.1),(zcb t.2)])
def QnH:TRow:=Qk 218 [(.a [TI,TI,(.sl [TI])]),(.c (.sl [TI]))] fun x=>(none,Qkh (Zs x.1 x.2.1))
def QJa:List TRow:=[QeO,Qac,Qqn,QiQ]
def QKZ:TCode :=
 (zsq [(.reg [zop 2 (.box 185 0 3),zmv 4 (.k (.n [TI])),zmv 5 (zkb false)]),(zsq [(.reg [zLd 6 2 3,zca 7 233 [6],zno 8 7,zmv 9 8,.grp 9 false [zmv 10 1,zfa 11 2 0,zld 12 11 1,zca 13 114 [10,12],zno 14 13] 15 14]),(.cond 15 (zsq [(.reg [zmv 4 (.k (.n [TI])),zmv 5 (zkb false)]),.ret]) .skip)]),(.reg [zLd 16 2 3,zca 17 235 [16],zmv 18 1,zca 19 211 [17,18],zex 20 19 0,zex 21 19 1,zmv 4 20,zmv 5 21]),.ret])
def QEI:List (ARv × Md):=[(.t 4,.one .d),(.t 5,.one .d)]
theorem QQD (m:TMat) (d:List Int) (h :
 (zif ((!(Zw m))||(!(Qr d m.1))) (K (Qkh ([],false))) (K (Qkh ((Zl (YV m) d).1,(Zl (YV m) d).2))))):Hold (tawp QJa (0+0) QKZ (TQ 0 0 QEI K) (Qi [(.a [(.c TI m.1),(.c TI m.2.1),(.c (.sl [TI]) m.2.2)]),(.c (.sl [TI]) d)])) :=
 Hold.of (by kernel_rfl) h
theorem QPO (m:TMat) (d:List Int):TCon Tryz.prog 218 [(.a [(.c TI m.1),(.c TI m.2.1),(.c (.sl [TI]) m.2.2)]),(.c (.sl [TI]) d)] (Qkh (Zs m d)):=by
 refine Qo rfl fun hb=>tcg (n:=22) (sg:=QnH.sg) Qm (TOk.cons QlJ (TOk.cons QaH (TOk.cons QXY (TOk.cons Qru TOk.nil)))) (by kernel_rfl) (by kernel_rfl) (QQD _ m d ?_)
 have hl_m_2:(m.2.2).length≤9223372036854775807:=hb.1.2.2.1.1
 have hl_d:d.length≤9223372036854775807:=hb.2.1.1
 refine ⟨fun h=>R_eq (by rw [QCj];intro h2;simp [h2.1,h2.2] at h),fun h=>?_⟩
 have hp:Zw m=true∧Qr d m.1=true:=by simpa using h
 exact R_eq (QUV hp.1 hp.2)
theorem QI8:Ql Tryz.prog QnH:=Qn fun x _=>QPO x.1 x.2.1
def QcX (t:(List Int) × Bool):TRes:=zra (.tp [(zcs [TI] t.1),(zcb t.2)])
def QoZ:TRow:=Qk 231 [(.a [TI,TI,(.sl [TI])]),(.c (.sl [TI]))] fun x=>(none,QcX (Zs x.1 x.2.1))
def Qk2:List TRow:=[QjP,Jc,Qnc,Qd3]
def Qqv:TCode :=
 (zsq [(zsq [(.reg [zmv 28 8,zfa 29 2 1,zld 30 29 1,zbi 31 .lss 28 30]),(.cond 31 .skip (.exit 0))]),(.block 1 (zsq [(.reg [zLd 35 2 3,zmv 36 8,zca 37 240 [35,36],zmv 38 1,zca 39 206 [37,38],zmv 34 39,zex 40 34 0,zex 41 34 1,zmv 9 40,zmv 10 41]),(.reg [zmv 42 6,zmv 43 9,zop 44 (.bsl 3 [TI] [43]),zop 45 (.app 42 44 3 [TI]),zmv 6 45]),(.reg [zmv 46 7,zmv 47 46,.grp 47 false [zmv 48 10] 49 48,zmv 7 49])])),(.reg [zmv 32 8,zbi 33 .add 32 (zki 1),zmv 8 33])])
def Qss:List (Nat × Md):=[(1,.one .d),(2,.b [.d,.d,.d]),(6,.one .f),(7,.one .d),(8,.one .d)]
def QCh:TCode :=
 (zsq [(.reg [zmv 50 6,zmv 51 7,zmv 4 50,zmv 5 51]),.ret])
def QGo:TCode :=
 (zsq [(.reg [zop 2 (.box 185 0 3),zmv 4 (.k (.n [TI])),zmv 5 (zkb false)]),(.reg [zop 11 (.bsl 3 [TI] []),zmv 6 11]),(.reg [zmv 7 (zkb false)]),(zsq [(.reg [zLd 12 2 3,zca 13 236 [12],zno 14 13,zmv 15 14,.grp 15 false [zmv 16 1,zca 17 42 [16],zno 18 17] 19 18,zmv 20 19,.grp 20 false [zmv 21 1,zle 22 21,zfa 23 2 0,zld 24 23 1,zbi 25 .neq 22 24] 26 25]),(.cond 26 (zsq [(.reg [zmv 27 6,zmv 4 27,zmv 5 (zkb false)]),.ret]) .skip)]),(zsq [(.reg [zmv 8 (zki 0)]),(.block 0 (.loop Qss Qqv))]),QCh])
def QvW:List (ARv × Md):=[(.t 4,.one .d),(.t 5,.one .d)]
def QvU:Qb:=TQ 0 0 QvW K
def QUH:Qb:=Qseq (tawp Qk2 0 QCh (QvU K)) (QvU K)
def QIe:Qb:=Qblk 0 (QUH K)
def QgQ (m:TMat) (d:List Int) (sat:Bool) (k:Int) (out:List Int):Prop:=Loop Qk2 0 Qss Qqv (QIe K) ⟨[(1,(zcs [TI] d)),(2,(.p 0 0 0)),(6,(.r [TI] 1 0 out.length)),(7,(zcb sat)),(8,(zci k))],[(0,(.box [(zci m.1),(zci m.2.1),(zcs [TI] m.2.2)])),(1,(.sl 3 [TI] true out))],2⟩
theorem QAf (m:TMat) (d:List Int) (sat:Bool) (k:Int) (out:List Int) (h :
 (zif (decide (k<m.2.1)) ((QkG m k)∧(((out.length=out.length∨out.length+1≤out.length)∧out.length+1≤big)∧(QgQ K m d (sat||((Q2 (Z7 m k) d).2)) (w64 (k+(1:Int))) (List.take (out.length+1) ((List.take out.length out)++([(Q2 (Z7 m k) d).1])))))) (K (QcX ((List.take out.length (List.drop 0 out)),sat))))):QgQ K m d sat k out :=
 Loop.of (by kernel_rfl) h
theorem QVb (m:TMat) (d:List Int) (h :
 (zif (((!(Zw m))||(!(QJ d)))||((d.length:Int) != m.1)) (K (QcX (([]:List Int),false))) (QgQ K m d false 0 ([]:List Int)))):Hold (tawp Qk2 (0+0) QGo (TQ 0 0 QvW K) (Qi [(.a [(.c TI m.1),(.c TI m.2.1),(.c (.sl [TI]) m.2.2)]),(.c (.sl [TI]) d)])) :=
 Hold.of (by kernel_rfl) h
theorem QFP (m:TMat) (d:List Int):TCon Tryz.prog 231 [(.a [(.c TI m.1),(.c TI m.2.1),(.c (.sl [TI]) m.2.2)]),(.c (.sl [TI]) d)] (QcX (Zs m d)):=by
 refine Qo rfl fun hb=>tcg (n:=52) (sg:=QoZ.sg) Qm (TOk.cons QB5 (TOk.cons Jr (TOk.cons QNU (TOk.cons QiL TOk.nil)))) (by kernel_rfl) (by kernel_rfl) (QVb _ m d ?_)
 have hl_m_2:(m.2.2).length≤9223372036854775807:=hb.1.2.2.1.1
 have hl_d:d.length≤9223372036854775807:=hb.2.1.1
 have hg:∀ n:Int,(!(QJ d)||((d.length:Int) != n)) = !(Qr d n):=fun n=>by unfold Qr;simp [bne]
 rw [Bool.or_assoc,hg]
 refine ⟨fun h=>R_eq (by rw [QCj];intro h2;simp [h2.1,h2.2] at h),fun h=>?_⟩
 have hp:Zw m=true∧Qr d m.1=true:=by simpa using h
 obtain ⟨h1,h2,h3,h4,h5,h6,h7⟩:=Qc8 hp.1
 have hv:(Zs m d)=((List.range m.2.1.toNat).map fun k:Nat=>(Q2 (Z7 m k) d).1,(List.range m.2.1.toNat).any fun k:Nat=>(Q2 (Z7 m k) d).2):=by unfold Zs;rw [if_pos (by simp [hp])]
 refine JH m.2.1.toNat (fun j=>QgQ (fun r'=>r'=QcX (Zs m d)) m d ((List.range j).any fun k:Nat=>(Q2 (Z7 m k) d).2) (j:Int) ((List.range j).map fun k:Nat=>(Q2 (Z7 m k) d).1)) ?_ ?_
 ·refine QAf (fun r'=>r'=QcX (Zs m d)) m d _ _ _ ⟨fun h=>by simp at h;omega,fun _=>R_eq ?_⟩
  rw [hv,List.drop_zero,List.take_length]
 ·intro j hj ih
  refine QAf (fun r'=>r'=QcX (Zs m d)) m d _ _ _ ⟨fun _=>?_,fun h=>by simp at h;omega⟩
  rw [sc1 (by omega),Zc]
  rw [QfA,Qn6] at ih
  exact ⟨⟨by omega,by omega,by omega,by omega,by omega,h5⟩,room (by simp;omega),ih⟩
theorem QGH:Ql Tryz.prog QoZ:=Qn fun x _=>QFP x.1 x.2.1
def QaO (t:TMat × Bool):TRes:=zra (.tp [(.a [(zci t.1.1),(zci t.1.2.1),(zcs [TI] t.1.2.2)]),(zcb t.2)])
def Qld:TRow:=Qk 219 [(.c (.sl [TI])),(.c (.sl [TI]))] fun x=>(none,QaO (Zh x.1 x.2.1))
def Qd9:List TRow:=[Qbh,QeH]
def QBx:TCode :=
 (zsq [(.reg [zbi 37 .lss 36 35]),(.cond 37 .skip (.exit 2)),(.block 3 (zsq [(.reg [zia 38 34 36 [TI],zld 39 38 1,zmv 11 39]),(.reg [zmv 41 9,zmv 42 11,zca 43 216 [41,42],zmv 40 43,zex 44 40 0,zex 45 40 1,zmv 12 44,zmv 13 45]),(.reg [zfa 46 6 2,zld 47 46 1,zmv 48 12,zop 49 (.bsl 3 [TI] [48]),zop 50 (.app 47 49 3 [TI]),zfa 51 6 2,zst 51 50 1]),(.reg [zmv 52 7,zmv 53 52,.grp 53 false [zmv 54 13] 55 54,zmv 7 55])])),(.reg [zbi 56 .add 36 (zki 1),zmv 36 56])])
def Qs9:List (Nat × Md):=[(1,.one .d),(4,.b [.d,.d,.d]),(6,.b [.d,.d,.f]),(7,.one .d),(9,.one .d),(28,.one .d),(29,.one .d),(30,.one .d),(34,.one .d),(35,.one .d),(36,.one .d)]
def Qtj:TCode :=
 (.reg [zbi 57 .add 30 (zki 1),zmv 30 57])
def Qmt:TCode :=
 (zsq [(.reg [zbi 31 .lss 30 29]),(.cond 31 .skip (.exit 0)),(.block 1 (zsq [(.reg [zia 32 28 30 [TI],zld 33 32 1,zmv 9 33]),(.reg [zmv 34 1,zle 35 34,zmv 36 (zki 0)]),(.block 2 (.loop Qs9 QBx))])),Qtj])
def Qi3:List (Nat × Md):=[(1,.one .d),(4,.b [.d,.d,.d]),(6,.b [.d,.d,.o 3]),(7,.one .d),(28,.one .d),(29,.one .d),(30,.one .d)]
def QAV:TCode :=
 (zsq [(.reg [zLd 58 6 3,zmv 59 7,zst 4 58 3,zmv 5 59]),.ret])
def QUF:TCode :=
 (zsq [(.reg [zop 4 (.new 185 (z0s [TI,TI,(.sl [TI])])),zmv 5 (zkb false)]),(zsq [(.reg [zmv 14 0,zca 15 134 [14],zno 16 15,zmv 17 16,.grp 17 false [zmv 18 1,zca 19 134 [18],zno 20 19] 21 20]),(.cond 21 (zsq [(.reg [zop 22 (.build (z0s [TI,TI,(.sl [TI])]) []),zst 4 22 3,zmv 5 (zkb false)]),.ret]) .skip)]),(.reg [zmv 23 0,zle 24 23,zmv 25 1,zle 26 25,zop 27 (.build (z0s [TI,TI,(.sl [TI])]) [(0,1,24),(1,1,26)]),zop 6 (.new 185 (z0s [TI,TI,(.sl [TI])])),zst 6 27 3]),(.reg [zmv 7 (zkb false)]),(zsq [(.reg [zmv 28 0,zle 29 28,zmv 30 (zki 0)]),(.block 0 (.loop Qi3 Qmt))]),QAV])
def QCy:List (ARv × Md):=[(.l 4 3 true,.b [.d,.d,.d]),(.t 5,.one .d)]
def Qq5:Qb:=TQ 0 0 QCy K
def QJE:Qb:=Qseq (tawp Qd9 0 QAV (Qq5 K)) (Qq5 K)
def Qlb:Qb:=Qblk 0 (QJE K)
def QBG:Qb:=Qseq (fun s'=>Loop Qd9 0 Qi3 Qmt (Qlb K) (gc 0 Qi3 s')) (Qlb K)
def QUs:Qb:=Qseq (tawp Qd9 0 Qtj (QBG K)) (QBG K)
def QKi:Qb:=Qblk 1 (QUs K)
def QXw:Qb:=Qblk 2 (QKi K)
def QjW (d:List Int) (x:List Int) (out:Bool) (x1:Int) (m2:List Int) (x2:Int):Prop:=Loop Qd9 0 Qs9 QBx (QXw K) ⟨[(1,(zcs [TI] x)),(4,(.p 0 0 0)),(6,(.p 2 0 0)),(7,(zcb out)),(9,(zci (gtd (0:Int) d (Int.toNat x2)))),(28,(zcs [TI] d)),(29,(zci (d.length:Int))),(30,(zci x2)),(34,(zcs [TI] x)),(35,(zci (x.length:Int))),(36,(zci x1))],[(0,(.box [(zci 0),(zci 0),(zcs [TI] ([]))])),(1,(.sl 3 [TI] true m2)),(2,(.box [(zci (d.length:Int)),(zci (x.length:Int)),(.r [TI] 1 0 m2.length)]))],3⟩
def Qhq (d:List Int) (x:List Int) (out1:Bool) (x2:Int) (m21:List Int):Prop:=Loop Qd9 0 Qi3 Qmt (Qlb K) ⟨[(1,(zcs [TI] x)),(4,(.p 0 0 0)),(6,(.p 2 0 0)),(7,(zcb out1)),(28,(zcs [TI] d)),(29,(zci (d.length:Int))),(30,(zci x2))],[(0,(.box [(zci 0),(zci 0),(zcs [TI] ([]))])),(1,(.sl 3 [TI] true m21)),(2,(.box [(zci (d.length:Int)),(zci (x.length:Int)),(.r [TI] 1 0 m21.length)]))],3⟩
theorem Qq9 (d:List Int) (x:List Int) (out:Bool) (x1:Int) (m2:List Int) (x2:Int) (h :
 (zif (decide (x1<(x.length:Int))) (((0:Int)≤x1∧Int.toNat x1<x.length)∧(((m2.length=m2.length∨m2.length+1≤m2.length)∧m2.length+1≤big)∧(QjW K d x (out||((Zm (gtd (0:Int) d (Int.toNat x2)) (gtd (0:Int) x (Int.toNat x1))).2)) (w64 (x1+(1:Int))) (List.take (m2.length+1) ((List.take m2.length m2)++([(Zm (gtd (0:Int) d (Int.toNat x2)) (gtd (0:Int) x (Int.toNat x1))).1]))) x2))) (Qhq K d x out (w64 (x2+(1:Int))) (List.take m2.length m2)))):QjW K d x out x1 m2 x2 :=
 Loop.of (by kernel_rfl) h
theorem QBU (d:List Int) (x:List Int) (out1:Bool) (x2:Int) (m21:List Int) (h :
 (zif (decide (x2<(d.length:Int))) (((0:Int)≤x2∧Int.toNat x2<d.length)∧(QjW K d x out1 0 (List.take m21.length m21) x2)) (K (QaO (((d.length:Int),(x.length:Int),(List.take m21.length (List.drop 0 m21))),out1))))):Qhq K d x out1 x2 m21 :=
 Loop.of (by kernel_rfl) h
theorem QSE (d:List Int) (x:List Int) (h :
 (zif ((!(QJ d))||(!(QJ x))) (K (QaO (((0:Int),(0:Int),[]),false))) (Qhq K d x false 0 ([]:List Int)))):Hold (tawp Qd9 (0+0) QUF (TQ 0 0 QCy K) (Qi [(.c (.sl [TI]) d),(.c (.sl [TI]) x)])) :=
 Hold.of (by kernel_rfl) h
theorem QHX (d:List Int) (x:List Int):TCon Tryz.prog 219 [(.c (.sl [TI]) d),(.c (.sl [TI]) x)] (QaO (Zh d x)):=by
 refine Qo rfl fun hb=>tcg (n:=60) (sg:=Qld.sg) Qm (TOk.cons Qds (TOk.cons QlM TOk.nil)) (by kernel_rfl) (by kernel_rfl) (QSE _ d x ?_)
 have hl_d:d.length≤9223372036854775807:=hb.1.1
 have hl_x:x.length≤9223372036854775807:=hb.2.1.1
 refine ⟨fun h=>R_eq (by unfold Zh;rw [if_neg (by simpa [Classical.or_iff_not_imp_left] using h)]),fun h=>?_⟩
 have hp:QJ d=true∧QJ x=true:=by simpa using h
 have h6:=(ZZ.1 hp.1).1
 have h7:=(ZZ.1 hp.2).1
 refine Zj d (fun r j=>∀ (v:List Int) (z:Bool),v.length≤6*j→((((d.length:Int),(x.length:Int),v++r.flatMap fun a=>x.map fun b=>(Zm a b).1),z||r.any fun a=>x.any fun b=>(Zm a b).2):TMat × Bool)=(Zh d x)→Qhq (fun r'=>r'=QaO (Zh d x)) d x z j v) ?_ ?_ [] false (Nat.zero_le _) (by unfold Zh;rw [if_pos (by simp [hp])];simp)
 ·intro v z hv he
  refine QBU (fun r'=>r'=QaO (Zh d x)) d x _ _ _ ⟨fun h=>by simp at h,fun _=>R_eq ?_⟩
  rw [← he];simp
 ·intro j y r hj hlt hg ih v z hv he
  refine QBU (fun r'=>r'=QaO (Zh d x)) d x _ _ _ ⟨fun _=>?_,fun h=>by simp at h;omega⟩
  rw [List.take_length]
  refine ⟨⟨by omega,by omega⟩,Zj x (fun r2 k=>∀ (v2:List Int) (z2:Bool),v2.length=v.length+k→v2++r2.map (fun b=>(Zm y b).1)=v++x.map (fun b=>(Zm y b).1)→(z2||r2.any fun b=>(Zm y b).2)=(z||x.any fun b=>(Zm y b).2)→QjW (fun r'=>r'=QaO (Zh d x)) d x z2 k v2 j) ?_ ?_ v z (by omega) rfl rfl⟩
  ·intro v2 z2 hv2 he2 hz2
   refine Qq9 (fun r'=>r'=QaO (Zh d x)) d x _ _ _ _ ⟨fun h=>by simp at h,fun _=>?_⟩
   rw [List.take_length,sc1 (by omega)]
   simp only [List.map_nil,List.append_nil,List.any_nil,Bool.or_false] at he2 hz2
   refine ih _ _ (by rw [hv2];omega) ?_
   rw [← he,he2,hz2];simp [Bool.or_assoc]
  ·intro k w r2 hk hlt2 hg2 ih2 v2 z2 hv2 he2 hz2
   refine Qq9 (fun r'=>r'=QaO (Zh d x)) d x _ _ _ _ ⟨fun _=>?_,fun h=>by simp at h;omega⟩
   rw [Int.toNat_natCast,Int.toNat_natCast,hg,hg2,sc1 (by omega),Zc]
   refine ⟨⟨by omega,by omega⟩,room (by omega),ih2 _ _ (by simp;omega) ?_ ?_⟩
   ·rw [← he2];simp
   ·rw [← hz2];simp [Bool.or_assoc]
theorem QGf:Ql Tryz.prog Qld:=Qn fun x _=>QHX x.1 x.2.1
def Qa0 (t:TMat × Bool):TRes:=zra (.tp [(.a [(zci t.1.1),(zci t.1.2.1),(zcs [TI] t.1.2.2)]),(zcb t.2)])
def QmX:TRow:=Qk 232 [(.c (.sl [TI])),(.c (.sl [TI]))] fun x=>(none,Qa0 (Zh x.1 x.2.1))
def QdK:List TRow:=[Jc,Qe5]
def QDj:TCode :=
 (zsq [(zsq [(.reg [zmv 32 9,zmv 33 1,zle 34 33,zbi 35 .lss 32 34]),(.cond 35 .skip (.exit 2))]),(.block 3 (zsq [(.draw [zmv 39 0,zmv 40 8,zia 41 39 40 [TI],zld 42 41 1,zmv 43 1,zmv 44 9,zia 45 43 44 [TI],zld 46 45 1,zca 47 229 [42,46],zmv 38 47,zex 48 38 0,zex 49 38 1,zmv 10 48,zmv 11 49] []),(.reg [zfa 50 6 2,zld 51 50 1,zmv 52 10,zop 53 (.bsl 3 [TI] [52]),zop 54 (.app 51 53 3 [TI]),zfa 55 6 2,zst 55 54 1]),(.reg [zmv 56 7,zmv 57 56,.grp 57 false [zmv 58 11] 59 58,zmv 7 59])])),(.reg [zmv 36 9,zbi 37 .add 36 (zki 1),zmv 9 37])])
def Qt1:List (Nat × Md):=[(0,.one .d),(1,.one .d),(4,.b [.d,.d,.d]),(6,.b [.d,.d,.f]),(7,.one .d),(8,.one .d),(9,.one .d)]
def QAm:TCode :=
 (.reg [zmv 30 8,zbi 31 .add 30 (zki 1),zmv 8 31])
def QpS:TCode :=
 (zsq [(zsq [(.reg [zmv 26 8,zmv 27 0,zle 28 27,zbi 29 .lss 26 28]),(.cond 29 .skip (.exit 0))]),(.block 1 (zsq [(.reg [zmv 9 (zki 0)]),(.block 2 (.loop Qt1 QDj))])),QAm])
def QhL:List (Nat × Md):=[(0,.one .d),(1,.one .d),(4,.b [.d,.d,.d]),(6,.b [.d,.d,.o 3]),(7,.one .d),(8,.one .d)]
def Qs3:TCode :=
 (zsq [(.reg [zLd 60 6 3,zmv 61 7,zst 4 60 3,zmv 5 61]),.ret])
def QE2:TCode :=
 (zsq [(.reg [zop 4 (.new 185 (z0s [TI,TI,(.sl [TI])])),zmv 5 (zkb false)]),(zsq [(.reg [zmv 12 0,zca 13 42 [12],zno 14 13,zmv 15 14,.grp 15 false [zmv 16 1,zca 17 42 [16],zno 18 17] 19 18]),(.cond 19 (zsq [(.reg [zop 20 (.build (z0s [TI,TI,(.sl [TI])]) []),zst 4 20 3,zmv 5 (zkb false)]),.ret]) .skip)]),(.reg [zmv 21 0,zle 22 21,zmv 23 1,zle 24 23,zop 25 (.build (z0s [TI,TI,(.sl [TI])]) [(0,1,22),(1,1,24)]),zop 6 (.new 185 (z0s [TI,TI,(.sl [TI])])),zst 6 25 3]),(.reg [zmv 7 (zkb false)]),(zsq [(.reg [zmv 8 (zki 0)]),(.block 0 (.loop QhL QpS))]),Qs3])
def QsR:List (ARv × Md):=[(.l 4 3 true,.b [.d,.d,.d]),(.t 5,.one .d)]
def Qqx:Qb:=TQ 0 0 QsR K
def QLG:Qb:=Qseq (tawp QdK 0 Qs3 (Qqx K)) (Qqx K)
def QoT:Qb:=Qblk 0 (QLG K)
def QDL:Qb:=Qseq (fun s'=>Loop QdK 0 QhL QpS (QoT K) (gc 0 QhL s')) (QoT K)
def QS3:Qb:=Qseq (tawp QdK 0 QAm (QDL K)) (QDL K)
def QHc:Qb:=Qblk 1 (QS3 K)
def QYd:Qb:=Qblk 2 (QHc K)
def Qkq (d:List Int) (x:List Int) (sat:Bool) (k:Int) (m2:List Int) (i:Int):Prop:=Loop QdK 0 Qt1 QDj (QYd K) ⟨[(0,(zcs [TI] d)),(1,(zcs [TI] x)),(4,(.p 0 0 0)),(6,(.p 2 0 0)),(7,(zcb sat)),(8,(zci i)),(9,(zci k))],[(0,(.box [(zci 0),(zci 0),(zcs [TI] ([]))])),(1,(.sl 3 [TI] true m2)),(2,(.box [(zci (d.length:Int)),(zci (x.length:Int)),(.r [TI] 1 0 m2.length)]))],3⟩
def Qj3 (d:List Int) (x:List Int) (sat1:Bool) (i:Int) (m21:List Int):Prop:=Loop QdK 0 QhL QpS (QoT K) ⟨[(0,(zcs [TI] d)),(1,(zcs [TI] x)),(4,(.p 0 0 0)),(6,(.p 2 0 0)),(7,(zcb sat1)),(8,(zci i))],[(0,(.box [(zci 0),(zci 0),(zcs [TI] ([]))])),(1,(.sl 3 [TI] true m21)),(2,(.box [(zci (d.length:Int)),(zci (x.length:Int)),(.r [TI] 1 0 m21.length)]))],3⟩
theorem QCb (d:List Int) (x:List Int) (sat:Bool) (k:Int) (m2:List Int) (i:Int) (h :
 (zif (decide (k<(x.length:Int))) ((((0:Int)≤i∧Int.toNat i<d.length)∧((0:Int)≤k∧Int.toNat k<x.length))∧(((m2.length=m2.length∨m2.length+1≤m2.length)∧m2.length+1≤big)∧(Qkq K d x (sat||((Zm (gtd (0:Int) d (Int.toNat i)) (gtd (0:Int) x (Int.toNat k))).2)) (w64 (k+(1:Int))) (List.take (m2.length+1) ((List.take m2.length m2)++([(Zm (gtd (0:Int) d (Int.toNat i)) (gtd (0:Int) x (Int.toNat k))).1]))) i))) (Qj3 K d x sat (w64 (i+(1:Int))) (List.take m2.length m2)))):Qkq K d x sat k m2 i :=
 Loop.of (by kernel_rfl) h
theorem QDo (d:List Int) (x:List Int) (sat1:Bool) (i:Int) (m21:List Int) (h :
 (zif (decide (i<(d.length:Int))) (Qkq K d x sat1 0 (List.take m21.length m21) i) (K (Qa0 (((d.length:Int),(x.length:Int),(List.take m21.length (List.drop 0 m21))),sat1))))):Qj3 K d x sat1 i m21 :=
 Loop.of (by kernel_rfl) h
theorem QTY (d:List Int) (x:List Int) (h :
 (zif ((!(QJ d))||(!(QJ x))) (K (Qa0 (((0:Int),(0:Int),[]),false))) (Qj3 K d x false 0 ([]:List Int)))):Hold (tawp QdK (0+0) QE2 (TQ 0 0 QsR K) (Qi [(.c (.sl [TI]) d),(.c (.sl [TI]) x)])) :=
 Hold.of (by kernel_rfl) h
theorem QKn (d:List Int) (x:List Int):TCon Tryz.prog 232 [(.c (.sl [TI]) d),(.c (.sl [TI]) x)] (Qa0 (Zh d x)):=by
 refine Qo rfl fun hb=>tcg (n:=62) (sg:=QmX.sg) Qm (TOk.cons Jr (TOk.cons Qlo TOk.nil)) (by kernel_rfl) (by kernel_rfl) (QTY _ d x ?_)
 have hl_d:d.length≤9223372036854775807:=hb.1.1
 have hl_x:x.length≤9223372036854775807:=hb.2.1.1
 refine ⟨fun h=>R_eq (by unfold Zh;rw [if_neg (by simpa [Classical.or_iff_not_imp_left] using h)]),fun h=>?_⟩
 have hp:QJ d=true∧QJ x=true:=by simpa using h
 have h6:=(ZZ.1 hp.1).1
 have h7:=(ZZ.1 hp.2).1
 refine Zj d (fun r j=>∀ (v:List Int) (z:Bool),v.length≤6*j→((((d.length:Int),(x.length:Int),v++r.flatMap fun a=>x.map fun b=>(Zm a b).1),z||r.any fun a=>x.any fun b=>(Zm a b).2):TMat × Bool)=(Zh d x)→Qj3 (fun r'=>r'=Qa0 (Zh d x)) d x z j v) ?_ ?_ [] false (Nat.zero_le _) (by unfold Zh;rw [if_pos (by simp [hp])];simp)
 ·intro v z hv he
  refine QDo (fun r'=>r'=Qa0 (Zh d x)) d x _ _ _ ⟨fun h=>by simp at h,fun _=>R_eq ?_⟩
  rw [← he];simp
 ·intro j y r hj hlt hg ih v z hv he
  refine QDo (fun r'=>r'=Qa0 (Zh d x)) d x _ _ _ ⟨fun _=>?_,fun h=>by simp at h;omega⟩
  rw [List.take_length]
  refine Zj x (fun r2 k=>∀ (v2:List Int) (z2:Bool),v2.length=v.length+k→v2++r2.map (fun b=>(Zm y b).1)=v++x.map (fun b=>(Zm y b).1)→(z2||r2.any fun b=>(Zm y b).2)=(z||x.any fun b=>(Zm y b).2)→Qkq (fun r'=>r'=Qa0 (Zh d x)) d x z2 k v2 j) ?_ ?_ v z (by omega) rfl rfl
  ·intro v2 z2 hv2 he2 hz2
   refine QCb (fun r'=>r'=Qa0 (Zh d x)) d x _ _ _ _ ⟨fun h=>by simp at h,fun _=>?_⟩
   rw [List.take_length,sc1 (by omega)]
   simp only [List.map_nil,List.append_nil,List.any_nil,Bool.or_false] at he2 hz2
   refine ih _ _ (by rw [hv2];omega) ?_
   rw [← he,he2,hz2];simp [Bool.or_assoc]
  ·intro k w r2 hk hlt2 hg2 ih2 v2 z2 hv2 he2 hz2
   refine QCb (fun r'=>r'=Qa0 (Zh d x)) d x _ _ _ _ ⟨fun _=>?_,fun h=>by simp at h;omega⟩
   rw [Int.toNat_natCast,Int.toNat_natCast,hg,hg2,sc1 (by omega),Zc]
   refine ⟨⟨⟨by omega,by omega⟩,by omega,by omega⟩,room (by omega),ih2 _ _ (by simp;omega) ?_ ?_⟩
   ·rw [← he2];simp
   ·rw [← hz2];simp [Bool.or_assoc]
theorem QHe:Ql Tryz.prog QmX:=Qn fun x _=>QKn x.1 x.2.1
def Ql9 (t:TMat):TRes:=zra (.a [(zci t.1),(zci t.2.1),(zcs [TI] t.2.2)])
def Qig:TRow:=Qk 212 [(.a ctOp)] fun x=>(none,Ql9 (Q4 x.1))
def QL0:List TRow:=[]
def QWb:TCode :=
 (zsq [(.reg [zop 1 (.box 69 0 4),zop 2 (.new 185 (z0s [TI,TI,(.sl [TI])]))]),(.reg [zfa 3 1 2,zld 4 3 1,zfa 5 1 1,zld 6 5 1,zfa 7 1 3,zld 8 7 1,zop 9 (.build (z0s [TI,TI,(.sl [TI])]) [(0,1,4),(1,1,6),(2,1,8)]),zst 2 9 3]),.ret])
def QHV:List (ARv × Md):=[(.l 2 3 true,.b [.d,.d,.d])]
theorem QRq (o:TOp') (h :
 K (Ql9 (o.2.2.1,o.2.1,o.2.2.2))):Hold (tawp QL0 (0+0) QWb (TQ 0 0 QHV K) (Qi [(.a (Tup.cells ctOp o))])) :=
 Hold.of (by kernel_rfl) h
theorem QRp (o:TOp'):TCon Tryz.prog 212 [(.a (Tup.cells ctOp o))] (Ql9 (Q4 o)):=by
 refine Qo rfl fun hb=>tcg (n:=10) (sg:=Qig.sg) Qm TOk.nil (by kernel_rfl) (by kernel_rfl) (QRq _ o ?_)
 have hl_o_3:(o.2.2.2).length≤9223372036854775807:=hb.1.2.2.2.1.1
 exact R_eq rfl
theorem Qwt:Ql Tryz.prog Qig:=Qn fun x _=>QRp x.1
def QpH (t:TMat):TRes:=zra (.a [(zci t.1),(zci t.2.1),(zcs [TI] t.2.2)])
def Qh3:TRow:=Qk 225 [(.a ctOp)] fun x=>(none,QpH (Q4 x.1))
def QVg:List TRow:=[]
def QKc:TCode :=
 (zsq [(.reg [zop 1 (.box 69 0 4),zop 2 (.new 185 (z0s [TI,TI,(.sl [TI])]))]),(.reg [zfa 3 1 2,zld 4 3 1,zfa 5 1 1,zld 6 5 1,zfa 7 1 3,zld 8 7 1,zop 9 (.build (z0s [TI,TI,(.sl [TI])]) [(0,1,4),(1,1,6),(2,1,8)]),zst 2 9 3]),.ret])
def QV5:List (ARv × Md):=[(.l 2 3 true,.b [.d,.d,.d])]
theorem QXp (o:TOp') (h :
 K (QpH (o.2.2.1,o.2.1,o.2.2.2))):Hold (tawp QVg (0+0) QKc (TQ 0 0 QV5 K) (Qi [(.a (Tup.cells ctOp o))])) :=
 Hold.of (by kernel_rfl) h
theorem QOC (o:TOp'):TCon Tryz.prog 225 [(.a (Tup.cells ctOp o))] (QpH (Q4 o)):=by
 refine Qo rfl fun hb=>tcg (n:=10) (sg:=Qh3.sg) Qm TOk.nil (by kernel_rfl) (by kernel_rfl) (QXp _ o ?_)
 have hl_o_3:(o.2.2.2).length≤9223372036854775807:=hb.1.2.2.2.1.1
 exact R_eq rfl
theorem Qtq:Ql Tryz.prog Qh3:=Qn fun x _=>QOC x.1
end
end Go.Proofs.YtjbdljkhbglnhaaGreat.Am

