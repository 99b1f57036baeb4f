/- -/
import Derived.Test.YtjbdljkhbglnhaaGreatZFP1
import Derived.Test.YtjbdljkhbglnhaaGreatZFPG
import Derived.Test.YtjbdljkhbglnhaaGreatZFPF
namespace Go.Proofs.YtjbdljkhbglnhaaGreat.Am
open Go Go.RowKit Go.Proofs.YtjbdljkhbglnhaaGreat
set_option linter.all false
noncomputable section
variable (K:TRes→Prop)
def Qjo (t:Bool):TRes:=zre (zcb t)
def QfS:TRow:=Qh 233 [(.a [TI,TI,(.sl [TI])])] fun x=>(none,Qjo (ZA x.1))
def QQb:List TRow:=[QgU]
def QV8:TCode :=
 (zsq [(.reg [zop 1 (.box 185 0 3),zmv 2 (zkb false)]),(zsq [(.reg [zfa 3 1 0,zld 4 3 1,zbi 5 .lss 4 (zki 1),zmv 6 5,.grp 6 false [zfa 7 1 0,zld 8 7 1,zbi 9 .gtr 8 (zki 6)] 10 9,zmv 11 10,.grp 11 false [zfa 12 1 1,zld 13 12 1,zbi 14 .lss 13 (zki 1)] 15 14,zmv 16 15,.grp 16 false [zfa 17 1 1,zld 18 17 1,zbi 19 .gtr 18 (zki 6)] 20 19]),(.cond 20 (zsq [(.reg [zmv 2 (zkb false)]),.ret]) .skip)]),(.reg [zfa 21 1 2,zld 22 21 1,zle 23 22,zfa 24 1 0,zld 25 24 1,zfa 26 1 1,zld 27 26 1,zbi 28 .mul 25 27,zbi 29 .eql 23 28,zmv 30 29,.grp 30 true [zfa 31 1 2,zld 32 31 1,zca 33 195 [32]] 34 33,zmv 2 34]),.ret])
def QHk:List (ARv × Md):=[(.t 2,.one .d)]
theorem QIP (m:TMat) (h :
 (zif ((((decide (m.1<(1:Int)))||(decide (m.1>(6:Int))))||(decide (m.2.1<(1:Int))))||(decide (m.2.1>(6:Int)))) (K (Qjo false)) (K (Qjo ((((m.2.2).length:Int)==(w64 (m.1*m.2.1)))&&(ZE m.2.2)))))):Hold (tawp QQb (0+0) QV8 (TQ 0 0 QHk K) (Qf [(.a [(.c TI m.1),(.c TI m.2.1),(.c (.sl [TI]) m.2.2)])])) :=
 Hold.of (by kernel_rfl) h
theorem QQq (m:TMat):TCon Tryz.prog 233 [(.a [(.c TI m.1),(.c TI m.2.1),(.c (.sl [TI]) m.2.2)])] (Qjo (ZA m)):=by
 refine Qo rfl fun hb=>tcg (n:=35) (sg:=QfS.sg) Qj (TOk.cons QnX TOk.nil) (by kernel_rfl) (by kernel_rfl) (QIP _ m ?_)
 have hl_m_2:(m.2.2).length≤9223372036854775807:=hb.1.2.2.1.1
 refine ⟨fun h=>R_eq ?_,fun h=>R_eq ?_⟩
 ·have:(m_in m.1 1 6&&m_in m.2.1 1 6)=false:=by simp [m_in];simp at h;omega
  unfold ZA;rw [this];rfl
 ·have h':(1≤m.1∧m.1≤6)∧1≤m.2.1∧m.2.1≤6:=by simp at h;omega
  have hm:=QdJ h'.1.1 h'.1.2 h'.2.1 h'.2.2
  rw [Qq (x:=m.1*m.2.1) (by omega) (by omega)]
  unfold ZA
  rw [QV.2 h'.1,QV.2 h'.2];simp
theorem Qqk:Qg Tryz.prog QfS:=Qk fun x _=>QQq x.1
def Qcy (t:Bool):TRes:=zre (zcb t)
def QhT:TRow:=Qh 236 [(.a [TI,TI,(.sl [TI])])] fun x=>(none,Qcy (ZA x.1))
def QlH:List TRow:=[YR,QeJ]
def QvV:TCode :=
 (zsq [(zsq [(.reg [zmv 25 3,zfa 26 1 2,zld 27 26 1,zle 28 27,zbi 29 .lss 25 28]),(.cond 29 .skip (.exit 0))]),(.block 1 (zsq [(.reg [zfa 32 1 2,zld 33 32 1,zmv 34 3,zia 35 33 34 [TI],zld 36 35 1,zca 37 110 [36],zno 38 37]),(.cond 38 (zsq [(.reg [zmv 2 (zkb false)]),.ret]) .skip)])),(.reg [zmv 30 3,zbi 31 .add 30 (zki 1),zmv 3 31])])
def QCm:List (Nat × Md):=[(1,.b [.d,.d,.d]),(3,.one .d)]
def QAk:TCode :=
 (zsq [(.reg [zmv 2 (zkb true)]),.ret])
def QSH:TCode :=
 (zsq [(.reg [zop 1 (.box 185 0 3),zmv 2 (zkb false)]),(zsq [(.reg [zfa 4 1 0,zld 5 4 1,zca 6 77 [5,(zki 1),(zki 6)],zno 7 6,zmv 8 7,.grp 8 false [zfa 9 1 1,zld 10 9 1,zca 11 77 [10,(zki 1),(zki 6)],zno 12 11] 13 12,zmv 14 13,.grp 14 false [zfa 15 1 2,zld 16 15 1,zle 17 16,zfa 18 1 0,zld 19 18 1,zfa 20 1 1,zld 21 20 1,zbi 22 .mul 19 21,zbi 23 .neq 17 22] 24 23]),(.cond 24 (zsq [(.reg [zmv 2 (zkb false)]),.ret]) .skip)]),(zsq [(.reg [zmv 3 (zki 0)]),(.block 0 (.loop QCm QvV))]),QAk])
def QFk:List (ARv × Md):=[(.t 2,.one .d)]
def QCh:Qb:=TQ 0 0 QFk K
def QQs:Qb:=Qseq (tawp QlH 0 QAk (QCh K)) (QCh K)
def QKv:Qb:=Qblk 0 (QQs K)
def Qo9 (m:TMat) (i:Int):Prop:=Loop QlH 0 QCm QvV (QKv K) ⟨[(1,(.p 0 0 0)),(3,(zci i))],[(0,(.box [(zci m.1),(zci m.2.1),(zcs [TI] m.2.2)]))],1⟩
theorem QSC (m:TMat) (i:Int) (h :
 (zif (decide (i<((m.2.2).length:Int))) (((0:Int)≤i∧Int.toNat i<(m.2.2).length)∧(zif (!(Zc (gtd (0:Int) m.2.2 (Int.toNat i)))) (K (Qcy false)) (Qo9 K m (w64 (i+(1:Int)))))) (K (Qcy true)))):Qo9 K m i :=
 Loop.of (by kernel_rfl) h
theorem QI6 (m:TMat) (h :
 (zif (((!(m_in m.1 (1:Int) (6:Int)))||(!(m_in m.2.1 (1:Int) (6:Int))))||(((m.2.2).length:Int) != (w64 (m.1*m.2.1)))) (K (Qcy false)) (Qo9 K m 0))):Hold (tawp QlH (0+0) QSH (TQ 0 0 QFk K) (Qf [(.a [(.c TI m.1),(.c TI m.2.1),(.c (.sl [TI]) m.2.2)])])) :=
 Hold.of (by kernel_rfl) h
theorem QTc (m:TMat):TCon Tryz.prog 236 [(.a [(.c TI m.1),(.c TI m.2.1),(.c (.sl [TI]) m.2.2)])] (Qcy (ZA m)):=by
 refine Qo rfl fun hb=>tcg (n:=39) (sg:=QhT.sg) Qj (TOk.cons Y9 (TOk.cons Qhd TOk.nil)) (by kernel_rfl) (by kernel_rfl) (QI6 _ m ?_)
 have hl_m_2:(m.2.2).length≤9223372036854775807:=hb.1.2.2.1.1
 refine ⟨fun h=>R_eq ?_,fun h=>?_⟩
 ·have:ZA m=false:=by
   cases hm:ZA m with
   | false=>rfl
   | true =>
    obtain ⟨h1,h2,h3,h4,h5,h6,h7⟩:=Qdj hm
    rw [QV.2 ⟨h1,h2⟩,QV.2 ⟨h3,h4⟩,Qq (x:=m.1*m.2.1) (by have:=QdJ h1 h2 h3 h4;omega) (by omega),← h5] at h
    simp at h
  exact this.symm
 ·have h':m_in m.1 1 6=true∧m_in m.2.1 1 6=true:=by simp at h;exact h.1
  have h1:=QV.1 h'.1
  have h2:=QV.1 h'.2
  have hm:=QdJ h1.1 h1.2 h2.1 h2.2
  rw [Qq (x:=m.1*m.2.1) (by omega) (by omega)] at h
  exact Qba (Q:=fun x=>Qcy x=Qcy (ZA m)) (p:=Zc) (c:=fun x=>!(Zc x)) 0 hl_m_2 (fun _=>rfl) (fun i h=>QSC (fun r'=>r'=Qcy (ZA m)) m i h) (R_eq (by
   unfold ZA ZE
   have h3:((m.2.2.length:Int)==m.1*m.2.1)=true:=by simp [h'] at h;simp [h]
   rw [h'.1,h'.2,h3];simp))
theorem Qtd:Qg Tryz.prog QhT:=Qk fun x _=>QTc x.1
def Qnn (t:(List Int)):TRes:=zra (zcs [TI] t)
def Qpn:TRow:=Qh 237 [(.a [TI,TI,(.sl [TI])]),(.c TI)] fun x=>(some (Qnv x.1 x.2.1),Qnn (Je x.1 x.2.1))
def Q0p:List TRow:=[]
def Q1H:TCode :=
 (zsq [(.reg [zop 2 (.box 185 0 3),zmv 4 (.k (.n [TI]))]),(.reg [zfa 5 2 2,zld 6 5 1,zmv 7 1,zfa 8 2 1,zld 9 8 1,zbi 10 .mul 7 9,zmv 11 1,zbi 12 .add 11 (zki 1),zfa 13 2 1,zld 14 13 1,zbi 15 .mul 12 14,zop 16 (.slc 6 (some 10) (some 15) [TI]),zmv 4 16]),.ret])
def QWP:List (ARv × Md):=[(.t 4,.one .d)]
theorem QKd (m:TMat) (i:Int) (h :
 (((0:Int)≤w64 (i*m.2.1)∧w64 (i*m.2.1)≤w64 ((w64 (i+(1:Int)))*m.2.1)∧w64 ((w64 (i+(1:Int)))*m.2.1)≤((m.2.2).length:Int))∧K (Qnn (List.take (Int.toNat (w64 ((w64 (i+(1:Int)))*m.2.1))-Int.toNat (w64 (i*m.2.1))) (List.drop (Int.toNat (w64 (i*m.2.1))) m.2.2))))):Hold (tawp Q0p (0+0) Q1H (TQ 0 0 QWP K) (Qf [(.a [(.c TI m.1),(.c TI m.2.1),(.c (.sl [TI]) m.2.2)]),(.c TI i)])) :=
 Hold.of (by kernel_rfl) h
theorem QRo (m:TMat) (i:Int) (hp:Qnv m i):TCon Tryz.prog 237 [(.a [(.c TI m.1),(.c TI m.2.1),(.c (.sl [TI]) m.2.2)]),(.c TI i)] (Qnn (Je m i)):=by
 refine Qo rfl fun hb=>tcg (n:=17) (sg:=Qpn.sg) Qj TOk.nil (by kernel_rfl) (by kernel_rfl) (QKd _ m i ?_)
 have hl_m_2:(m.2.2).length≤9223372036854775807:=hb.1.2.2.1.1
 obtain ⟨h1,h2,h3,h4,h5,h6⟩:=hp
 have hd:=idx h3 h4 h1
 have h36:m.1*m.2.1≤36:=by
  have:=Int.mul_le_mul h5 h2 h1 (by omega:(0:Int)≤6);omega
 rw [Qq (x:=i+1) (by omega) (by omega),Qq (x:=i*m.2.1) (by omega) (by omega),Qq (x:=(i+1)*m.2.1) (by omega) (by omega)]
 exact ⟨⟨by omega,by omega,by omega⟩,R_eq rfl⟩
theorem QVJ:Qg Tryz.prog Qpn:=Qk fun x h=>QRo x.1 x.2.1 h
def Qek (t:(List Int)):TRes:=zra (zcs [TI] t)
def QlJ:TRow:=Qh 240 [(.a [TI,TI,(.sl [TI])]),(.c TI)] fun x=>(some (Qpc x.1 x.2.1),Qek (Yd x.1 x.2.1))
def QnS:List TRow:=[]
def QyK:TCode :=
 (zsq [(zsq [(.reg [zmv 8 6,zfa 9 2 0,zld 10 9 1,zbi 11 .lss 8 10]),(.cond 11 .skip (.exit 0))]),(.block 1 (.reg [zmv 14 5,zfa 15 2 2,zld 16 15 1,zmv 17 6,zfa 18 2 1,zld 19 18 1,zbi 20 .mul 17 19,zmv 21 1,zbi 22 .add 20 21,zia 23 16 22 [TI],zld 24 23 1,zop 25 (.bsl 3 [TI] [24]),zop 26 (.app 14 25 3 [TI]),zmv 5 26])),(.reg [zmv 12 6,zbi 13 .add 12 (zki 1),zmv 6 13])])
def Qt6:List (Nat × Md):=[(1,.one .d),(2,.b [.d,.d,.d]),(5,.one .f),(6,.one .d)]
def QyQ:TCode :=
 (zsq [(.reg [zmv 27 5,zmv 4 27]),.ret])
def QRE:TCode :=
 (zsq [(.reg [zop 2 (.box 185 0 3),zmv 4 (.k (.n [TI]))]),(.reg [zop 7 (.bsl 3 [TI] []),zmv 5 7]),(zsq [(.reg [zmv 6 (zki 0)]),(.block 0 (.loop Qt6 QyK))]),QyQ])
def QyA:List (ARv × Md):=[(.t 4,.one .d)]
def QG6:Qb:=TQ 0 0 QyA K
def QHZ:Qb:=Qseq (tawp QnS 0 QyQ (QG6 K)) (QG6 K)
def QLP:Qb:=Qblk 0 (QHZ K)
def QkJ (m:TMat) (k:Int) (i:Int) (out:List Int):Prop:=Loop QnS 0 Qt6 QyK (QLP K) ⟨[(1,(zci k)),(2,(.p 0 0 0)),(5,(.r [TI] 1 0 out.length)),(6,(zci i))],[(0,(.box [(zci m.1),(zci m.2.1),(zcs [TI] m.2.2)])),(1,(.sl 3 [TI] true out))],2⟩
theorem QsB (m:TMat) (k:Int) (i:Int) (out:List Int) (h :
 (zif (decide (i<m.1)) ((((0:Int)≤w64 ((w64 (i*m.2.1))+k)∧Int.toNat (w64 ((w64 (i*m.2.1))+k))<(m.2.2).length)∧((out.length=out.length∨out.length+1≤out.length)∧out.length+1≤big))∧(QkJ K m k (w64 (i+(1:Int))) (List.take (out.length+1) ((List.take out.length out)++([(gtd (0:Int) m.2.2 (Int.toNat (w64 ((w64 (i*m.2.1))+k))))]))))) (K (Qek (List.take out.length (List.drop 0 out)))))):QkJ K m k i out :=
 Loop.of (by kernel_rfl) h
theorem QQO (m:TMat) (k:Int) (h :
 (QkJ K m k 0 ([]:List Int))):Hold (tawp QnS (0+0) QRE (TQ 0 0 QyA K) (Qf [(.a [(.c TI m.1),(.c TI m.2.1),(.c (.sl [TI]) m.2.2)]),(.c TI k)])) :=
 Hold.of (by kernel_rfl) h
theorem QWl (m:TMat) (k:Int) (hp:Qpc m k):TCon Tryz.prog 240 [(.a [(.c TI m.1),(.c TI m.2.1),(.c (.sl [TI]) m.2.2)]),(.c TI k)] (Qek (Yd m k)):=by
 refine Qo rfl fun hb=>tcg (n:=28) (sg:=QlJ.sg) Qj TOk.nil (by kernel_rfl) (by kernel_rfl) (QQO _ m k ?_)
 have hl_m_2:(m.2.2).length≤9223372036854775807:=hb.1.2.2.1.1
 obtain ⟨h2,h3,h4,h5,h6,h7⟩:=hp
 have h36:m.1*m.2.1≤36:=by
  have:=Int.mul_le_mul h6 h2 (by omega) (by omega:(0:Int)≤6);omega
 refine Y7 m.1.toNat (fun j=>QkJ (fun r'=>r'=Qek (Yd m k)) m k (j:Int) ((List.range j).map fun i:Nat=>gtd 0 m.2.2 ((i:Int)*m.2.1+k).toNat)) ?_ ?_
 ·refine QsB (fun r'=>r'=Qek (Yd m k)) m k _ _ ⟨fun h=>by simp at h;omega,fun _=>R_eq ?_⟩
  unfold Yd;rw [List.drop_zero,List.take_length]
 ·intro j hj ih
  have hd:=idx (r:=j) (R:=m.1) (C:=m.2.1) (by omega) (by omega) (by omega)
  refine QsB (fun r'=>r'=Qek (Yd m k)) m k _ _ ⟨fun _=>?_,fun h=>by simp at h;omega⟩
  rw [Qq (x:=(j:Int)*m.2.1) (by omega) (by omega),Qq (x:=(j:Int)*m.2.1+k) (by omega) (by omega),sc1 (by omega),Q7]
  rw [QgS] at ih
  exact ⟨⟨⟨by omega,by omega⟩,room (by simp;omega)⟩,ih⟩
theorem QT1:Qg Tryz.prog QlJ:=Qk fun x h=>QWl x.1 x.2.1 h
def QcU (t:(List Int) × Bool):TRes:=zra (.tp [(zcs [TI] t.1),(zcb t.2)])
def QjL:TRow:=Qh 211 [(.a [TI,TI,(.sl [TI])]),(.c (.sl [TI]))] fun x=>(none,QcU (Zo x.1 x.2.1))
def Qm1:List TRow:=[QfS,Qaa,QfX]
def QE0:TCode :=
 (zsq [(zsq [(.reg [zmv 22 8,zfa 23 2 0,zld 24 23 1,zbi 25 .lss 22 24]),(.cond 25 .skip (.exit 0))]),(.block 1 (zsq [(.reg [zfa 29 2 2,zld 30 29 1,zmv 31 8,zfa 32 2 1,zld 33 32 1,zbi 34 .mul 31 33,zmv 35 8,zbi 36 .add 35 (zki 1),zfa 37 2 1,zld 38 37 1,zbi 39 .mul 36 38,zop 40 (.slc 30 (some 34) (some 39) [TI]),zmv 41 1,zca 42 188 [40,41],zmv 28 42,zex 43 28 0,zex 44 28 1,zmv 9 43,zmv 10 44]),(.reg [zmv 45 6,zmv 46 9,zop 47 (.bsl 3 [TI] [46]),zop 48 (.app 45 47 3 [TI]),zmv 6 48]),(.reg [zmv 49 7,zmv 50 49,.grp 50 false [zmv 51 10] 52 51,zmv 7 52])])),(.reg [zmv 26 8,zbi 27 .add 26 (zki 1),zmv 8 27])])
def Qz8:List (Nat × Md):=[(1,.one .d),(2,.b [.d,.d,.d]),(6,.one .f),(7,.one .d),(8,.one .d)]
def QyY:TCode :=
 (zsq [(.reg [zmv 53 6,zmv 54 7,zmv 4 53,zmv 5 54]),.ret])
def QIa:TCode :=
 (zsq [(.reg [zop 2 (.box 185 0 3),zmv 4 (.k (.n [TI])),zmv 5 (zkb false)]),(zsq [(.reg [zLd 11 2 3,zca 12 233 [11],zno 13 12,zmv 14 13,.grp 14 false [zmv 15 1,zfa 16 2 1,zld 17 16 1,zca 18 114 [15,17],zno 19 18] 20 19]),(.cond 20 (zsq [(.reg [zmv 4 (.k (.n [TI])),zmv 5 (zkb false)]),.ret]) .skip)]),(.reg [zop 21 (.bsl 3 [TI] []),zmv 6 21]),(.reg [zmv 7 (zkb false)]),(zsq [(.reg [zmv 8 (zki 0)]),(.block 0 (.loop Qz8 QE0))]),QyY])
def QDb:List (ARv × Md):=[(.t 4,.one .d),(.t 5,.one .d)]
def QA3:Qb:=TQ 0 0 QDb K
def Q0M:Qb:=Qseq (tawp Qm1 0 QyY (QA3 K)) (QA3 K)
def Q0Z:Qb:=Qblk 0 (Q0M K)
def QiI (m:TMat) (x:List Int) (out:Bool) (r:Int) (v:List Int):Prop:=Loop Qm1 0 Qz8 QE0 (Q0Z K) ⟨[(1,(zcs [TI] x)),(2,(.p 0 0 0)),(6,(.r [TI] 1 0 v.length)),(7,(zcb out)),(8,(zci r))],[(0,(.box [(zci m.1),(zci m.2.1),(zcs [TI] m.2.2)])),(1,(.sl 3 [TI] true v))],2⟩
theorem QAb (m:TMat) (x:List Int) (out:Bool) (r:Int) (v:List Int) (h :
 (zif (decide (r<m.1)) (((0:Int)≤w64 (r*m.2.1)∧w64 (r*m.2.1)≤w64 ((w64 (r+(1:Int)))*m.2.1)∧w64 ((w64 (r+(1:Int)))*m.2.1)≤((m.2.2).length:Int))∧(((v.length=v.length∨v.length+1≤v.length)∧v.length+1≤big)∧(QiI K m x (out||((Q3 (List.take (Int.toNat (w64 ((w64 (r+(1:Int)))*m.2.1))-Int.toNat (w64 (r*m.2.1))) (List.drop (Int.toNat (w64 (r*m.2.1))) m.2.2)) x).2)) (w64 (r+(1:Int))) (List.take (v.length+1) ((List.take v.length v)++([(Q3 (List.take (Int.toNat (w64 ((w64 (r+(1:Int)))*m.2.1))-Int.toNat (w64 (r*m.2.1))) (List.drop (Int.toNat (w64 (r*m.2.1))) m.2.2)) x).1])))))) (K (QcU ((List.take v.length (List.drop 0 v)),out))))):QiI K m x out r v :=
 Loop.of (by kernel_rfl) h
theorem QXM (m:TMat) (x:List Int) (h :
 (zif ((!(ZA m))||(!(Qt x m.2.1))) (K (QcU ([],false))) (QiI K m x false 0 ([]:List Int)))):Hold (tawp Qm1 (0+0) QIa (TQ 0 0 QDb K) (Qf [(.a [(.c TI m.1),(.c TI m.2.1),(.c (.sl [TI]) m.2.2)]),(.c (.sl [TI]) x)])) :=
 Hold.of (by kernel_rfl) h
theorem QLQ (m:TMat) (x:List Int):TCon Tryz.prog 211 [(.a [(.c TI m.1),(.c TI m.2.1),(.c (.sl [TI]) m.2.2)]),(.c (.sl [TI]) x)] (QcU (Zo m x)):=by
 refine Qo rfl fun hb=>tcg (n:=55) (sg:=QjL.sg) Qj (TOk.cons Qqk (TOk.cons Qay (TOk.cons QpW TOk.nil))) (by kernel_rfl) (by kernel_rfl) (QXM _ m x ?_)
 have hl_m_2:(m.2.2).length≤9223372036854775807:=hb.1.2.2.1.1
 have hl_x:x.length≤9223372036854775807:=hb.2.1.1
 refine ⟨fun h=>R_eq (by rw [Qxg];intro h2;simp [h2.1,h2.2] at h),fun h=>?_⟩
 have hp:ZA m=true∧Qt x m.2.1=true:=by simpa using h
 obtain ⟨h1,h2,h3,h4,h5,h6,h7⟩:=Qdj hp.1
 have hv:(Zo m x)=((List.range m.1.toNat).map fun i:Nat=>(Q3 (Je m i) x).1,(List.range m.1.toNat).any fun i:Nat=>(Q3 (Je m i) x).2):=by unfold Zo;rw [if_pos (by simp [hp])]
 refine Y7 m.1.toNat (fun j=>QiI (fun r'=>r'=QcU (Zo m x)) m x ((List.range j).any fun i:Nat=>(Q3 (Je m i) x).2) (j:Int) ((List.range j).map fun i:Nat=>(Q3 (Je m i) x).1)) ?_ ?_
 ·refine QAb (fun r'=>r'=QcU (Zo m x)) m x _ _ _ ⟨fun h=>by simp at h;omega,fun _=>R_eq ?_⟩
  rw [hv,List.drop_zero,List.take_length]
 ·intro j hj ih
  have hd:=idx (r:=j) (R:=m.1) (C:=m.2.1) (by omega) (by omega) (by omega)
  refine QAb (fun r'=>r'=QcU (Zo m x)) m x _ _ _ ⟨fun _=>?_,fun h=>by simp at h;omega⟩
  rw [Qq (x:=(j:Int)+1) (by omega) (by omega),Qq (x:=(j:Int)*m.2.1) (by omega) (by omega),Qq (x:=((j:Int)+1)*m.2.1) (by omega) (by omega),Q7]
  rw [QgS,Qro] at ih
  exact ⟨⟨by omega,by omega,by omega⟩,room (by simp;omega),ih⟩
theorem Qw9:Qg Tryz.prog QjL:=Qk fun x _=>QLQ x.1 x.2.1
def QcR (t:(List Int) × Bool):TRes:=zra (.tp [(zcs [TI] t.1),(zcb t.2)])
def Qra:TRow:=Qh 224 [(.a [TI,TI,(.sl [TI])]),(.c (.sl [TI]))] fun x=>(none,QcR (Zo x.1 x.2.1))
def Qrm:List TRow:=[QhT,Jd,Qpn,Qe6]
def QCW:TCode :=
 (zsq [(zsq [(.reg [zmv 28 8,zfa 29 2 0,zld 30 29 1,zbi 31 .lss 28 30]),(.cond 31 .skip (.exit 0))]),(.block 1 (zsq [(.reg [zLd 35 2 3,zmv 36 8,zca 37 237 [35,36],zmv 38 1,zca 39 206 [37,38],zmv 34 39,zex 40 34 0,zex 41 34 1,zmv 9 40,zmv 10 41]),(.reg [zmv 42 6,zmv 43 9,zop 44 (.bsl 3 [TI] [43]),zop 45 (.app 42 44 3 [TI]),zmv 6 45]),(.reg [zmv 46 7,zmv 47 46,.grp 47 false [zmv 48 10] 49 48,zmv 7 49])])),(.reg [zmv 32 8,zbi 33 .add 32 (zki 1),zmv 8 33])])
def QC0:List (Nat × Md):=[(1,.one .d),(2,.b [.d,.d,.d]),(6,.one .f),(7,.one .d),(8,.one .d)]
def Qz2:TCode :=
 (zsq [(.reg [zmv 50 6,zmv 51 7,zmv 4 50,zmv 5 51]),.ret])
def QJh:TCode :=
 (zsq [(.reg [zop 2 (.box 185 0 3),zmv 4 (.k (.n [TI])),zmv 5 (zkb false)]),(.reg [zop 11 (.bsl 3 [TI] []),zmv 6 11]),(.reg [zmv 7 (zkb false)]),(zsq [(.reg [zLd 12 2 3,zca 13 236 [12],zno 14 13,zmv 15 14,.grp 15 false [zmv 16 1,zca 17 42 [16],zno 18 17] 19 18,zmv 20 19,.grp 20 false [zmv 21 1,zle 22 21,zfa 23 2 1,zld 24 23 1,zbi 25 .neq 22 24] 26 25]),(.cond 26 (zsq [(.reg [zmv 27 6,zmv 4 27,zmv 5 (zkb false)]),.ret]) .skip)]),(zsq [(.reg [zmv 8 (zki 0)]),(.block 0 (.loop QC0 QCW))]),Qz2])
def QCp:List (ARv × Md):=[(.t 4,.one .d),(.t 5,.one .d)]
def QEp:Qb:=TQ 0 0 QCp K
def QPV:Qb:=Qseq (tawp Qrm 0 Qz2 (QEp K)) (QEp K)
def QQD:Qb:=Qblk 0 (QPV K)
def Qiu (m:TMat) (x:List Int) (sat:Bool) (i:Int) (out:List Int):Prop:=Loop Qrm 0 QC0 QCW (QQD K) ⟨[(1,(zcs [TI] x)),(2,(.p 0 0 0)),(6,(.r [TI] 1 0 out.length)),(7,(zcb sat)),(8,(zci i))],[(0,(.box [(zci m.1),(zci m.2.1),(zcs [TI] m.2.2)])),(1,(.sl 3 [TI] true out))],2⟩
theorem Qxs (m:TMat) (x:List Int) (sat:Bool) (i:Int) (out:List Int) (h :
 (zif (decide (i<m.1)) ((Qnv m i)∧(((out.length=out.length∨out.length+1≤out.length)∧out.length+1≤big)∧(Qiu K m x (sat||((Q3 (Je m i) x).2)) (w64 (i+(1:Int))) (List.take (out.length+1) ((List.take out.length out)++([(Q3 (Je m i) x).1])))))) (K (QcR ((List.take out.length (List.drop 0 out)),sat))))):Qiu K m x sat i out :=
 Loop.of (by kernel_rfl) h
theorem QHt (m:TMat) (x:List Int) (h :
 (zif (((!(ZA m))||(!(QN x)))||((x.length:Int) != m.2.1)) (K (QcR (([]:List Int),false))) (Qiu K m x false 0 ([]:List Int)))):Hold (tawp Qrm (0+0) QJh (TQ 0 0 QCp K) (Qf [(.a [(.c TI m.1),(.c TI m.2.1),(.c (.sl [TI]) m.2.2)]),(.c (.sl [TI]) x)])) :=
 Hold.of (by kernel_rfl) h
theorem QXv (m:TMat) (x:List Int):TCon Tryz.prog 224 [(.a [(.c TI m.1),(.c TI m.2.1),(.c (.sl [TI]) m.2.2)]),(.c (.sl [TI]) x)] (QcR (Zo m x)):=by
 refine Qo rfl fun hb=>tcg (n:=52) (sg:=Qra.sg) Qj (TOk.cons Qtd (TOk.cons Jw (TOk.cons QVJ (TOk.cons QhI TOk.nil)))) (by kernel_rfl) (by kernel_rfl) (QHt _ m x ?_)
 have hl_m_2:(m.2.2).length≤9223372036854775807:=hb.1.2.2.1.1
 have hl_x:x.length≤9223372036854775807:=hb.2.1.1
 have hg:∀ n:Int,(!(QN x)||((x.length:Int) != n)) = !(Qt x n):=fun n=>by unfold Qt;simp [bne]
 rw [Bool.or_assoc,hg]
 refine ⟨fun h=>R_eq (by rw [Qxg];intro h2;simp [h2.1,h2.2] at h),fun h=>?_⟩
 have hp:ZA m=true∧Qt x m.2.1=true:=by simpa using h
 obtain ⟨h1,h2,h3,h4,h5,h6,h7⟩:=Qdj hp.1
 have hv:(Zo m x)=((List.range m.1.toNat).map fun i:Nat=>(Q3 (Je m i) x).1,(List.range m.1.toNat).any fun i:Nat=>(Q3 (Je m i) x).2):=by unfold Zo;rw [if_pos (by simp [hp])]
 refine Y7 m.1.toNat (fun j=>Qiu (fun r'=>r'=QcR (Zo m x)) m x ((List.range j).any fun i:Nat=>(Q3 (Je m i) x).2) (j:Int) ((List.range j).map fun i:Nat=>(Q3 (Je m i) x).1)) ?_ ?_
 ·refine Qxs (fun r'=>r'=QcR (Zo m x)) m x _ _ _ ⟨fun h=>by simp at h;omega,fun _=>R_eq ?_⟩
  rw [hv,List.drop_zero,List.take_length]
 ·intro j hj ih
  have hd:=idx (r:=j) (R:=m.1) (C:=m.2.1) (by omega) (by omega) (by omega)
  refine Qxs (fun r'=>r'=QcR (Zo m x)) m x _ _ _ ⟨fun _=>?_,fun h=>by simp at h;omega⟩
  rw [sc1 (by omega),Q7]
  rw [QgS,Qro] at ih
  exact ⟨⟨by omega,by omega,by omega,by omega,by omega,h5⟩,room (by simp;omega),ih⟩
theorem QQi:Qg Tryz.prog Qra:=Qk fun x _=>QXv x.1 x.2.1
def QaO (t:TMat):TRes:=zra (.a [(zci t.1),(zci t.2.1),(zcs [TI] t.2.2)])
def QlN:TRow:=Qh 235 [(.a [TI,TI,(.sl [TI])])] fun x=>(none,QaO (YX x.1))
def Qd5:List TRow:=[QfS]
def QCk:TCode :=
 (zsq [(zsq [(.reg [zmv 21 5,zfa 22 1 0,zld 23 22 1,zbi 24 .lss 21 23]),(.cond 24 .skip (.exit 2))]),(.block 3 (.draw [zfa 27 3 2,zld 28 27 1,zfa 29 1 2,zld 30 29 1,zmv 31 5,zfa 32 1 1,zld 33 32 1,zbi 34 .mul 31 33,zmv 35 4,zbi 36 .add 34 35,zia 37 30 36 [TI],zld 38 37 1,zop 39 (.bsl 3 [TI] [38]),zop 40 (.app 28 39 3 [TI]),zfa 41 3 2,zst 41 40 1] [(0,12),(1,12)])),(.reg [zmv 25 5,zbi 26 .add 25 (zki 1),zmv 5 26])])
def QxD:List (Nat × Md):=[(1,.b [.d,.d,.d]),(2,.b [.d,.d,.d]),(3,.b [.d,.d,.f]),(4,.one .d),(5,.one .d)]
def QsU:TCode :=
 (.reg [zmv 19 4,zbi 20 .add 19 (zki 1),zmv 4 20])
def Qqp:TCode :=
 (zsq [(zsq [(.reg [zmv 15 4,zfa 16 1 1,zld 17 16 1,zbi 18 .lss 15 17]),(.cond 18 .skip (.exit 0))]),(.block 1 (zsq [(.reg [zmv 5 (zki 0)]),(.block 2 (.loop QxD QCk))])),QsU])
def Qi8:List (Nat × Md):=[(1,.b [.d,.d,.d]),(2,.b [.d,.d,.d]),(3,.b [.d,.d,.o 3]),(4,.one .d)]
def Qx9:TCode :=
 (zsq [(.reg [zLd 42 3 3,zst 2 42 3]),.ret])
def QYj:TCode :=
 (zsq [(.reg [zop 1 (.box 185 0 3),zop 2 (.new 185 (z0s [TI,TI,(.sl [TI])]))]),(zsq [(.reg [zLd 6 1 3,zca 7 233 [6],zno 8 7]),(.cond 8 (zsq [(.reg [zop 9 (.build (z0s [TI,TI,(.sl [TI])]) []),zst 2 9 3]),.ret]) .skip)]),(.reg [zfa 10 1 1,zld 11 10 1,zfa 12 1 0,zld 13 12 1,zop 14 (.build (z0s [TI,TI,(.sl [TI])]) [(0,1,11),(1,1,13)]),zop 3 (.new 185 (z0s [TI,TI,(.sl [TI])])),zst 3 14 3]),(zsq [(.reg [zmv 4 (zki 0)]),(.block 0 (.loop Qi8 Qqp))]),Qx9])
def QEh:List (ARv × Md):=[(.l 2 3 true,.b [.d,.d,.d])]
def QBn:Qb:=TQ 0 0 QEh K
def QHF:Qb:=Qseq (tawp Qd5 0 Qx9 (QBn K)) (QBn K)
def Qrt:Qb:=Qblk 0 (QHF K)
def QBO:Qb:=Qseq (fun s'=>Loop Qd5 0 Qi8 Qqp (Qrt K) (gc 0 Qi8 s')) (Qrt K)
def QV9:Qb:=Qseq (tawp Qd5 0 QsU (QBO K)) (QBO K)
def QLk:Qb:=Qblk 1 (QV9 K)
def QZx:Qb:=Qblk 2 (QLk K)
def Qkj (m:TMat) (r:Int) (t2:List Int) (c:Int):Prop:=Loop Qd5 0 QxD QCk (QZx K) ⟨[(1,(.p 0 0 0)),(2,(.p 1 0 0)),(3,(.p 3 0 0)),(4,(zci c)),(5,(zci r))],[(0,(.box [(zci m.1),(zci m.2.1),(zcs [TI] m.2.2)])),(1,(.box [(zci 0),(zci 0),(zcs [TI] ([]))])),(2,(.sl 3 [TI] true t2)),(3,(.box [(zci m.2.1),(zci m.1),(.r [TI] 2 0 t2.length)]))],4⟩
def QkG (m:TMat) (c:Int) (t21:List Int):Prop:=Loop Qd5 0 Qi8 Qqp (Qrt K) ⟨[(1,(.p 0 0 0)),(2,(.p 1 0 0)),(3,(.p 3 0 0)),(4,(zci c))],[(0,(.box [(zci m.1),(zci m.2.1),(zcs [TI] m.2.2)])),(1,(.box [(zci 0),(zci 0),(zcs [TI] ([]))])),(2,(.sl 3 [TI] true t21)),(3,(.box [(zci m.2.1),(zci m.1),(.r [TI] 2 0 t21.length)]))],4⟩
theorem QEs (m:TMat) (r:Int) (t2:List Int) (c:Int) (h :
 (zif (decide (r<m.1)) ((((0:Int)≤w64 ((w64 (r*m.2.1))+c)∧Int.toNat (w64 ((w64 (r*m.2.1))+c))<(m.2.2).length)∧((t2.length=t2.length∨t2.length+1≤t2.length)∧t2.length+1≤big))∧(Qkj K m (w64 (r+(1:Int))) (List.take (t2.length+1) ((List.take t2.length t2)++([(gtd (0:Int) m.2.2 (Int.toNat (w64 ((w64 (r*m.2.1))+c))))]))) c)) (QkG K m (w64 (c+(1:Int))) (List.take t2.length t2)))):Qkj K m r t2 c :=
 Loop.of (by kernel_rfl) h
theorem QFg (m:TMat) (c:Int) (t21:List Int) (h :
 (zif (decide (c<m.2.1)) (Qkj K m 0 (List.take t21.length t21) c) (K (QaO (m.2.1,m.1,(List.take t21.length (List.drop 0 t21))))))):QkG K m c t21 :=
 Loop.of (by kernel_rfl) h
theorem QIh (m:TMat) (h :
 (zif (!(ZA m)) (K (QaO ((0:Int),(0:Int),[]))) (QkG K m 0 ([]:List Int)))):Hold (tawp Qd5 (0+0) QYj (TQ 0 0 QEh K) (Qf [(.a [(.c TI m.1),(.c TI m.2.1),(.c (.sl [TI]) m.2.2)])])) :=
 Hold.of (by kernel_rfl) h
theorem QNf (m:TMat):TCon Tryz.prog 235 [(.a [(.c TI m.1),(.c TI m.2.1),(.c (.sl [TI]) m.2.2)])] (QaO (YX m)):=by
 refine Qo rfl fun hb=>tcg (n:=43) (sg:=QlN.sg) Qj (TOk.cons Qqk TOk.nil) (by kernel_rfl) (by kernel_rfl) (QIh _ m ?_)
 have hl_m_2:(m.2.2).length≤9223372036854775807:=hb.1.2.2.1.1
 refine ⟨fun h=>R_eq (by unfold YX;rw [if_neg (by simpa using h)]),fun h=>?_⟩
 have hp:ZA m=true:=by simpa using h
 obtain ⟨h1,h2,h3,h4,h5,h6,h7⟩:=Qdj hp
 refine Y7 m.2.1.toNat (fun k=>QkG (fun r'=>r'=QaO (YX m)) m (k:Int) ((List.range k).flatMap fun k:Nat=>Yd m k)) ?_ ?_
 ·refine QFg (fun r'=>r'=QaO (YX m)) m _ _ ⟨fun h=>by simp at h;omega,fun _=>R_eq ?_⟩
  rw [List.drop_zero,List.take_length];unfold YX;rw [if_pos hp]
 ·intro k hk ih
  refine QFg (fun r'=>r'=QaO (YX m)) m _ _ ⟨fun _=>?_,fun h=>by simp at h;omega⟩
  rw [List.take_length]
  have hk36:((List.range k).flatMap fun k:Nat=>Yd m k).length≤36:=by
   rw [QpQ (R:=m.1.toNat) k (fun j _=>Qof m j)]
   have:k*m.1.toNat≤6*6:=Nat.mul_le_mul (by omega) (by omega)
   omega
  have inner:=Y7 m.1.toNat (fun j=>Qkj (fun r'=>r'=QaO (YX m)) m (j:Int) (((List.range k).flatMap fun k:Nat=>Yd m k)++(List.range j).map fun i:Nat=>gtd 0 m.2.2 ((i:Int)*m.2.1+(k:Nat)).toNat) (k:Int)) ?_ ?_
  ·simpa using inner
  ·refine QEs (fun r'=>r'=QaO (YX m)) m _ _ _ ⟨fun h=>by simp at h;omega,fun _=>?_⟩
   rw [List.take_length,sc1 (by omega)]
   rw [Qen] at ih
   exact ih
  ·intro j hj ih2
   have hd:=idx (r:=j) (R:=m.1) (C:=m.2.1) (by omega) (by omega) (by omega)
   refine QEs (fun r'=>r'=QaO (YX m)) m _ _ _ ⟨fun _=>?_,fun h=>by simp at h;omega⟩
   rw [Qq (x:=(j:Int)*m.2.1) (by omega) (by omega),Qq (x:=(j:Int)*m.2.1+(k:Int)) (by omega) (by omega),sc1 (by omega),Q7]
   rw [QgS,← List.append_assoc] at ih2
   exact ⟨⟨⟨by omega,by omega⟩,room (by rw [List.length_append];simp only [List.length_map,List.length_range];omega)⟩,ih2⟩
theorem QN0:Qg Tryz.prog QlN:=Qk fun x _=>QNf x.1
def QhA (t:(List Int) × Bool):TRes:=zra (.tp [(zcs [TI] t.1),(zcb t.2)])
def Qqi:TRow:=Qh 218 [(.a [TI,TI,(.sl [TI])]),(.c (.sl [TI]))] fun x=>(none,QhA (Zw x.1 x.2.1))
def QMc:List TRow:=[QfS,Qaa,QlN,QjL]
def QKQ:TCode :=
 (zsq [(.reg [zop 2 (.box 185 0 3),zmv 4 (.k (.n [TI])),zmv 5 (zkb false)]),(zsq [(.reg [zLd 6 2 3,zca 7 233 [6],zno 8 7,zmv 9 8,.grp 9 false [zmv 10 1,zfa 11 2 0,zld 12 11 1,zca 13 114 [10,12],zno 14 13] 15 14]),(.cond 15 (zsq [(.reg [zmv 4 (.k (.n [TI])),zmv 5 (zkb false)]),.ret]) .skip)]),(.reg [zLd 16 2 3,zca 17 235 [16],zmv 18 1,zca 19 211 [17,18],zex 20 19 0,zex 21 19 1,zmv 4 20,zmv 5 21]),.ret])
def QXj:List (ARv × Md):=[(.t 4,.one .d),(.t 5,.one .d)]
theorem QHM (m:TMat) (d:List Int) (h :
 (zif ((!(ZA m))||(!(Qt d m.1))) (K (QhA ([],false))) (K (QhA ((Zo (YX m) d).1,(Zo (YX m) d).2))))):Hold (tawp QMc (0+0) QKQ (TQ 0 0 QXj K) (Qf [(.a [(.c TI m.1),(.c TI m.2.1),(.c (.sl [TI]) m.2.2)]),(.c (.sl [TI]) d)])) :=
 Hold.of (by kernel_rfl) h
theorem QWe (m:TMat) (d:List Int):TCon Tryz.prog 218 [(.a [(.c TI m.1),(.c TI m.2.1),(.c (.sl [TI]) m.2.2)]),(.c (.sl [TI]) d)] (QhA (Zw m d)):=by
 refine Qo rfl fun hb=>tcg (n:=22) (sg:=Qqi.sg) Qj (TOk.cons Qqk (TOk.cons Qay (TOk.cons QN0 (TOk.cons Qw9 TOk.nil)))) (by kernel_rfl) (by kernel_rfl) (QHM _ m d ?_)
 have hl_m_2:(m.2.2).length≤9223372036854775807:=hb.1.2.2.1.1
 have hl_d:d.length≤9223372036854775807:=hb.2.1.1
 refine ⟨fun h=>R_eq (by rw [Qv4];intro h2;simp [h2.1,h2.2] at h),fun h=>?_⟩
 have hp:ZA m=true∧Qt d m.1=true:=by simpa using h
 exact R_eq (QM6 hp.1 hp.2)
theorem Q07:Qg Tryz.prog Qqi:=Qk fun x _=>QWe x.1 x.2.1
def Qdz (t:(List Int) × Bool):TRes:=zra (.tp [(zcs [TI] t.1),(zcb t.2)])
def Qqx:TRow:=Qh 231 [(.a [TI,TI,(.sl [TI])]),(.c (.sl [TI]))] fun x=>(none,Qdz (Zw x.1 x.2.1))
def Qr7:List TRow:=[QhT,Jd,QlJ,Qe6]
def QCw:TCode :=
 (zsq [(zsq [(.reg [zmv 28 8,zfa 29 2 1,zld 30 29 1,zbi 31 .lss 28 30]),(.cond 31 .skip (.exit 0))]),(.block 1 (zsq [(.reg [zLd 35 2 3,zmv 36 8,zca 37 240 [35,36],zmv 38 1,zca 39 206 [37,38],zmv 34 39,zex 40 34 0,zex 41 34 1,zmv 9 40,zmv 10 41]),(.reg [zmv 42 6,zmv 43 9,zop 44 (.bsl 3 [TI] [43]),zop 45 (.app 42 44 3 [TI]),zmv 6 45]),(.reg [zmv 46 7,zmv 47 46,.grp 47 false [zmv 48 10] 49 48,zmv 7 49])])),(.reg [zmv 32 8,zbi 33 .add 32 (zki 1),zmv 8 33])])
def Qwp:List (Nat × Md):=[(1,.one .d),(2,.b [.d,.d,.d]),(6,.one .f),(7,.one .d),(8,.one .d)]
def QFD:TCode :=
 (zsq [(.reg [zmv 50 6,zmv 51 7,zmv 4 50,zmv 5 51]),.ret])
def Q0A:TCode :=
 (zsq [(.reg [zop 2 (.box 185 0 3),zmv 4 (.k (.n [TI])),zmv 5 (zkb false)]),(.reg [zop 11 (.bsl 3 [TI] []),zmv 6 11]),(.reg [zmv 7 (zkb false)]),(zsq [(.reg [zLd 12 2 3,zca 13 236 [12],zno 14 13,zmv 15 14,.grp 15 false [zmv 16 1,zca 17 42 [16],zno 18 17] 19 18,zmv 20 19,.grp 20 false [zmv 21 1,zle 22 21,zfa 23 2 0,zld 24 23 1,zbi 25 .neq 22 24] 26 25]),(.cond 26 (zsq [(.reg [zmv 27 6,zmv 4 27,zmv 5 (zkb false)]),.ret]) .skip)]),(zsq [(.reg [zmv 8 (zki 0)]),(.block 0 (.loop Qwp QCw))]),QFD])
def QuD:List (ARv × Md):=[(.t 4,.one .d),(.t 5,.one .d)]
def QBW:Qb:=TQ 0 0 QuD K
def QMw:Qb:=Qseq (tawp Qr7 0 QFD (QBW K)) (QBW K)
def QIf:Qb:=Qblk 0 (QMw K)
def Qh1 (m:TMat) (d:List Int) (sat:Bool) (k:Int) (out:List Int):Prop:=Loop Qr7 0 Qwp QCw (QIf K) ⟨[(1,(zcs [TI] d)),(2,(.p 0 0 0)),(6,(.r [TI] 1 0 out.length)),(7,(zcb sat)),(8,(zci k))],[(0,(.box [(zci m.1),(zci m.2.1),(zcs [TI] m.2.2)])),(1,(.sl 3 [TI] true out))],2⟩
theorem QG3 (m:TMat) (d:List Int) (sat:Bool) (k:Int) (out:List Int) (h :
 (zif (decide (k<m.2.1)) ((Qpc m k)∧(((out.length=out.length∨out.length+1≤out.length)∧out.length+1≤big)∧(Qh1 K m d (sat||((Q3 (Yd m k) d).2)) (w64 (k+(1:Int))) (List.take (out.length+1) ((List.take out.length out)++([(Q3 (Yd m k) d).1])))))) (K (Qdz ((List.take out.length (List.drop 0 out)),sat))))):Qh1 K m d sat k out :=
 Loop.of (by kernel_rfl) h
theorem QMN (m:TMat) (d:List Int) (h :
 (zif (((!(ZA m))||(!(QN d)))||((d.length:Int) != m.1)) (K (Qdz (([]:List Int),false))) (Qh1 K m d false 0 ([]:List Int)))):Hold (tawp Qr7 (0+0) Q0A (TQ 0 0 QuD K) (Qf [(.a [(.c TI m.1),(.c TI m.2.1),(.c (.sl [TI]) m.2.2)]),(.c (.sl [TI]) d)])) :=
 Hold.of (by kernel_rfl) h
theorem QM5 (m:TMat) (d:List Int):TCon Tryz.prog 231 [(.a [(.c TI m.1),(.c TI m.2.1),(.c (.sl [TI]) m.2.2)]),(.c (.sl [TI]) d)] (Qdz (Zw m d)):=by
 refine Qo rfl fun hb=>tcg (n:=52) (sg:=Qqx.sg) Qj (TOk.cons Qtd (TOk.cons Jw (TOk.cons QT1 (TOk.cons QhI TOk.nil)))) (by kernel_rfl) (by kernel_rfl) (QMN _ m d ?_)
 have hl_m_2:(m.2.2).length≤9223372036854775807:=hb.1.2.2.1.1
 have hl_d:d.length≤9223372036854775807:=hb.2.1.1
 have hg:∀ n:Int,(!(QN d)||((d.length:Int) != n)) = !(Qt d n):=fun n=>by unfold Qt;simp [bne]
 rw [Bool.or_assoc,hg]
 refine ⟨fun h=>R_eq (by rw [Qv4];intro h2;simp [h2.1,h2.2] at h),fun h=>?_⟩
 have hp:ZA m=true∧Qt d m.1=true:=by simpa using h
 obtain ⟨h1,h2,h3,h4,h5,h6,h7⟩:=Qdj hp.1
 have hv:(Zw m d)=((List.range m.2.1.toNat).map fun k:Nat=>(Q3 (Yd m k) d).1,(List.range m.2.1.toNat).any fun k:Nat=>(Q3 (Yd m k) d).2):=by unfold Zw;rw [if_pos (by simp [hp])]
 refine Y7 m.2.1.toNat (fun j=>Qh1 (fun r'=>r'=Qdz (Zw m d)) m d ((List.range j).any fun k:Nat=>(Q3 (Yd m k) d).2) (j:Int) ((List.range j).map fun k:Nat=>(Q3 (Yd m k) d).1)) ?_ ?_
 ·refine QG3 (fun r'=>r'=Qdz (Zw m d)) m d _ _ _ ⟨fun h=>by simp at h;omega,fun _=>R_eq ?_⟩
  rw [hv,List.drop_zero,List.take_length]
 ·intro j hj ih
  refine QG3 (fun r'=>r'=Qdz (Zw m d)) m d _ _ _ ⟨fun _=>?_,fun h=>by simp at h;omega⟩
  rw [sc1 (by omega),Q7]
  rw [QgS,Qro] at ih
  exact ⟨⟨by omega,by omega,by omega,by omega,by omega,h5⟩,room (by simp;omega),ih⟩
theorem QVd:Qg Tryz.prog Qqx:=Qk fun x _=>QM5 x.1 x.2.1
def QaT (t:TMat × Bool):TRes:=zra (.tp [(.a [(zci t.1.1),(zci t.1.2.1),(zcs [TI] t.1.2.2)]),(zcb t.2)])
def Qre:TRow:=Qh 219 [(.c (.sl [TI])),(.c (.sl [TI]))] fun x=>(none,QaT (Zm x.1 x.2.1))
def QeH:List TRow:=[Qbi,QfK]
def QtF:TCode :=
 (zsq [(.reg [zbi 37 .lss 36 35]),(.cond 37 .skip (.exit 2)),(.block 3 (zsq [(.reg [zia 38 34 36 [TI],zld 39 38 1,zmv 11 39]),(.reg [zmv 41 9,zmv 42 11,zca 43 216 [41,42],zmv 40 43,zex 44 40 0,zex 45 40 1,zmv 12 44,zmv 13 45]),(.reg [zfa 46 6 2,zld 47 46 1,zmv 48 12,zop 49 (.bsl 3 [TI] [48]),zop 50 (.app 47 49 3 [TI]),zfa 51 6 2,zst 51 50 1]),(.reg [zmv 52 7,zmv 53 52,.grp 53 false [zmv 54 13] 55 54,zmv 7 55])])),(.reg [zbi 56 .add 36 (zki 1),zmv 36 56])])
def Qti:List (Nat × Md):=[(1,.one .d),(4,.b [.d,.d,.d]),(6,.b [.d,.d,.f]),(7,.one .d),(9,.one .d),(28,.one .d),(29,.one .d),(30,.one .d),(34,.one .d),(35,.one .d),(36,.one .d)]
def QAl:TCode :=
 (.reg [zbi 57 .add 30 (zki 1),zmv 30 57])
def Qne:TCode :=
 (zsq [(.reg [zbi 31 .lss 30 29]),(.cond 31 .skip (.exit 0)),(.block 1 (zsq [(.reg [zia 32 28 30 [TI],zld 33 32 1,zmv 9 33]),(.reg [zmv 34 1,zle 35 34,zmv 36 (zki 0)]),(.block 2 (.loop Qti QtF))])),QAl])
def Qkv:List (Nat × Md):=[(1,.one .d),(4,.b [.d,.d,.d]),(6,.b [.d,.d,.o 3]),(7,.one .d),(28,.one .d),(29,.one .d),(30,.one .d)]
def QtH:TCode :=
 (zsq [(.reg [zLd 58 6 3,zmv 59 7,zst 4 58 3,zmv 5 59]),.ret])
def QXa:TCode :=
 (zsq [(.reg [zop 4 (.new 185 (z0s [TI,TI,(.sl [TI])])),zmv 5 (zkb false)]),(zsq [(.reg [zmv 14 0,zca 15 134 [14],zno 16 15,zmv 17 16,.grp 17 false [zmv 18 1,zca 19 134 [18],zno 20 19] 21 20]),(.cond 21 (zsq [(.reg [zop 22 (.build (z0s [TI,TI,(.sl [TI])]) []),zst 4 22 3,zmv 5 (zkb false)]),.ret]) .skip)]),(.reg [zmv 23 0,zle 24 23,zmv 25 1,zle 26 25,zop 27 (.build (z0s [TI,TI,(.sl [TI])]) [(0,1,24),(1,1,26)]),zop 6 (.new 185 (z0s [TI,TI,(.sl [TI])])),zst 6 27 3]),(.reg [zmv 7 (zkb false)]),(zsq [(.reg [zmv 28 0,zle 29 28,zmv 30 (zki 0)]),(.block 0 (.loop Qkv Qne))]),QtH])
def QBw:List (ARv × Md):=[(.l 4 3 true,.b [.d,.d,.d]),(.t 5,.one .d)]
def Qr8:Qb:=TQ 0 0 QBw K
def QLS:Qb:=Qseq (tawp QeH 0 QtH (Qr8 K)) (Qr8 K)
def Qmm:Qb:=Qblk 0 (QLS K)
def QBU:Qb:=Qseq (fun s'=>Loop QeH 0 Qkv Qne (Qmm K) (gc 0 Qkv s')) (Qmm K)
def QWU:Qb:=Qseq (tawp QeH 0 QAl (QBU K)) (QBU K)
def QVl:Qb:=Qblk 1 (QWU K)
def QLi:Qb:=Qblk 2 (QVl K)
def Qhz (d:List Int) (x:List Int) (out:Bool) (x1:Int) (m2:List Int) (x2:Int):Prop:=Loop QeH 0 Qti QtF (QLi K) ⟨[(1,(zcs [TI] x)),(4,(.p 0 0 0)),(6,(.p 2 0 0)),(7,(zcb out)),(9,(zci (gtd (0:Int) d (Int.toNat x2)))),(28,(zcs [TI] d)),(29,(zci (d.length:Int))),(30,(zci x2)),(34,(zcs [TI] x)),(35,(zci (x.length:Int))),(36,(zci x1))],[(0,(.box [(zci 0),(zci 0),(zcs [TI] ([]))])),(1,(.sl 3 [TI] true m2)),(2,(.box [(zci (d.length:Int)),(zci (x.length:Int)),(.r [TI] 1 0 m2.length)]))],3⟩
def Qiz (d:List Int) (x:List Int) (out1:Bool) (x2:Int) (m21:List Int):Prop:=Loop QeH 0 Qkv Qne (Qmm K) ⟨[(1,(zcs [TI] x)),(4,(.p 0 0 0)),(6,(.p 2 0 0)),(7,(zcb out1)),(28,(zcs [TI] d)),(29,(zci (d.length:Int))),(30,(zci x2))],[(0,(.box [(zci 0),(zci 0),(zcs [TI] ([]))])),(1,(.sl 3 [TI] true m21)),(2,(.box [(zci (d.length:Int)),(zci (x.length:Int)),(.r [TI] 1 0 m21.length)]))],3⟩
theorem QvW (d:List Int) (x:List Int) (out:Bool) (x1:Int) (m2:List Int) (x2:Int) (h :
 (zif (decide (x1<(x.length:Int))) (((0:Int)≤x1∧Int.toNat x1<x.length)∧(((m2.length=m2.length∨m2.length+1≤m2.length)∧m2.length+1≤big)∧(Qhz K d x (out||((Zq (gtd (0:Int) d (Int.toNat x2)) (gtd (0:Int) x (Int.toNat x1))).2)) (w64 (x1+(1:Int))) (List.take (m2.length+1) ((List.take m2.length m2)++([(Zq (gtd (0:Int) d (Int.toNat x2)) (gtd (0:Int) x (Int.toNat x1))).1]))) x2))) (Qiz K d x out (w64 (x2+(1:Int))) (List.take m2.length m2)))):Qhz K d x out x1 m2 x2 :=
 Loop.of (by kernel_rfl) h
theorem Qzq (d:List Int) (x:List Int) (out1:Bool) (x2:Int) (m21:List Int) (h :
 (zif (decide (x2<(d.length:Int))) (((0:Int)≤x2∧Int.toNat x2<d.length)∧(Qhz K d x out1 0 (List.take m21.length m21) x2)) (K (QaT (((d.length:Int),(x.length:Int),(List.take m21.length (List.drop 0 m21))),out1))))):Qiz K d x out1 x2 m21 :=
 Loop.of (by kernel_rfl) h
theorem QPv (d:List Int) (x:List Int) (h :
 (zif ((!(QN d))||(!(QN x))) (K (QaT (((0:Int),(0:Int),[]),false))) (Qiz K d x false 0 ([]:List Int)))):Hold (tawp QeH (0+0) QXa (TQ 0 0 QBw K) (Qf [(.c (.sl [TI]) d),(.c (.sl [TI]) x)])) :=
 Hold.of (by kernel_rfl) h
theorem QLJ (d:List Int) (x:List Int):TCon Tryz.prog 219 [(.c (.sl [TI]) d),(.c (.sl [TI]) x)] (QaT (Zm d x)):=by
 refine Qo rfl fun hb=>tcg (n:=60) (sg:=Qre.sg) Qj (TOk.cons QdL (TOk.cons QmB TOk.nil)) (by kernel_rfl) (by kernel_rfl) (QPv _ d x ?_)
 have hl_d:d.length≤9223372036854775807:=hb.1.1
 have hl_x:x.length≤9223372036854775807:=hb.2.1.1
 refine ⟨fun h=>R_eq (by unfold Zm;rw [if_neg (by simpa [Classical.or_iff_not_imp_left] using h)]),fun h=>?_⟩
 have hp:QN d=true∧QN x=true:=by simpa using h
 have h6:=(Z5.1 hp.1).1
 have h7:=(Z5.1 hp.2).1
 refine Zk d (fun r j=>∀ (v:List Int) (z:Bool),v.length≤6*j→((((d.length:Int),(x.length:Int),v++r.flatMap fun a=>x.map fun b=>(Zq a b).1),z||r.any fun a=>x.any fun b=>(Zq a b).2):TMat × Bool)=(Zm d x)→Qiz (fun r'=>r'=QaT (Zm d x)) d x z j v) ?_ ?_ [] false (Nat.zero_le _) (by unfold Zm;rw [if_pos (by simp [hp])];simp)
 ·intro v z hv he
  refine Qzq (fun r'=>r'=QaT (Zm d x)) d x _ _ _ ⟨fun h=>by simp at h,fun _=>R_eq ?_⟩
  rw [← he];simp
 ·intro j y r hj hlt hg ih v z hv he
  refine Qzq (fun r'=>r'=QaT (Zm d x)) d x _ _ _ ⟨fun _=>?_,fun h=>by simp at h;omega⟩
  rw [List.take_length]
  refine ⟨⟨by omega,by omega⟩,Zk x (fun r2 k=>∀ (v2:List Int) (z2:Bool),v2.length=v.length+k→v2++r2.map (fun b=>(Zq y b).1)=v++x.map (fun b=>(Zq y b).1)→(z2||r2.any fun b=>(Zq y b).2)=(z||x.any fun b=>(Zq y b).2)→Qhz (fun r'=>r'=QaT (Zm d x)) d x z2 k v2 j) ?_ ?_ v z (by omega) rfl rfl⟩
  ·intro v2 z2 hv2 he2 hz2
   refine QvW (fun r'=>r'=QaT (Zm d x)) d x _ _ _ _ ⟨fun h=>by simp at h,fun _=>?_⟩
   rw [List.take_length,sc1 (by omega)]
   simp only [List.map_nil,List.append_nil,List.any_nil,Bool.or_false] at he2 hz2
   refine ih _ _ (by rw [hv2];omega) ?_
   rw [← he,he2,hz2];simp [Bool.or_assoc]
  ·intro k w r2 hk hlt2 hg2 ih2 v2 z2 hv2 he2 hz2
   refine QvW (fun r'=>r'=QaT (Zm d x)) d x _ _ _ _ ⟨fun _=>?_,fun h=>by simp at h;omega⟩
   rw [Int.toNat_natCast,Int.toNat_natCast,hg,hg2,sc1 (by omega),Q7]
   refine ⟨⟨by omega,by omega⟩,room (by omega),ih2 _ _ (by simp;omega) ?_ ?_⟩
   ·rw [← he2];simp
   ·rw [← hz2];simp [Bool.or_assoc]
theorem QUT:Qg Tryz.prog Qre:=Qk fun x _=>QLJ x.1 x.2.1
def Qa2 (t:TMat × Bool):TRes:=zra (.tp [(.a [(zci t.1.1),(zci t.1.2.1),(zcs [TI] t.1.2.2)]),(zcb t.2)])
def Qqc:TRow:=Qh 232 [(.c (.sl [TI])),(.c (.sl [TI]))] fun x=>(none,Qa2 (Zm x.1 x.2.1))
def Qe3:List TRow:=[Jd,QfG]
def QGg:TCode :=
 (zsq [(zsq [(.reg [zmv 32 9,zmv 33 1,zle 34 33,zbi 35 .lss 32 34]),(.cond 35 .skip (.exit 2))]),(.block 3 (zsq [(.draw [zmv 39 0,zmv 40 8,zia 41 39 40 [TI],zld 42 41 1,zmv 43 1,zmv 44 9,zia 45 43 44 [TI],zld 46 45 1,zca 47 229 [42,46],zmv 38 47,zex 48 38 0,zex 49 38 1,zmv 10 48,zmv 11 49] []),(.reg [zfa 50 6 2,zld 51 50 1,zmv 52 10,zop 53 (.bsl 3 [TI] [52]),zop 54 (.app 51 53 3 [TI]),zfa 55 6 2,zst 55 54 1]),(.reg [zmv 56 7,zmv 57 56,.grp 57 false [zmv 58 11] 59 58,zmv 7 59])])),(.reg [zmv 36 9,zbi 37 .add 36 (zki 1),zmv 9 37])])
def Qzv:List (Nat × Md):=[(0,.one .d),(1,.one .d),(4,.b [.d,.d,.d]),(6,.b [.d,.d,.f]),(7,.one .d),(8,.one .d),(9,.one .d)]
def QDr:TCode :=
 (.reg [zmv 30 8,zbi 31 .add 30 (zki 1),zmv 8 31])
def QnN:TCode :=
 (zsq [(zsq [(.reg [zmv 26 8,zmv 27 0,zle 28 27,zbi 29 .lss 26 28]),(.cond 29 .skip (.exit 0))]),(.block 1 (zsq [(.reg [zmv 9 (zki 0)]),(.block 2 (.loop Qzv QGg))])),QDr])
def Qg7:List (Nat × Md):=[(0,.one .d),(1,.one .d),(4,.b [.d,.d,.d]),(6,.b [.d,.d,.o 3]),(7,.one .d),(8,.one .d)]
def QEt:TCode :=
 (zsq [(.reg [zLd 60 6 3,zmv 61 7,zst 4 60 3,zmv 5 61]),.ret])
def QK0:TCode :=
 (zsq [(.reg [zop 4 (.new 185 (z0s [TI,TI,(.sl [TI])])),zmv 5 (zkb false)]),(zsq [(.reg [zmv 12 0,zca 13 42 [12],zno 14 13,zmv 15 14,.grp 15 false [zmv 16 1,zca 17 42 [16],zno 18 17] 19 18]),(.cond 19 (zsq [(.reg [zop 20 (.build (z0s [TI,TI,(.sl [TI])]) []),zst 4 20 3,zmv 5 (zkb false)]),.ret]) .skip)]),(.reg [zmv 21 0,zle 22 21,zmv 23 1,zle 24 23,zop 25 (.build (z0s [TI,TI,(.sl [TI])]) [(0,1,22),(1,1,24)]),zop 6 (.new 185 (z0s [TI,TI,(.sl [TI])])),zst 6 25 3]),(.reg [zmv 7 (zkb false)]),(zsq [(.reg [zmv 8 (zki 0)]),(.block 0 (.loop Qg7 QnN))]),QEt])
def QEi:List (ARv × Md):=[(.l 4 3 true,.b [.d,.d,.d]),(.t 5,.one .d)]
def Qt1:Qb:=TQ 0 0 QEi K
def QL7:Qb:=Qseq (tawp Qe3 0 QEt (Qt1 K)) (Qt1 K)
def QrC:Qb:=Qblk 0 (QL7 K)
def QEz:Qb:=Qseq (fun s'=>Loop Qe3 0 Qg7 QnN (QrC K) (gc 0 Qg7 s')) (QrC K)
def QZA:Qb:=Qseq (tawp Qe3 0 QDr (QEz K)) (QEz K)
def QId:Qb:=Qblk 1 (QZA K)
def Q0e:Qb:=Qblk 2 (QId K)
def QjX (d:List Int) (x:List Int) (sat:Bool) (k:Int) (m2:List Int) (i:Int):Prop:=Loop Qe3 0 Qzv QGg (Q0e K) ⟨[(0,(zcs [TI] d)),(1,(zcs [TI] x)),(4,(.p 0 0 0)),(6,(.p 2 0 0)),(7,(zcb sat)),(8,(zci i)),(9,(zci k))],[(0,(.box [(zci 0),(zci 0),(zcs [TI] ([]))])),(1,(.sl 3 [TI] true m2)),(2,(.box [(zci (d.length:Int)),(zci (x.length:Int)),(.r [TI] 1 0 m2.length)]))],3⟩
def QhC (d:List Int) (x:List Int) (sat1:Bool) (i:Int) (m21:List Int):Prop:=Loop Qe3 0 Qg7 QnN (QrC K) ⟨[(0,(zcs [TI] d)),(1,(zcs [TI] x)),(4,(.p 0 0 0)),(6,(.p 2 0 0)),(7,(zcb sat1)),(8,(zci i))],[(0,(.box [(zci 0),(zci 0),(zcs [TI] ([]))])),(1,(.sl 3 [TI] true m21)),(2,(.box [(zci (d.length:Int)),(zci (x.length:Int)),(.r [TI] 1 0 m21.length)]))],3⟩
theorem QG5 (d:List Int) (x:List Int) (sat:Bool) (k:Int) (m2:List Int) (i:Int) (h :
 (zif (decide (k<(x.length:Int))) ((((0:Int)≤i∧Int.toNat i<d.length)∧((0:Int)≤k∧Int.toNat k<x.length))∧(((m2.length=m2.length∨m2.length+1≤m2.length)∧m2.length+1≤big)∧(QjX K d x (sat||((Zq (gtd (0:Int) d (Int.toNat i)) (gtd (0:Int) x (Int.toNat k))).2)) (w64 (k+(1:Int))) (List.take (m2.length+1) ((List.take m2.length m2)++([(Zq (gtd (0:Int) d (Int.toNat i)) (gtd (0:Int) x (Int.toNat k))).1]))) i))) (QhC K d x sat (w64 (i+(1:Int))) (List.take m2.length m2)))):QjX K d x sat k m2 i :=
 Loop.of (by kernel_rfl) h
theorem QyP (d:List Int) (x:List Int) (sat1:Bool) (i:Int) (m21:List Int) (h :
 (zif (decide (i<(d.length:Int))) (QjX K d x sat1 0 (List.take m21.length m21) i) (K (Qa2 (((d.length:Int),(x.length:Int),(List.take m21.length (List.drop 0 m21))),sat1))))):QhC K d x sat1 i m21 :=
 Loop.of (by kernel_rfl) h
theorem Q2F (d:List Int) (x:List Int) (h :
 (zif ((!(QN d))||(!(QN x))) (K (Qa2 (((0:Int),(0:Int),[]),false))) (QhC K d x false 0 ([]:List Int)))):Hold (tawp Qe3 (0+0) QK0 (TQ 0 0 QEi K) (Qf [(.c (.sl [TI]) d),(.c (.sl [TI]) x)])) :=
 Hold.of (by kernel_rfl) h
theorem QK7 (d:List Int) (x:List Int):TCon Tryz.prog 232 [(.c (.sl [TI]) d),(.c (.sl [TI]) x)] (Qa2 (Zm d x)):=by
 refine Qo rfl fun hb=>tcg (n:=62) (sg:=Qqc.sg) Qj (TOk.cons Jw (TOk.cons Qqw TOk.nil)) (by kernel_rfl) (by kernel_rfl) (Q2F _ d x ?_)
 have hl_d:d.length≤9223372036854775807:=hb.1.1
 have hl_x:x.length≤9223372036854775807:=hb.2.1.1
 refine ⟨fun h=>R_eq (by unfold Zm;rw [if_neg (by simpa [Classical.or_iff_not_imp_left] using h)]),fun h=>?_⟩
 have hp:QN d=true∧QN x=true:=by simpa using h
 have h6:=(Z5.1 hp.1).1
 have h7:=(Z5.1 hp.2).1
 refine Zk d (fun r j=>∀ (v:List Int) (z:Bool),v.length≤6*j→((((d.length:Int),(x.length:Int),v++r.flatMap fun a=>x.map fun b=>(Zq a b).1),z||r.any fun a=>x.any fun b=>(Zq a b).2):TMat × Bool)=(Zm d x)→QhC (fun r'=>r'=Qa2 (Zm d x)) d x z j v) ?_ ?_ [] false (Nat.zero_le _) (by unfold Zm;rw [if_pos (by simp [hp])];simp)
 ·intro v z hv he
  refine QyP (fun r'=>r'=Qa2 (Zm d x)) d x _ _ _ ⟨fun h=>by simp at h,fun _=>R_eq ?_⟩
  rw [← he];simp
 ·intro j y r hj hlt hg ih v z hv he
  refine QyP (fun r'=>r'=Qa2 (Zm d x)) d x _ _ _ ⟨fun _=>?_,fun h=>by simp at h;omega⟩
  rw [List.take_length]
  refine Zk x (fun r2 k=>∀ (v2:List Int) (z2:Bool),v2.length=v.length+k→v2++r2.map (fun b=>(Zq y b).1)=v++x.map (fun b=>(Zq y b).1)→(z2||r2.any fun b=>(Zq y b).2)=(z||x.any fun b=>(Zq y b).2)→QjX (fun r'=>r'=Qa2 (Zm d x)) d x z2 k v2 j) ?_ ?_ v z (by omega) rfl rfl
  ·intro v2 z2 hv2 he2 hz2
   refine QG5 (fun r'=>r'=Qa2 (Zm d x)) d x _ _ _ _ ⟨fun h=>by simp at h,fun _=>?_⟩
   rw [List.take_length,sc1 (by omega)]
   simp only [List.map_nil,List.append_nil,List.any_nil,Bool.or_false] at he2 hz2
   refine ih _ _ (by rw [hv2];omega) ?_
   rw [← he,he2,hz2];simp [Bool.or_assoc]
  ·intro k w r2 hk hlt2 hg2 ih2 v2 z2 hv2 he2 hz2
   refine QG5 (fun r'=>r'=Qa2 (Zm d x)) d x _ _ _ _ ⟨fun _=>?_,fun h=>by simp at h;omega⟩
   rw [Int.toNat_natCast,Int.toNat_natCast,hg,hg2,sc1 (by omega),Q7]
   refine ⟨⟨⟨by omega,by omega⟩,by omega,by omega⟩,room (by omega),ih2 _ _ (by simp;omega) ?_ ?_⟩
   ·rw [← he2];simp
   ·rw [← hz2];simp [Bool.or_assoc]
theorem QH3:Qg Tryz.prog Qqc:=Qk fun x _=>QK7 x.1 x.2.1
def QqC (t:TMat):TRes:=zra (.a [(zci t.1),(zci t.2.1),(zcs [TI] t.2.2)])
def Qi7:TRow:=Qh 212 [(.a ctOp)] fun x=>(none,QqC (Q5 x.1))
def QTS:List TRow:=[]
def Q2I:TCode :=
 (zsq [(.reg [zop 1 (.box 69 0 4),zop 2 (.new 185 (z0s [TI,TI,(.sl [TI])]))]),(.reg [zfa 3 1 2,zld 4 3 1,zfa 5 1 1,zld 6 5 1,zfa 7 1 3,zld 8 7 1,zop 9 (.build (z0s [TI,TI,(.sl [TI])]) [(0,1,4),(1,1,6),(2,1,8)]),zst 2 9 3]),.ret])
def QJJ:List (ARv × Md):=[(.l 2 3 true,.b [.d,.d,.d])]
theorem QX8 (o:TOp') (h :
 K (QqC (o.2.2.1,o.2.1,o.2.2.2))):Hold (tawp QTS (0+0) Q2I (TQ 0 0 QJJ K) (Qf [(.a (Tup.cells ctOp o))])) :=
 Hold.of (by kernel_rfl) h
theorem QTw (o:TOp'):TCon Tryz.prog 212 [(.a (Tup.cells ctOp o))] (QqC (Q5 o)):=by
 refine Qo rfl fun hb=>tcg (n:=10) (sg:=Qi7.sg) Qj TOk.nil (by kernel_rfl) (by kernel_rfl) (QX8 _ o ?_)
 have hl_o_3:(o.2.2.2).length≤9223372036854775807:=hb.1.2.2.2.1.1
 exact R_eq rfl
theorem QDt:Qg Tryz.prog Qi7:=Qk fun x _=>QTw x.1
def Qrf (t:TMat):TRes:=zra (.a [(zci t.1),(zci t.2.1),(zcs [TI] t.2.2)])
def Qks:TRow:=Qh 225 [(.a ctOp)] fun x=>(none,Qrf (Q5 x.1))
def Q2O:List TRow:=[]
def QOC:TCode :=
 (zsq [(.reg [zop 1 (.box 69 0 4),zop 2 (.new 185 (z0s [TI,TI,(.sl [TI])]))]),(.reg [zfa 3 1 2,zld 4 3 1,zfa 5 1 1,zld 6 5 1,zfa 7 1 3,zld 8 7 1,zop 9 (.build (z0s [TI,TI,(.sl [TI])]) [(0,1,4),(1,1,6),(2,1,8)]),zst 2 9 3]),.ret])
def QYM:List (ARv × Md):=[(.l 2 3 true,.b [.d,.d,.d])]
theorem QHv (o:TOp') (h :
 K (Qrf (o.2.2.1,o.2.1,o.2.2.2))):Hold (tawp Q2O (0+0) QOC (TQ 0 0 QYM K) (Qf [(.a (Tup.cells ctOp o))])) :=
 Hold.of (by kernel_rfl) h
theorem Q0g (o:TOp'):TCon Tryz.prog 225 [(.a (Tup.cells ctOp o))] (Qrf (Q5 o)):=by
 refine Qo rfl fun hb=>tcg (n:=10) (sg:=Qks.sg) Qj TOk.nil (by kernel_rfl) (by kernel_rfl) (QHv _ o ?_)
 have hl_o_3:(o.2.2.2).length≤9223372036854775807:=hb.1.2.2.2.1.1
 exact R_eq rfl
theorem QB1:Qg Tryz.prog Qks:=Qk fun x _=>Q0g x.1
end
end Go.Proofs.YtjbdljkhbglnhaaGreat.Am

