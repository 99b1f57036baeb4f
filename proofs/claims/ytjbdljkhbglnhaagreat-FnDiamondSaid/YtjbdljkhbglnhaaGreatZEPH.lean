/- -/
import Derived.Test.YtjbdljkhbglnhaaGreatZEP1
import Derived.Test.YtjbdljkhbglnhaaGreatZEPG
import Derived.Test.YtjbdljkhbglnhaaGreatZEPF
namespace Go.Proofs.YtjbdljkhbglnhaaGreat.Am
open Go Go.RowKit Go.Proofs.YtjbdljkhbglnhaaGreat
set_option linter.all false
noncomputable section
variable (K:TRes→Prop)
def Qgy (t:Bool):TRes:=zre (zcb t)
def QeW:TRow:=Qk 233 [(.a [TI,TI,(.sl [TI])])] fun x=>(none,Qgy (Zy x.1))
def QFS:List TRow:=[QfY]
def QXR:TCode :=
 (zsq [(.reg [zop 1 (.box 185 0 3),zmv 2 (zkb false)]),(zsq [(.reg [zfa 3 1 0,zld 4 3 1,zbi 5 .lss 4 (zki 1),zmv 6 5,.grp 6 false [zfa 7 1 0,zld 8 7 1,zbi 9 .gtr 8 (zki 6)] 10 9,zmv 11 10,.grp 11 false [zfa 12 1 1,zld 13 12 1,zbi 14 .lss 13 (zki 1)] 15 14,zmv 16 15,.grp 16 false [zfa 17 1 1,zld 18 17 1,zbi 19 .gtr 18 (zki 6)] 20 19]),(.cond 20 (zsq [(.reg [zmv 2 (zkb false)]),.ret]) .skip)]),(.reg [zfa 21 1 2,zld 22 21 1,zle 23 22,zfa 24 1 0,zld 25 24 1,zfa 26 1 1,zld 27 26 1,zbi 28 .mul 25 27,zbi 29 .eql 23 28,zmv 30 29,.grp 30 true [zfa 31 1 2,zld 32 31 1,zca 33 195 [32]] 34 33,zmv 2 34]),.ret])
def QWL:List (ARv × Md):=[(.t 2,.one .d)]
theorem QL1 (m:TMat) (h :
 (zif ((((decide (m.1<(1:Int)))||(decide (m.1>(6:Int))))||(decide (m.2.1<(1:Int))))||(decide (m.2.1>(6:Int)))) (K (Qgy false)) (K (Qgy ((((m.2.2).length:Int)==(w64 (m.1*m.2.1)))&&(ZB m.2.2)))))):Hold (tawp QFS (0+0) QXR (TQ 0 0 QWL K) (Qg [(.a [(.c TI m.1),(.c TI m.2.1),(.c (.sl [TI]) m.2.2)])])) :=
 Hold.of (by kernel_rfl) h
theorem QT5 (m:TMat):TCon Tryz.prog 233 [(.a [(.c TI m.1),(.c TI m.2.1),(.c (.sl [TI]) m.2.2)])] (Qgy (Zy m)):=by
 refine Qo rfl fun hb=>tcg (n:=35) (sg:=QeW.sg) Qm (TOk.cons Qof TOk.nil) (by kernel_rfl) (by kernel_rfl) (QL1 _ m ?_)
 have hl_m_2:(m.2.2).length≤9223372036854775807:=hb.1.2.2.1.1
 refine ⟨fun h=>R_eq ?_,fun h=>R_eq ?_⟩
 ·have:(m_in m.1 1 6&&m_in m.2.1 1 6)=false:=by simp [m_in];simp at h;omega
  unfold Zy;rw [this];rfl
 ·have h':(1≤m.1∧m.1≤6)∧1≤m.2.1∧m.2.1≤6:=by simp at h;omega
  have hm:=Qdk h'.1.1 h'.1.2 h'.2.1 h'.2.2
  rw [Qr (x:=m.1*m.2.1) (by omega) (by omega)]
  unfold Zy
  rw [QT.2 h'.1,QT.2 h'.2];simp
theorem Qk1:Qj Tryz.prog QeW:=Qn fun x _=>QT5 x.1
def QbY (t:Bool):TRes:=zre (zcb t)
def Qjy:TRow:=Qk 236 [(.a [TI,TI,(.sl [TI])])] fun x=>(none,QbY (Zy x.1))
def Qpq:List TRow:=[YO,QdT]
def Qtz:TCode :=
 (zsq [(zsq [(.reg [zmv 25 3,zfa 26 1 2,zld 27 26 1,zle 28 27,zbi 29 .lss 25 28]),(.cond 29 .skip (.exit 0))]),(.block 1 (zsq [(.reg [zfa 32 1 2,zld 33 32 1,zmv 34 3,zia 35 33 34 [TI],zld 36 35 1,zca 37 110 [36],zno 38 37]),(.cond 38 (zsq [(.reg [zmv 2 (zkb false)]),.ret]) .skip)])),(.reg [zmv 30 3,zbi 31 .add 30 (zki 1),zmv 3 31])])
def QzF:List (Nat × Md):=[(1,.b [.d,.d,.d]),(3,.one .d)]
def Qul:TCode :=
 (zsq [(.reg [zmv 2 (zkb true)]),.ret])
def QK0:TCode :=
 (zsq [(.reg [zop 1 (.box 185 0 3),zmv 2 (zkb false)]),(zsq [(.reg [zfa 4 1 0,zld 5 4 1,zca 6 77 [5,(zki 1),(zki 6)],zno 7 6,zmv 8 7,.grp 8 false [zfa 9 1 1,zld 10 9 1,zca 11 77 [10,(zki 1),(zki 6)],zno 12 11] 13 12,zmv 14 13,.grp 14 false [zfa 15 1 2,zld 16 15 1,zle 17 16,zfa 18 1 0,zld 19 18 1,zfa 20 1 1,zld 21 20 1,zbi 22 .mul 19 21,zbi 23 .neq 17 22] 24 23]),(.cond 24 (zsq [(.reg [zmv 2 (zkb false)]),.ret]) .skip)]),(zsq [(.reg [zmv 3 (zki 0)]),(.block 0 (.loop QzF Qtz))]),Qul])
def QDj:List (ARv × Md):=[(.t 2,.one .d)]
def Qsx:Qb:=TQ 0 0 QDj K
def QLU:Qb:=Qseq (tawp Qpq 0 Qul (Qsx K)) (Qsx K)
def QGa:Qb:=Qblk 0 (QLU K)
def QnX (m:TMat) (i:Int):Prop:=Loop Qpq 0 QzF Qtz (QGa K) ⟨[(1,(.p 0 0 0)),(3,(zci i))],[(0,(.box [(zci m.1),(zci m.2.1),(zcs [TI] m.2.2)]))],1⟩
theorem QSa (m:TMat) (i:Int) (h :
 (zif (decide (i<((m.2.2).length:Int))) (((0:Int)≤i∧Int.toNat i<(m.2.2).length)∧(zif (!(Zc (gtd (0:Int) m.2.2 (Int.toNat i)))) (K (QbY false)) (QnX K m (w64 (i+(1:Int)))))) (K (QbY true)))):QnX K m i :=
 Loop.of (by kernel_rfl) h
theorem QVr (m:TMat) (h :
 (zif (((!(m_in m.1 (1:Int) (6:Int)))||(!(m_in m.2.1 (1:Int) (6:Int))))||(((m.2.2).length:Int) != (w64 (m.1*m.2.1)))) (K (QbY false)) (QnX K m 0))):Hold (tawp Qpq (0+0) QK0 (TQ 0 0 QDj K) (Qg [(.a [(.c TI m.1),(.c TI m.2.1),(.c (.sl [TI]) m.2.2)])])) :=
 Hold.of (by kernel_rfl) h
theorem QNu (m:TMat):TCon Tryz.prog 236 [(.a [(.c TI m.1),(.c TI m.2.1),(.c (.sl [TI]) m.2.2)])] (QbY (Zy m)):=by
 refine Qo rfl fun hb=>tcg (n:=39) (sg:=Qjy.sg) Qm (TOk.cons YX (TOk.cons QhM TOk.nil)) (by kernel_rfl) (by kernel_rfl) (QVr _ m ?_)
 have hl_m_2:(m.2.2).length≤9223372036854775807:=hb.1.2.2.1.1
 refine ⟨fun h=>R_eq ?_,fun h=>?_⟩
 ·have:Zy m=false:=by
   cases hm:Zy m with
   | false=>rfl
   | true =>
    obtain ⟨h1,h2,h3,h4,h5,h6,h7⟩:=Qcn hm
    rw [QT.2 ⟨h1,h2⟩,QT.2 ⟨h3,h4⟩,Qr (x:=m.1*m.2.1) (by have:=Qdk h1 h2 h3 h4;omega) (by omega),← h5] at h
    simp at h
  exact this.symm
 ·have h':m_in m.1 1 6=true∧m_in m.2.1 1 6=true:=by simp at h;exact h.1
  have h1:=QT.1 h'.1
  have h2:=QT.1 h'.2
  have hm:=Qdk h1.1 h1.2 h2.1 h2.2
  rw [Qr (x:=m.1*m.2.1) (by omega) (by omega)] at h
  exact QbA (Q:=fun x=>QbY x=QbY (Zy m)) (p:=Zc) (c:=fun x=>!(Zc x)) 0 hl_m_2 (fun _=>rfl) (fun i h=>QSa (fun r'=>r'=QbY (Zy m)) m i h) (R_eq (by
   unfold Zy ZB
   have h3:((m.2.2.length:Int)==m.1*m.2.1)=true:=by simp [h'] at h;simp [h]
   rw [h'.1,h'.2,h3];simp))
theorem QAD:Qj Tryz.prog Qjy:=Qn fun x _=>QNu x.1
def Qna (t:(List Int)):TRes:=zra (zcs [TI] t)
def Qm5:TRow:=Qk 237 [(.a [TI,TI,(.sl [TI])]),(.c TI)] fun x=>(some (Qo6 x.1 x.2.1),Qna (Y8 x.1 x.2.1))
def QXb:List TRow:=[]
def QW2:TCode :=
 (zsq [(.reg [zop 2 (.box 185 0 3),zmv 4 (.k (.n [TI]))]),(.reg [zfa 5 2 2,zld 6 5 1,zmv 7 1,zfa 8 2 1,zld 9 8 1,zbi 10 .mul 7 9,zmv 11 1,zbi 12 .add 11 (zki 1),zfa 13 2 1,zld 14 13 1,zbi 15 .mul 12 14,zop 16 (.slc 6 (some 10) (some 15) [TI]),zmv 4 16]),.ret])
def QV3:List (ARv × Md):=[(.t 4,.one .d)]
theorem QQ7 (m:TMat) (i:Int) (h :
 (((0:Int)≤w64 (i*m.2.1)∧w64 (i*m.2.1)≤w64 ((w64 (i+(1:Int)))*m.2.1)∧w64 ((w64 (i+(1:Int)))*m.2.1)≤((m.2.2).length:Int))∧K (Qna (List.take (Int.toNat (w64 ((w64 (i+(1:Int)))*m.2.1))-Int.toNat (w64 (i*m.2.1))) (List.drop (Int.toNat (w64 (i*m.2.1))) m.2.2))))):Hold (tawp QXb (0+0) QW2 (TQ 0 0 QV3 K) (Qg [(.a [(.c TI m.1),(.c TI m.2.1),(.c (.sl [TI]) m.2.2)]),(.c TI i)])) :=
 Hold.of (by kernel_rfl) h
theorem QSJ (m:TMat) (i:Int) (hp:Qo6 m i):TCon Tryz.prog 237 [(.a [(.c TI m.1),(.c TI m.2.1),(.c (.sl [TI]) m.2.2)]),(.c TI i)] (Qna (Y8 m i)):=by
 refine Qo rfl fun hb=>tcg (n:=17) (sg:=Qm5.sg) Qm TOk.nil (by kernel_rfl) (by kernel_rfl) (QQ7 _ m i ?_)
 have hl_m_2:(m.2.2).length≤9223372036854775807:=hb.1.2.2.1.1
 obtain ⟨h1,h2,h3,h4,h5,h6⟩:=hp
 have hd:=idx h3 h4 h1
 have h36:m.1*m.2.1≤36:=by
  have:=Int.mul_le_mul h5 h2 h1 (by omega:(0:Int)≤6);omega
 rw [Qr (x:=i+1) (by omega) (by omega),Qr (x:=i*m.2.1) (by omega) (by omega),Qr (x:=(i+1)*m.2.1) (by omega) (by omega)]
 exact ⟨⟨by omega,by omega,by omega⟩,R_eq rfl⟩
theorem QQZ:Qj Tryz.prog Qm5:=Qn fun x h=>QSJ x.1 x.2.1 h
def QdP (t:(List Int)):TRes:=zra (zcs [TI] t)
def QkY:TRow:=Qk 240 [(.a [TI,TI,(.sl [TI])]),(.c TI)] fun x=>(some (Qqv x.1 x.2.1),QdP (Ya x.1 x.2.1))
def Ql7:List TRow:=[]
def QzZ:TCode :=
 (zsq [(zsq [(.reg [zmv 8 6,zfa 9 2 0,zld 10 9 1,zbi 11 .lss 8 10]),(.cond 11 .skip (.exit 0))]),(.block 1 (.reg [zmv 14 5,zfa 15 2 2,zld 16 15 1,zmv 17 6,zfa 18 2 1,zld 19 18 1,zbi 20 .mul 17 19,zmv 21 1,zbi 22 .add 20 21,zia 23 16 22 [TI],zld 24 23 1,zop 25 (.bsl 3 [TI] [24]),zop 26 (.app 14 25 3 [TI]),zmv 5 26])),(.reg [zmv 12 6,zbi 13 .add 12 (zki 1),zmv 6 13])])
def QwH:List (Nat × Md):=[(1,.one .d),(2,.b [.d,.d,.d]),(5,.one .f),(6,.one .d)]
def QDw:TCode :=
 (zsq [(.reg [zmv 27 5,zmv 4 27]),.ret])
def QFj:TCode :=
 (zsq [(.reg [zop 2 (.box 185 0 3),zmv 4 (.k (.n [TI]))]),(.reg [zop 7 (.bsl 3 [TI] []),zmv 5 7]),(zsq [(.reg [zmv 6 (zki 0)]),(.block 0 (.loop QwH QzZ))]),QDw])
def Qvm:List (ARv × Md):=[(.t 4,.one .d)]
def QD8:Qb:=TQ 0 0 Qvm K
def QW3:Qb:=Qseq (tawp Ql7 0 QDw (QD8 K)) (QD8 K)
def QGw:Qb:=Qblk 0 (QW3 K)
def QiU (m:TMat) (k:Int) (i:Int) (out:List Int):Prop:=Loop Ql7 0 QwH QzZ (QGw K) ⟨[(1,(zci k)),(2,(.p 0 0 0)),(5,(.r [TI] 1 0 out.length)),(6,(zci i))],[(0,(.box [(zci m.1),(zci m.2.1),(zcs [TI] m.2.2)])),(1,(.sl 3 [TI] true out))],2⟩
theorem QCy (m:TMat) (k:Int) (i:Int) (out:List Int) (h :
 (zif (decide (i<m.1)) ((((0:Int)≤w64 ((w64 (i*m.2.1))+k)∧Int.toNat (w64 ((w64 (i*m.2.1))+k))<(m.2.2).length)∧((out.length=out.length∨out.length+1≤out.length)∧out.length+1≤big))∧(QiU K m k (w64 (i+(1:Int))) (List.take (out.length+1) ((List.take out.length out)++([(gtd (0:Int) m.2.2 (Int.toNat (w64 ((w64 (i*m.2.1))+k))))]))))) (K (QdP (List.take out.length (List.drop 0 out)))))):QiU K m k i out :=
 Loop.of (by kernel_rfl) h
theorem QYa (m:TMat) (k:Int) (h :
 (QiU K m k 0 ([]:List Int))):Hold (tawp Ql7 (0+0) QFj (TQ 0 0 Qvm K) (Qg [(.a [(.c TI m.1),(.c TI m.2.1),(.c (.sl [TI]) m.2.2)]),(.c TI k)])) :=
 Hold.of (by kernel_rfl) h
theorem QUK (m:TMat) (k:Int) (hp:Qqv m k):TCon Tryz.prog 240 [(.a [(.c TI m.1),(.c TI m.2.1),(.c (.sl [TI]) m.2.2)]),(.c TI k)] (QdP (Ya m k)):=by
 refine Qo rfl fun hb=>tcg (n:=28) (sg:=QkY.sg) Qm TOk.nil (by kernel_rfl) (by kernel_rfl) (QYa _ m k ?_)
 have hl_m_2:(m.2.2).length≤9223372036854775807:=hb.1.2.2.1.1
 obtain ⟨h2,h3,h4,h5,h6,h7⟩:=hp
 have h36:m.1*m.2.1≤36:=by
  have:=Int.mul_le_mul h6 h2 (by omega) (by omega:(0:Int)≤6);omega
 refine Y4 m.1.toNat (fun j=>QiU (fun r'=>r'=QdP (Ya m k)) m k (j:Int) ((List.range j).map fun i:Nat=>gtd 0 m.2.2 ((i:Int)*m.2.1+k).toNat)) ?_ ?_
 ·refine QCy (fun r'=>r'=QdP (Ya m k)) m k _ _ ⟨fun h=>by simp at h;omega,fun _=>R_eq ?_⟩
  unfold Ya;rw [List.drop_zero,List.take_length]
 ·intro j hj ih
  have hd:=idx (r:=j) (R:=m.1) (C:=m.2.1) (by omega) (by omega) (by omega)
  refine QCy (fun r'=>r'=QdP (Ya m k)) m k _ _ ⟨fun _=>?_,fun h=>by simp at h;omega⟩
  rw [Qr (x:=(j:Int)*m.2.1) (by omega) (by omega),Qr (x:=(j:Int)*m.2.1+k) (by omega) (by omega),sc1 (by omega),Q8]
  rw [Qfn] at ih
  exact ⟨⟨⟨by omega,by omega⟩,room (by simp;omega)⟩,ih⟩
theorem QRK:Qj Tryz.prog QkY:=Qn fun x h=>QUK x.1 x.2.1 h
def QcR (t:(List Int) × Bool):TRes:=zra (.tp [(zcs [TI] t.1),(zcb t.2)])
def Qks:TRow:=Qk 211 [(.a [TI,TI,(.sl [TI])]),(.c (.sl [TI]))] fun x=>(none,QcR (Zo x.1 x.2.1))
def QkT:List TRow:=[QeW,Qai,Qf6]
def QsV:TCode :=
 (zsq [(zsq [(.reg [zmv 22 8,zfa 23 2 0,zld 24 23 1,zbi 25 .lss 22 24]),(.cond 25 .skip (.exit 0))]),(.block 1 (zsq [(.reg [zfa 29 2 2,zld 30 29 1,zmv 31 8,zfa 32 2 1,zld 33 32 1,zbi 34 .mul 31 33,zmv 35 8,zbi 36 .add 35 (zki 1),zfa 37 2 1,zld 38 37 1,zbi 39 .mul 36 38,zop 40 (.slc 30 (some 34) (some 39) [TI]),zmv 41 1,zca 42 188 [40,41],zmv 28 42,zex 43 28 0,zex 44 28 1,zmv 9 43,zmv 10 44]),(.reg [zmv 45 6,zmv 46 9,zop 47 (.bsl 3 [TI] [46]),zop 48 (.app 45 47 3 [TI]),zmv 6 48]),(.reg [zmv 49 7,zmv 50 49,.grp 50 false [zmv 51 10] 52 51,zmv 7 52])])),(.reg [zmv 26 8,zbi 27 .add 26 (zki 1),zmv 8 27])])
def QBd:List (Nat × Md):=[(1,.one .d),(2,.b [.d,.d,.d]),(6,.one .f),(7,.one .d),(8,.one .d)]
def QtZ:TCode :=
 (zsq [(.reg [zmv 53 6,zmv 54 7,zmv 4 53,zmv 5 54]),.ret])
def QMR:TCode :=
 (zsq [(.reg [zop 2 (.box 185 0 3),zmv 4 (.k (.n [TI])),zmv 5 (zkb false)]),(zsq [(.reg [zLd 11 2 3,zca 12 233 [11],zno 13 12,zmv 14 13,.grp 14 false [zmv 15 1,zfa 16 2 1,zld 17 16 1,zca 18 114 [15,17],zno 19 18] 20 19]),(.cond 20 (zsq [(.reg [zmv 4 (.k (.n [TI])),zmv 5 (zkb false)]),.ret]) .skip)]),(.reg [zop 21 (.bsl 3 [TI] []),zmv 6 21]),(.reg [zmv 7 (zkb false)]),(zsq [(.reg [zmv 8 (zki 0)]),(.block 0 (.loop QBd QsV))]),QtZ])
def Qsj:List (ARv × Md):=[(.t 4,.one .d),(.t 5,.one .d)]
def Qz6:Qb:=TQ 0 0 Qsj K
def QSX:Qb:=Qseq (tawp QkT 0 QtZ (Qz6 K)) (Qz6 K)
def QT1:Qb:=Qblk 0 (QSX K)
def Qi9 (m:TMat) (x:List Int) (out:Bool) (r:Int) (v:List Int):Prop:=Loop QkT 0 QBd QsV (QT1 K) ⟨[(1,(zcs [TI] x)),(2,(.p 0 0 0)),(6,(.r [TI] 1 0 v.length)),(7,(zcb out)),(8,(zci r))],[(0,(.box [(zci m.1),(zci m.2.1),(zcs [TI] m.2.2)])),(1,(.sl 3 [TI] true v))],2⟩
theorem QDB (m:TMat) (x:List Int) (out:Bool) (r:Int) (v:List Int) (h :
 (zif (decide (r<m.1)) (((0:Int)≤w64 (r*m.2.1)∧w64 (r*m.2.1)≤w64 ((w64 (r+(1:Int)))*m.2.1)∧w64 ((w64 (r+(1:Int)))*m.2.1)≤((m.2.2).length:Int))∧(((v.length=v.length∨v.length+1≤v.length)∧v.length+1≤big)∧(Qi9 K m x (out||((Q3 (List.take (Int.toNat (w64 ((w64 (r+(1:Int)))*m.2.1))-Int.toNat (w64 (r*m.2.1))) (List.drop (Int.toNat (w64 (r*m.2.1))) m.2.2)) x).2)) (w64 (r+(1:Int))) (List.take (v.length+1) ((List.take v.length v)++([(Q3 (List.take (Int.toNat (w64 ((w64 (r+(1:Int)))*m.2.1))-Int.toNat (w64 (r*m.2.1))) (List.drop (Int.toNat (w64 (r*m.2.1))) m.2.2)) x).1])))))) (K (QcR ((List.take v.length (List.drop 0 v)),out))))):Qi9 K m x out r v :=
 Loop.of (by kernel_rfl) h
theorem QTn (m:TMat) (x:List Int) (h :
 (zif ((!(Zy m))||(!(Qq x m.2.1))) (K (QcR ([],false))) (Qi9 K m x false 0 ([]:List Int)))):Hold (tawp QkT (0+0) QMR (TQ 0 0 Qsj K) (Qg [(.a [(.c TI m.1),(.c TI m.2.1),(.c (.sl [TI]) m.2.2)]),(.c (.sl [TI]) x)])) :=
 Hold.of (by kernel_rfl) h
theorem QOn (m:TMat) (x:List Int):TCon Tryz.prog 211 [(.a [(.c TI m.1),(.c TI m.2.1),(.c (.sl [TI]) m.2.2)]),(.c (.sl [TI]) x)] (QcR (Zo m x)):=by
 refine Qo rfl fun hb=>tcg (n:=55) (sg:=Qks.sg) Qm (TOk.cons Qk1 (TOk.cons QaD (TOk.cons QlK TOk.nil))) (by kernel_rfl) (by kernel_rfl) (QTn _ m x ?_)
 have hl_m_2:(m.2.2).length≤9223372036854775807:=hb.1.2.2.1.1
 have hl_x:x.length≤9223372036854775807:=hb.2.1.1
 refine ⟨fun h=>R_eq (by rw [Qrb];intro h2;simp [h2.1,h2.2] at h),fun h=>?_⟩
 have hp:Zy m=true∧Qq x m.2.1=true:=by simpa using h
 obtain ⟨h1,h2,h3,h4,h5,h6,h7⟩:=Qcn hp.1
 have hv:(Zo m x)=((List.range m.1.toNat).map fun i:Nat=>(Q3 (Y8 m i) x).1,(List.range m.1.toNat).any fun i:Nat=>(Q3 (Y8 m i) x).2):=by unfold Zo;rw [if_pos (by simp [hp])]
 refine Y4 m.1.toNat (fun j=>Qi9 (fun r'=>r'=QcR (Zo m x)) m x ((List.range j).any fun i:Nat=>(Q3 (Y8 m i) x).2) (j:Int) ((List.range j).map fun i:Nat=>(Q3 (Y8 m i) x).1)) ?_ ?_
 ·refine QDB (fun r'=>r'=QcR (Zo m x)) m x _ _ _ ⟨fun h=>by simp at h;omega,fun _=>R_eq ?_⟩
  rw [hv,List.drop_zero,List.take_length]
 ·intro j hj ih
  have hd:=idx (r:=j) (R:=m.1) (C:=m.2.1) (by omega) (by omega) (by omega)
  refine QDB (fun r'=>r'=QcR (Zo m x)) m x _ _ _ ⟨fun _=>?_,fun h=>by simp at h;omega⟩
  rw [Qr (x:=(j:Int)+1) (by omega) (by omega),Qr (x:=(j:Int)*m.2.1) (by omega) (by omega),Qr (x:=((j:Int)+1)*m.2.1) (by omega) (by omega),Q8]
  rw [Qfn,Qlb] at ih
  exact ⟨⟨by omega,by omega,by omega⟩,room (by simp;omega),ih⟩
theorem Qys:Qj Tryz.prog Qks:=Qn fun x _=>QOn x.1 x.2.1
def Qcz (t:(List Int) × Bool):TRes:=zra (.tp [(zcs [TI] t.1),(zcb t.2)])
def QlF:TRow:=Qk 224 [(.a [TI,TI,(.sl [TI])]),(.c (.sl [TI]))] fun x=>(none,Qcz (Zo x.1 x.2.1))
def QnB:List TRow:=[Qjy,Y7,Qm5,Qew]
def Qv1:TCode :=
 (zsq [(zsq [(.reg [zmv 28 8,zfa 29 2 0,zld 30 29 1,zbi 31 .lss 28 30]),(.cond 31 .skip (.exit 0))]),(.block 1 (zsq [(.reg [zLd 35 2 3,zmv 36 8,zca 37 237 [35,36],zmv 38 1,zca 39 206 [37,38],zmv 34 39,zex 40 34 0,zex 41 34 1,zmv 9 40,zmv 10 41]),(.reg [zmv 42 6,zmv 43 9,zop 44 (.bsl 3 [TI] [43]),zop 45 (.app 42 44 3 [TI]),zmv 6 45]),(.reg [zmv 46 7,zmv 47 46,.grp 47 false [zmv 48 10] 49 48,zmv 7 49])])),(.reg [zmv 32 8,zbi 33 .add 32 (zki 1),zmv 8 33])])
def QsX:List (Nat × Md):=[(1,.one .d),(2,.b [.d,.d,.d]),(6,.one .f),(7,.one .d),(8,.one .d)]
def Qvd:TCode :=
 (zsq [(.reg [zmv 50 6,zmv 51 7,zmv 4 50,zmv 5 51]),.ret])
def QGZ:TCode :=
 (zsq [(.reg [zop 2 (.box 185 0 3),zmv 4 (.k (.n [TI])),zmv 5 (zkb false)]),(.reg [zop 11 (.bsl 3 [TI] []),zmv 6 11]),(.reg [zmv 7 (zkb false)]),(zsq [(.reg [zLd 12 2 3,zca 13 236 [12],zno 14 13,zmv 15 14,.grp 15 false [zmv 16 1,zca 17 42 [16],zno 18 17] 19 18,zmv 20 19,.grp 20 false [zmv 21 1,zle 22 21,zfa 23 2 1,zld 24 23 1,zbi 25 .neq 22 24] 26 25]),(.cond 26 (zsq [(.reg [zmv 27 6,zmv 4 27,zmv 5 (zkb false)]),.ret]) .skip)]),(zsq [(.reg [zmv 8 (zki 0)]),(.block 0 (.loop QsX Qv1))]),Qvd])
def Qtg:List (ARv × Md):=[(.t 4,.one .d),(.t 5,.one .d)]
def Qw8:Qb:=TQ 0 0 Qtg K
def QKj:Qb:=Qseq (tawp QnB 0 Qvd (Qw8 K)) (Qw8 K)
def QTX:Qb:=Qblk 0 (QKj K)
def QhN (m:TMat) (x:List Int) (sat:Bool) (i:Int) (out:List Int):Prop:=Loop QnB 0 QsX Qv1 (QTX K) ⟨[(1,(zcs [TI] x)),(2,(.p 0 0 0)),(6,(.r [TI] 1 0 out.length)),(7,(zcb sat)),(8,(zci i))],[(0,(.box [(zci m.1),(zci m.2.1),(zcs [TI] m.2.2)])),(1,(.sl 3 [TI] true out))],2⟩
theorem QEq (m:TMat) (x:List Int) (sat:Bool) (i:Int) (out:List Int) (h :
 (zif (decide (i<m.1)) ((Qo6 m i)∧(((out.length=out.length∨out.length+1≤out.length)∧out.length+1≤big)∧(QhN K m x (sat||((Q3 (Y8 m i) x).2)) (w64 (i+(1:Int))) (List.take (out.length+1) ((List.take out.length out)++([(Q3 (Y8 m i) x).1])))))) (K (Qcz ((List.take out.length (List.drop 0 out)),sat))))):QhN K m x sat i out :=
 Loop.of (by kernel_rfl) h
theorem QUH (m:TMat) (x:List Int) (h :
 (zif (((!(Zy m))||(!(QJ x)))||((x.length:Int) != m.2.1)) (K (Qcz (([]:List Int),false))) (QhN K m x false 0 ([]:List Int)))):Hold (tawp QnB (0+0) QGZ (TQ 0 0 Qtg K) (Qg [(.a [(.c TI m.1),(.c TI m.2.1),(.c (.sl [TI]) m.2.2)]),(.c (.sl [TI]) x)])) :=
 Hold.of (by kernel_rfl) h
theorem QJ0 (m:TMat) (x:List Int):TCon Tryz.prog 224 [(.a [(.c TI m.1),(.c TI m.2.1),(.c (.sl [TI]) m.2.2)]),(.c (.sl [TI]) x)] (Qcz (Zo m x)):=by
 refine Qo rfl fun hb=>tcg (n:=52) (sg:=QlF.sg) Qm (TOk.cons QAD (TOk.cons Jp (TOk.cons QQZ (TOk.cons QkA TOk.nil)))) (by kernel_rfl) (by kernel_rfl) (QUH _ m x ?_)
 have hl_m_2:(m.2.2).length≤9223372036854775807:=hb.1.2.2.1.1
 have hl_x:x.length≤9223372036854775807:=hb.2.1.1
 have hg:∀ n:Int,(!(QJ x)||((x.length:Int) != n)) = !(Qq x n):=fun n=>by unfold Qq;simp [bne]
 rw [Bool.or_assoc,hg]
 refine ⟨fun h=>R_eq (by rw [Qrb];intro h2;simp [h2.1,h2.2] at h),fun h=>?_⟩
 have hp:Zy m=true∧Qq x m.2.1=true:=by simpa using h
 obtain ⟨h1,h2,h3,h4,h5,h6,h7⟩:=Qcn hp.1
 have hv:(Zo m x)=((List.range m.1.toNat).map fun i:Nat=>(Q3 (Y8 m i) x).1,(List.range m.1.toNat).any fun i:Nat=>(Q3 (Y8 m i) x).2):=by unfold Zo;rw [if_pos (by simp [hp])]
 refine Y4 m.1.toNat (fun j=>QhN (fun r'=>r'=Qcz (Zo m x)) m x ((List.range j).any fun i:Nat=>(Q3 (Y8 m i) x).2) (j:Int) ((List.range j).map fun i:Nat=>(Q3 (Y8 m i) x).1)) ?_ ?_
 ·refine QEq (fun r'=>r'=Qcz (Zo m x)) m x _ _ _ ⟨fun h=>by simp at h;omega,fun _=>R_eq ?_⟩
  rw [hv,List.drop_zero,List.take_length]
 ·intro j hj ih
  have hd:=idx (r:=j) (R:=m.1) (C:=m.2.1) (by omega) (by omega) (by omega)
  refine QEq (fun r'=>r'=Qcz (Zo m x)) m x _ _ _ ⟨fun _=>?_,fun h=>by simp at h;omega⟩
  rw [sc1 (by omega),Q8]
  rw [Qfn,Qlb] at ih
  exact ⟨⟨by omega,by omega,by omega,by omega,by omega,h5⟩,room (by simp;omega),ih⟩
theorem QPG:Qj Tryz.prog QlF:=Qn fun x _=>QJ0 x.1 x.2.1
def QaK (t:TMat):TRes:=zra (.a [(zci t.1),(zci t.2.1),(zcs [TI] t.2.2)])
def Qld:TRow:=Qk 235 [(.a [TI,TI,(.sl [TI])])] fun x=>(none,QaK (YS x.1))
def QeA:List TRow:=[QeW]
def QAV:TCode :=
 (zsq [(zsq [(.reg [zmv 21 5,zfa 22 1 0,zld 23 22 1,zbi 24 .lss 21 23]),(.cond 24 .skip (.exit 2))]),(.block 3 (.draw [zfa 27 3 2,zld 28 27 1,zfa 29 1 2,zld 30 29 1,zmv 31 5,zfa 32 1 1,zld 33 32 1,zbi 34 .mul 31 33,zmv 35 4,zbi 36 .add 34 35,zia 37 30 36 [TI],zld 38 37 1,zop 39 (.bsl 3 [TI] [38]),zop 40 (.app 28 39 3 [TI]),zfa 41 3 2,zst 41 40 1] [(0,12),(1,12)])),(.reg [zmv 25 5,zbi 26 .add 25 (zki 1),zmv 5 26])])
def Qrz:List (Nat × Md):=[(1,.b [.d,.d,.d]),(2,.b [.d,.d,.d]),(3,.b [.d,.d,.f]),(4,.one .d),(5,.one .d)]
def Qry:TCode :=
 (.reg [zmv 19 4,zbi 20 .add 19 (zki 1),zmv 4 20])
def Qm2:TCode :=
 (zsq [(zsq [(.reg [zmv 15 4,zfa 16 1 1,zld 17 16 1,zbi 18 .lss 15 17]),(.cond 18 .skip (.exit 0))]),(.block 1 (zsq [(.reg [zmv 5 (zki 0)]),(.block 2 (.loop Qrz QAV))])),Qry])
def QiP:List (Nat × Md):=[(1,.b [.d,.d,.d]),(2,.b [.d,.d,.d]),(3,.b [.d,.d,.o 3]),(4,.one .d)]
def QEC:TCode :=
 (zsq [(.reg [zLd 42 3 3,zst 2 42 3]),.ret])
def QJA:TCode :=
 (zsq [(.reg [zop 1 (.box 185 0 3),zop 2 (.new 185 (z0s [TI,TI,(.sl [TI])]))]),(zsq [(.reg [zLd 6 1 3,zca 7 233 [6],zno 8 7]),(.cond 8 (zsq [(.reg [zop 9 (.build (z0s [TI,TI,(.sl [TI])]) []),zst 2 9 3]),.ret]) .skip)]),(.reg [zfa 10 1 1,zld 11 10 1,zfa 12 1 0,zld 13 12 1,zop 14 (.build (z0s [TI,TI,(.sl [TI])]) [(0,1,11),(1,1,13)]),zop 3 (.new 185 (z0s [TI,TI,(.sl [TI])])),zst 3 14 3]),(zsq [(.reg [zmv 4 (zki 0)]),(.block 0 (.loop QiP Qm2))]),QEC])
def QDZ:List (ARv × Md):=[(.l 2 3 true,.b [.d,.d,.d])]
def QxU:Qb:=TQ 0 0 QDZ K
def QS1:Qb:=Qseq (tawp QeA 0 QEC (QxU K)) (QxU K)
def QnE:Qb:=Qblk 0 (QS1 K)
def QrM:Qb:=Qseq (fun s'=>Loop QeA 0 QiP Qm2 (QnE K) (gc 0 QiP s')) (QnE K)
def QKS:Qb:=Qseq (tawp QeA 0 Qry (QrM K)) (QrM K)
def QFi:Qb:=Qblk 1 (QKS K)
def QHF:Qb:=Qblk 2 (QFi K)
def Qg5 (m:TMat) (r:Int) (t2:List Int) (c:Int):Prop:=Loop QeA 0 Qrz QAV (QHF K) ⟨[(1,(.p 0 0 0)),(2,(.p 1 0 0)),(3,(.p 3 0 0)),(4,(zci c)),(5,(zci r))],[(0,(.box [(zci m.1),(zci m.2.1),(zcs [TI] m.2.2)])),(1,(.box [(zci 0),(zci 0),(zcs [TI] ([]))])),(2,(.sl 3 [TI] true t2)),(3,(.box [(zci m.2.1),(zci m.1),(.r [TI] 2 0 t2.length)]))],4⟩
def Qg0 (m:TMat) (c:Int) (t21:List Int):Prop:=Loop QeA 0 QiP Qm2 (QnE K) ⟨[(1,(.p 0 0 0)),(2,(.p 1 0 0)),(3,(.p 3 0 0)),(4,(zci c))],[(0,(.box [(zci m.1),(zci m.2.1),(zcs [TI] m.2.2)])),(1,(.box [(zci 0),(zci 0),(zcs [TI] ([]))])),(2,(.sl 3 [TI] true t21)),(3,(.box [(zci m.2.1),(zci m.1),(.r [TI] 2 0 t21.length)]))],4⟩
theorem Qto (m:TMat) (r:Int) (t2:List Int) (c:Int) (h :
 (zif (decide (r<m.1)) ((((0:Int)≤w64 ((w64 (r*m.2.1))+c)∧Int.toNat (w64 ((w64 (r*m.2.1))+c))<(m.2.2).length)∧((t2.length=t2.length∨t2.length+1≤t2.length)∧t2.length+1≤big))∧(Qg5 K m (w64 (r+(1:Int))) (List.take (t2.length+1) ((List.take t2.length t2)++([(gtd (0:Int) m.2.2 (Int.toNat (w64 ((w64 (r*m.2.1))+c))))]))) c)) (Qg0 K m (w64 (c+(1:Int))) (List.take t2.length t2)))):Qg5 K m r t2 c :=
 Loop.of (by kernel_rfl) h
theorem Qs6 (m:TMat) (c:Int) (t21:List Int) (h :
 (zif (decide (c<m.2.1)) (Qg5 K m 0 (List.take t21.length t21) c) (K (QaK (m.2.1,m.1,(List.take t21.length (List.drop 0 t21))))))):Qg0 K m c t21 :=
 Loop.of (by kernel_rfl) h
theorem QQ8 (m:TMat) (h :
 (zif (!(Zy m)) (K (QaK ((0:Int),(0:Int),[]))) (Qg0 K m 0 ([]:List Int)))):Hold (tawp QeA (0+0) QJA (TQ 0 0 QDZ K) (Qg [(.a [(.c TI m.1),(.c TI m.2.1),(.c (.sl [TI]) m.2.2)])])) :=
 Hold.of (by kernel_rfl) h
theorem QQ6 (m:TMat):TCon Tryz.prog 235 [(.a [(.c TI m.1),(.c TI m.2.1),(.c (.sl [TI]) m.2.2)])] (QaK (YS m)):=by
 refine Qo rfl fun hb=>tcg (n:=43) (sg:=Qld.sg) Qm (TOk.cons Qk1 TOk.nil) (by kernel_rfl) (by kernel_rfl) (QQ8 _ m ?_)
 have hl_m_2:(m.2.2).length≤9223372036854775807:=hb.1.2.2.1.1
 refine ⟨fun h=>R_eq (by unfold YS;rw [if_neg (by simpa using h)]),fun h=>?_⟩
 have hp:Zy m=true:=by simpa using h
 obtain ⟨h1,h2,h3,h4,h5,h6,h7⟩:=Qcn hp
 refine Y4 m.2.1.toNat (fun k=>Qg0 (fun r'=>r'=QaK (YS m)) m (k:Int) ((List.range k).flatMap fun k:Nat=>Ya m k)) ?_ ?_
 ·refine Qs6 (fun r'=>r'=QaK (YS m)) m _ _ ⟨fun h=>by simp at h;omega,fun _=>R_eq ?_⟩
  rw [List.drop_zero,List.take_length];unfold YS;rw [if_pos hp]
 ·intro k hk ih
  refine Qs6 (fun r'=>r'=QaK (YS m)) m _ _ ⟨fun _=>?_,fun h=>by simp at h;omega⟩
  rw [List.take_length]
  have hk36:((List.range k).flatMap fun k:Nat=>Ya m k).length≤36:=by
   rw [Qmj (R:=m.1.toNat) k (fun j _=>QoH m j)]
   have:k*m.1.toNat≤6*6:=Nat.mul_le_mul (by omega) (by omega)
   omega
  have inner:=Y4 m.1.toNat (fun j=>Qg5 (fun r'=>r'=QaK (YS m)) m (j:Int) (((List.range k).flatMap fun k:Nat=>Ya m k)++(List.range j).map fun i:Nat=>gtd 0 m.2.2 ((i:Int)*m.2.1+(k:Nat)).toNat) (k:Int)) ?_ ?_
  ·simpa using inner
  ·refine Qto (fun r'=>r'=QaK (YS m)) m _ _ _ ⟨fun h=>by simp at h;omega,fun _=>?_⟩
   rw [List.take_length,sc1 (by omega)]
   rw [Qeb] at ih
   exact ih
  ·intro j hj ih2
   have hd:=idx (r:=j) (R:=m.1) (C:=m.2.1) (by omega) (by omega) (by omega)
   refine Qto (fun r'=>r'=QaK (YS m)) m _ _ _ ⟨fun _=>?_,fun h=>by simp at h;omega⟩
   rw [Qr (x:=(j:Int)*m.2.1) (by omega) (by omega),Qr (x:=(j:Int)*m.2.1+(k:Int)) (by omega) (by omega),sc1 (by omega),Q8]
   rw [Qfn,← List.append_assoc] at ih2
   exact ⟨⟨⟨by omega,by omega⟩,room (by rw [List.length_append];simp only [List.length_map,List.length_range];omega)⟩,ih2⟩
theorem QXG:Qj Tryz.prog Qld:=Qn fun x _=>QQ6 x.1
def QhU (t:(List Int) × Bool):TRes:=zra (.tp [(zcs [TI] t.1),(zcb t.2)])
def Qn2:TRow:=Qk 218 [(.a [TI,TI,(.sl [TI])]),(.c (.sl [TI]))] fun x=>(none,QhU (Zw x.1 x.2.1))
def QGe:List TRow:=[QeW,Qai,Qld,Qks]
def QYr:TCode :=
 (zsq [(.reg [zop 2 (.box 185 0 3),zmv 4 (.k (.n [TI])),zmv 5 (zkb false)]),(zsq [(.reg [zLd 6 2 3,zca 7 233 [6],zno 8 7,zmv 9 8,.grp 9 false [zmv 10 1,zfa 11 2 0,zld 12 11 1,zca 13 114 [10,12],zno 14 13] 15 14]),(.cond 15 (zsq [(.reg [zmv 4 (.k (.n [TI])),zmv 5 (zkb false)]),.ret]) .skip)]),(.reg [zLd 16 2 3,zca 17 235 [16],zmv 18 1,zca 19 211 [17,18],zex 20 19 0,zex 21 19 1,zmv 4 20,zmv 5 21]),.ret])
def QUU:List (ARv × Md):=[(.t 4,.one .d),(.t 5,.one .d)]
theorem QWU (m:TMat) (d:List Int) (h :
 (zif ((!(Zy m))||(!(Qq d m.1))) (K (QhU ([],false))) (K (QhU ((Zo (YS m) d).1,(Zo (YS m) d).2))))):Hold (tawp QGe (0+0) QYr (TQ 0 0 QUU K) (Qg [(.a [(.c TI m.1),(.c TI m.2.1),(.c (.sl [TI]) m.2.2)]),(.c (.sl [TI]) d)])) :=
 Hold.of (by kernel_rfl) h
theorem QNc (m:TMat) (d:List Int):TCon Tryz.prog 218 [(.a [(.c TI m.1),(.c TI m.2.1),(.c (.sl [TI]) m.2.2)]),(.c (.sl [TI]) d)] (QhU (Zw m d)):=by
 refine Qo rfl fun hb=>tcg (n:=22) (sg:=Qn2.sg) Qm (TOk.cons Qk1 (TOk.cons QaD (TOk.cons QXG (TOk.cons Qys TOk.nil)))) (by kernel_rfl) (by kernel_rfl) (QWU _ m d ?_)
 have hl_m_2:(m.2.2).length≤9223372036854775807:=hb.1.2.2.1.1
 have hl_d:d.length≤9223372036854775807:=hb.2.1.1
 refine ⟨fun h=>R_eq (by rw [Qum];intro h2;simp [h2.1,h2.2] at h),fun h=>?_⟩
 have hp:Zy m=true∧Qq d m.1=true:=by simpa using h
 exact R_eq (QSx hp.1 hp.2)
theorem QQq:Qj Tryz.prog Qn2:=Qn fun x _=>QNc x.1 x.2.1
def Qcq (t:(List Int) × Bool):TRes:=zra (.tp [(zcs [TI] t.1),(zcb t.2)])
def Qqa:TRow:=Qk 231 [(.a [TI,TI,(.sl [TI])]),(.c (.sl [TI]))] fun x=>(none,Qcq (Zw x.1 x.2.1))
def QoB:List TRow:=[Qjy,Y7,QkY,Qew]
def Qzb:TCode :=
 (zsq [(zsq [(.reg [zmv 28 8,zfa 29 2 1,zld 30 29 1,zbi 31 .lss 28 30]),(.cond 31 .skip (.exit 0))]),(.block 1 (zsq [(.reg [zLd 35 2 3,zmv 36 8,zca 37 240 [35,36],zmv 38 1,zca 39 206 [37,38],zmv 34 39,zex 40 34 0,zex 41 34 1,zmv 9 40,zmv 10 41]),(.reg [zmv 42 6,zmv 43 9,zop 44 (.bsl 3 [TI] [43]),zop 45 (.app 42 44 3 [TI]),zmv 6 45]),(.reg [zmv 46 7,zmv 47 46,.grp 47 false [zmv 48 10] 49 48,zmv 7 49])])),(.reg [zmv 32 8,zbi 33 .add 32 (zki 1),zmv 8 33])])
def Qxx:List (Nat × Md):=[(1,.one .d),(2,.b [.d,.d,.d]),(6,.one .f),(7,.one .d),(8,.one .d)]
def Qri:TCode :=
 (zsq [(.reg [zmv 50 6,zmv 51 7,zmv 4 50,zmv 5 51]),.ret])
def QVI:TCode :=
 (zsq [(.reg [zop 2 (.box 185 0 3),zmv 4 (.k (.n [TI])),zmv 5 (zkb false)]),(.reg [zop 11 (.bsl 3 [TI] []),zmv 6 11]),(.reg [zmv 7 (zkb false)]),(zsq [(.reg [zLd 12 2 3,zca 13 236 [12],zno 14 13,zmv 15 14,.grp 15 false [zmv 16 1,zca 17 42 [16],zno 18 17] 19 18,zmv 20 19,.grp 20 false [zmv 21 1,zle 22 21,zfa 23 2 0,zld 24 23 1,zbi 25 .neq 22 24] 26 25]),(.cond 26 (zsq [(.reg [zmv 27 6,zmv 4 27,zmv 5 (zkb false)]),.ret]) .skip)]),(zsq [(.reg [zmv 8 (zki 0)]),(.block 0 (.loop Qxx Qzb))]),Qri])
def QqS:List (ARv × Md):=[(.t 4,.one .d),(.t 5,.one .d)]
def QqR:Qb:=TQ 0 0 QqS K
def QOO:Qb:=Qseq (tawp QoB 0 Qri (QqR K)) (QqR K)
def QIq:Qb:=Qblk 0 (QOO K)
def Qkm (m:TMat) (d:List Int) (sat:Bool) (k:Int) (out:List Int):Prop:=Loop QoB 0 Qxx Qzb (QIq K) ⟨[(1,(zcs [TI] d)),(2,(.p 0 0 0)),(6,(.r [TI] 1 0 out.length)),(7,(zcb sat)),(8,(zci k))],[(0,(.box [(zci m.1),(zci m.2.1),(zcs [TI] m.2.2)])),(1,(.sl 3 [TI] true out))],2⟩
theorem QDG (m:TMat) (d:List Int) (sat:Bool) (k:Int) (out:List Int) (h :
 (zif (decide (k<m.2.1)) ((Qqv m k)∧(((out.length=out.length∨out.length+1≤out.length)∧out.length+1≤big)∧(Qkm K m d (sat||((Q3 (Ya m k) d).2)) (w64 (k+(1:Int))) (List.take (out.length+1) ((List.take out.length out)++([(Q3 (Ya m k) d).1])))))) (K (Qcq ((List.take out.length (List.drop 0 out)),sat))))):Qkm K m d sat k out :=
 Loop.of (by kernel_rfl) h
theorem QVJ (m:TMat) (d:List Int) (h :
 (zif (((!(Zy m))||(!(QJ d)))||((d.length:Int) != m.1)) (K (Qcq (([]:List Int),false))) (Qkm K m d false 0 ([]:List Int)))):Hold (tawp QoB (0+0) QVI (TQ 0 0 QqS K) (Qg [(.a [(.c TI m.1),(.c TI m.2.1),(.c (.sl [TI]) m.2.2)]),(.c (.sl [TI]) d)])) :=
 Hold.of (by kernel_rfl) h
theorem QYm (m:TMat) (d:List Int):TCon Tryz.prog 231 [(.a [(.c TI m.1),(.c TI m.2.1),(.c (.sl [TI]) m.2.2)]),(.c (.sl [TI]) d)] (Qcq (Zw m d)):=by
 refine Qo rfl fun hb=>tcg (n:=52) (sg:=Qqa.sg) Qm (TOk.cons QAD (TOk.cons Jp (TOk.cons QRK (TOk.cons QkA TOk.nil)))) (by kernel_rfl) (by kernel_rfl) (QVJ _ m d ?_)
 have hl_m_2:(m.2.2).length≤9223372036854775807:=hb.1.2.2.1.1
 have hl_d:d.length≤9223372036854775807:=hb.2.1.1
 have hg:∀ n:Int,(!(QJ d)||((d.length:Int) != n)) = !(Qq d n):=fun n=>by unfold Qq;simp [bne]
 rw [Bool.or_assoc,hg]
 refine ⟨fun h=>R_eq (by rw [Qum];intro h2;simp [h2.1,h2.2] at h),fun h=>?_⟩
 have hp:Zy m=true∧Qq d m.1=true:=by simpa using h
 obtain ⟨h1,h2,h3,h4,h5,h6,h7⟩:=Qcn hp.1
 have hv:(Zw m d)=((List.range m.2.1.toNat).map fun k:Nat=>(Q3 (Ya m k) d).1,(List.range m.2.1.toNat).any fun k:Nat=>(Q3 (Ya m k) d).2):=by unfold Zw;rw [if_pos (by simp [hp])]
 refine Y4 m.2.1.toNat (fun j=>Qkm (fun r'=>r'=Qcq (Zw m d)) m d ((List.range j).any fun k:Nat=>(Q3 (Ya m k) d).2) (j:Int) ((List.range j).map fun k:Nat=>(Q3 (Ya m k) d).1)) ?_ ?_
 ·refine QDG (fun r'=>r'=Qcq (Zw m d)) m d _ _ _ ⟨fun h=>by simp at h;omega,fun _=>R_eq ?_⟩
  rw [hv,List.drop_zero,List.take_length]
 ·intro j hj ih
  refine QDG (fun r'=>r'=Qcq (Zw m d)) m d _ _ _ ⟨fun _=>?_,fun h=>by simp at h;omega⟩
  rw [sc1 (by omega),Q8]
  rw [Qfn,Qlb] at ih
  exact ⟨⟨by omega,by omega,by omega,by omega,by omega,h5⟩,room (by simp;omega),ih⟩
theorem QSH:Qj Tryz.prog Qqa:=Qn fun x _=>QYm x.1 x.2.1
def QaQ (t:TMat × Bool):TRes:=zra (.tp [(.a [(zci t.1.1),(zci t.1.2.1),(zcs [TI] t.1.2.2)]),(zcb t.2)])
def Qnr:TRow:=Qk 219 [(.c (.sl [TI])),(.c (.sl [TI]))] fun x=>(none,QaQ (Zm x.1 x.2.1))
def QeH:List TRow:=[Qa6,QfL]
def Qua:TCode :=
 (zsq [(.reg [zbi 37 .lss 36 35]),(.cond 37 .skip (.exit 2)),(.block 3 (zsq [(.reg [zia 38 34 36 [TI],zld 39 38 1,zmv 11 39]),(.reg [zmv 41 9,zmv 42 11,zca 43 216 [41,42],zmv 40 43,zex 44 40 0,zex 45 40 1,zmv 12 44,zmv 13 45]),(.reg [zfa 46 6 2,zld 47 46 1,zmv 48 12,zop 49 (.bsl 3 [TI] [48]),zop 50 (.app 47 49 3 [TI]),zfa 51 6 2,zst 51 50 1]),(.reg [zmv 52 7,zmv 53 52,.grp 53 false [zmv 54 13] 55 54,zmv 7 55])])),(.reg [zbi 56 .add 36 (zki 1),zmv 36 56])])
def QuY:List (Nat × Md):=[(1,.one .d),(4,.b [.d,.d,.d]),(6,.b [.d,.d,.f]),(7,.one .d),(9,.one .d),(28,.one .d),(29,.one .d),(30,.one .d),(34,.one .d),(35,.one .d),(36,.one .d)]
def QBt:TCode :=
 (.reg [zbi 57 .add 30 (zki 1),zmv 30 57])
def QqJ:TCode :=
 (zsq [(.reg [zbi 31 .lss 30 29]),(.cond 31 .skip (.exit 0)),(.block 1 (zsq [(.reg [zia 32 28 30 [TI],zld 33 32 1,zmv 9 33]),(.reg [zmv 34 1,zle 35 34,zmv 36 (zki 0)]),(.block 2 (.loop QuY Qua))])),QBt])
def QkC:List (Nat × Md):=[(1,.one .d),(4,.b [.d,.d,.d]),(6,.b [.d,.d,.o 3]),(7,.one .d),(28,.one .d),(29,.one .d),(30,.one .d)]
def QCr:TCode :=
 (zsq [(.reg [zLd 58 6 3,zmv 59 7,zst 4 58 3,zmv 5 59]),.ret])
def QQL:TCode :=
 (zsq [(.reg [zop 4 (.new 185 (z0s [TI,TI,(.sl [TI])])),zmv 5 (zkb false)]),(zsq [(.reg [zmv 14 0,zca 15 134 [14],zno 16 15,zmv 17 16,.grp 17 false [zmv 18 1,zca 19 134 [18],zno 20 19] 21 20]),(.cond 21 (zsq [(.reg [zop 22 (.build (z0s [TI,TI,(.sl [TI])]) []),zst 4 22 3,zmv 5 (zkb false)]),.ret]) .skip)]),(.reg [zmv 23 0,zle 24 23,zmv 25 1,zle 26 25,zop 27 (.build (z0s [TI,TI,(.sl [TI])]) [(0,1,24),(1,1,26)]),zop 6 (.new 185 (z0s [TI,TI,(.sl [TI])])),zst 6 27 3]),(.reg [zmv 7 (zkb false)]),(zsq [(.reg [zmv 28 0,zle 29 28,zmv 30 (zki 0)]),(.block 0 (.loop QkC QqJ))]),QCr])
def QvY:List (ARv × Md):=[(.l 4 3 true,.b [.d,.d,.d]),(.t 5,.one .d)]
def QyK:Qb:=TQ 0 0 QvY K
def QP2:Qb:=Qseq (tawp QeH 0 QCr (QyK K)) (QyK K)
def Qnl:Qb:=Qblk 0 (QP2 K)
def Qyt:Qb:=Qseq (fun s'=>Loop QeH 0 QkC QqJ (Qnl K) (gc 0 QkC s')) (Qnl K)
def QXZ:Qb:=Qseq (tawp QeH 0 QBt (Qyt K)) (Qyt K)
def QGF:Qb:=Qblk 1 (QXZ K)
def QXD:Qb:=Qblk 2 (QGF K)
def QiY (d:List Int) (x:List Int) (out:Bool) (x1:Int) (m2:List Int) (x2:Int):Prop:=Loop QeH 0 QuY Qua (QXD K) ⟨[(1,(zcs [TI] x)),(4,(.p 0 0 0)),(6,(.p 2 0 0)),(7,(zcb out)),(9,(zci (gtd (0:Int) d (Int.toNat x2)))),(28,(zcs [TI] d)),(29,(zci (d.length:Int))),(30,(zci x2)),(34,(zcs [TI] x)),(35,(zci (x.length:Int))),(36,(zci x1))],[(0,(.box [(zci 0),(zci 0),(zcs [TI] ([]))])),(1,(.sl 3 [TI] true m2)),(2,(.box [(zci (d.length:Int)),(zci (x.length:Int)),(.r [TI] 1 0 m2.length)]))],3⟩
def Qkw (d:List Int) (x:List Int) (out1:Bool) (x2:Int) (m21:List Int):Prop:=Loop QeH 0 QkC QqJ (Qnl K) ⟨[(1,(zcs [TI] x)),(4,(.p 0 0 0)),(6,(.p 2 0 0)),(7,(zcb out1)),(28,(zcs [TI] d)),(29,(zci (d.length:Int))),(30,(zci x2))],[(0,(.box [(zci 0),(zci 0),(zcs [TI] ([]))])),(1,(.sl 3 [TI] true m21)),(2,(.box [(zci (d.length:Int)),(zci (x.length:Int)),(.r [TI] 1 0 m21.length)]))],3⟩
theorem QsA (d:List Int) (x:List Int) (out:Bool) (x1:Int) (m2:List Int) (x2:Int) (h :
 (zif (decide (x1<(x.length:Int))) (((0:Int)≤x1∧Int.toNat x1<x.length)∧(((m2.length=m2.length∨m2.length+1≤m2.length)∧m2.length+1≤big)∧(QiY K d x (out||((Zr (gtd (0:Int) d (Int.toNat x2)) (gtd (0:Int) x (Int.toNat x1))).2)) (w64 (x1+(1:Int))) (List.take (m2.length+1) ((List.take m2.length m2)++([(Zr (gtd (0:Int) d (Int.toNat x2)) (gtd (0:Int) x (Int.toNat x1))).1]))) x2))) (Qkw K d x out (w64 (x2+(1:Int))) (List.take m2.length m2)))):QiY K d x out x1 m2 x2 :=
 Loop.of (by kernel_rfl) h
theorem QCf (d:List Int) (x:List Int) (out1:Bool) (x2:Int) (m21:List Int) (h :
 (zif (decide (x2<(d.length:Int))) (((0:Int)≤x2∧Int.toNat x2<d.length)∧(QiY K d x out1 0 (List.take m21.length m21) x2)) (K (QaQ (((d.length:Int),(x.length:Int),(List.take m21.length (List.drop 0 m21))),out1))))):Qkw K d x out1 x2 m21 :=
 Loop.of (by kernel_rfl) h
theorem QJ6 (d:List Int) (x:List Int) (h :
 (zif ((!(QJ d))||(!(QJ x))) (K (QaQ (((0:Int),(0:Int),[]),false))) (Qkw K d x false 0 ([]:List Int)))):Hold (tawp QeH (0+0) QQL (TQ 0 0 QvY K) (Qg [(.c (.sl [TI]) d),(.c (.sl [TI]) x)])) :=
 Hold.of (by kernel_rfl) h
theorem QPz (d:List Int) (x:List Int):TCon Tryz.prog 219 [(.c (.sl [TI]) d),(.c (.sl [TI]) x)] (QaQ (Zm d x)):=by
 refine Qo rfl fun hb=>tcg (n:=60) (sg:=Qnr.sg) Qm (TOk.cons Qdc (TOk.cons Qmk TOk.nil)) (by kernel_rfl) (by kernel_rfl) (QJ6 _ d x ?_)
 have hl_d:d.length≤9223372036854775807:=hb.1.1
 have hl_x:x.length≤9223372036854775807:=hb.2.1.1
 refine ⟨fun h=>R_eq (by unfold Zm;rw [if_neg (by simpa [Classical.or_iff_not_imp_left] using h)]),fun h=>?_⟩
 have hp:QJ d=true∧QJ x=true:=by simpa using h
 have h6:=(Z0.1 hp.1).1
 have h7:=(Z0.1 hp.2).1
 refine Zp d (fun r j=>∀ (v:List Int) (z:Bool),v.length≤6*j→((((d.length:Int),(x.length:Int),v++r.flatMap fun a=>x.map fun b=>(Zr a b).1),z||r.any fun a=>x.any fun b=>(Zr a b).2):TMat × Bool)=(Zm d x)→Qkw (fun r'=>r'=QaQ (Zm d x)) d x z j v) ?_ ?_ [] false (Nat.zero_le _) (by unfold Zm;rw [if_pos (by simp [hp])];simp)
 ·intro v z hv he
  refine QCf (fun r'=>r'=QaQ (Zm d x)) d x _ _ _ ⟨fun h=>by simp at h,fun _=>R_eq ?_⟩
  rw [← he];simp
 ·intro j y r hj hlt hg ih v z hv he
  refine QCf (fun r'=>r'=QaQ (Zm d x)) d x _ _ _ ⟨fun _=>?_,fun h=>by simp at h;omega⟩
  rw [List.take_length]
  refine ⟨⟨by omega,by omega⟩,Zp x (fun r2 k=>∀ (v2:List Int) (z2:Bool),v2.length=v.length+k→v2++r2.map (fun b=>(Zr y b).1)=v++x.map (fun b=>(Zr y b).1)→(z2||r2.any fun b=>(Zr y b).2)=(z||x.any fun b=>(Zr y b).2)→QiY (fun r'=>r'=QaQ (Zm d x)) d x z2 k v2 j) ?_ ?_ v z (by omega) rfl rfl⟩
  ·intro v2 z2 hv2 he2 hz2
   refine QsA (fun r'=>r'=QaQ (Zm d x)) d x _ _ _ _ ⟨fun h=>by simp at h,fun _=>?_⟩
   rw [List.take_length,sc1 (by omega)]
   simp only [List.map_nil,List.append_nil,List.any_nil,Bool.or_false] at he2 hz2
   refine ih _ _ (by rw [hv2];omega) ?_
   rw [← he,he2,hz2];simp [Bool.or_assoc]
  ·intro k w r2 hk hlt2 hg2 ih2 v2 z2 hv2 he2 hz2
   refine QsA (fun r'=>r'=QaQ (Zm d x)) d x _ _ _ _ ⟨fun _=>?_,fun h=>by simp at h;omega⟩
   rw [Int.toNat_natCast,Int.toNat_natCast,hg,hg2,sc1 (by omega),Q8]
   refine ⟨⟨by omega,by omega⟩,room (by omega),ih2 _ _ (by simp;omega) ?_ ?_⟩
   ·rw [← he2];simp
   ·rw [← hz2];simp [Bool.or_assoc]
theorem QYY:Qj Tryz.prog Qnr:=Qn fun x _=>QPz x.1 x.2.1
def QaB (t:TMat × Bool):TRes:=zra (.tp [(.a [(zci t.1.1),(zci t.1.2.1),(zcs [TI] t.1.2.2)]),(zcb t.2)])
def QmI:TRow:=Qk 232 [(.c (.sl [TI])),(.c (.sl [TI]))] fun x=>(none,QaB (Zm x.1 x.2.1))
def Qd5:List TRow:=[Y7,QfU]
def QtH:TCode :=
 (zsq [(zsq [(.reg [zmv 32 9,zmv 33 1,zle 34 33,zbi 35 .lss 32 34]),(.cond 35 .skip (.exit 2))]),(.block 3 (zsq [(.draw [zmv 39 0,zmv 40 8,zia 41 39 40 [TI],zld 42 41 1,zmv 43 1,zmv 44 9,zia 45 43 44 [TI],zld 46 45 1,zca 47 229 [42,46],zmv 38 47,zex 48 38 0,zex 49 38 1,zmv 10 48,zmv 11 49] []),(.reg [zfa 50 6 2,zld 51 50 1,zmv 52 10,zop 53 (.bsl 3 [TI] [52]),zop 54 (.app 51 53 3 [TI]),zfa 55 6 2,zst 55 54 1]),(.reg [zmv 56 7,zmv 57 56,.grp 57 false [zmv 58 11] 59 58,zmv 7 59])])),(.reg [zmv 36 9,zbi 37 .add 36 (zki 1),zmv 9 37])])
def QEd:List (Nat × Md):=[(0,.one .d),(1,.one .d),(4,.b [.d,.d,.d]),(6,.b [.d,.d,.f]),(7,.one .d),(8,.one .d),(9,.one .d)]
def QzA:TCode :=
 (.reg [zmv 30 8,zbi 31 .add 30 (zki 1),zmv 8 31])
def QlC:TCode :=
 (zsq [(zsq [(.reg [zmv 26 8,zmv 27 0,zle 28 27,zbi 29 .lss 26 28]),(.cond 29 .skip (.exit 0))]),(.block 1 (zsq [(.reg [zmv 9 (zki 0)]),(.block 2 (.loop QEd QtH))])),QzA])
def Qj4:List (Nat × Md):=[(0,.one .d),(1,.one .d),(4,.b [.d,.d,.d]),(6,.b [.d,.d,.o 3]),(7,.one .d),(8,.one .d)]
def QrE:TCode :=
 (zsq [(.reg [zLd 60 6 3,zmv 61 7,zst 4 60 3,zmv 5 61]),.ret])
def QUv:TCode :=
 (zsq [(.reg [zop 4 (.new 185 (z0s [TI,TI,(.sl [TI])])),zmv 5 (zkb false)]),(zsq [(.reg [zmv 12 0,zca 13 42 [12],zno 14 13,zmv 15 14,.grp 15 false [zmv 16 1,zca 17 42 [16],zno 18 17] 19 18]),(.cond 19 (zsq [(.reg [zop 20 (.build (z0s [TI,TI,(.sl [TI])]) []),zst 4 20 3,zmv 5 (zkb false)]),.ret]) .skip)]),(.reg [zmv 21 0,zle 22 21,zmv 23 1,zle 24 23,zop 25 (.build (z0s [TI,TI,(.sl [TI])]) [(0,1,22),(1,1,24)]),zop 6 (.new 185 (z0s [TI,TI,(.sl [TI])])),zst 6 25 3]),(.reg [zmv 7 (zkb false)]),(zsq [(.reg [zmv 8 (zki 0)]),(.block 0 (.loop Qj4 QlC))]),QrE])
def Qte:List (ARv × Md):=[(.l 4 3 true,.b [.d,.d,.d]),(.t 5,.one .d)]
def QrI:Qb:=TQ 0 0 Qte K
def QMM:Qb:=Qseq (tawp Qd5 0 QrE (QrI K)) (QrI K)
def QpQ:Qb:=Qblk 0 (QMM K)
def QxE:Qb:=Qseq (fun s'=>Loop Qd5 0 Qj4 QlC (QpQ K) (gc 0 Qj4 s')) (QpQ K)
def QJL:Qb:=Qseq (tawp Qd5 0 QzA (QxE K)) (QxE K)
def QI0:Qb:=Qblk 1 (QJL K)
def QYG:Qb:=Qblk 2 (QI0 K)
def Qho (d:List Int) (x:List Int) (sat:Bool) (k:Int) (m2:List Int) (i:Int):Prop:=Loop Qd5 0 QEd QtH (QYG K) ⟨[(0,(zcs [TI] d)),(1,(zcs [TI] x)),(4,(.p 0 0 0)),(6,(.p 2 0 0)),(7,(zcb sat)),(8,(zci i)),(9,(zci k))],[(0,(.box [(zci 0),(zci 0),(zcs [TI] ([]))])),(1,(.sl 3 [TI] true m2)),(2,(.box [(zci (d.length:Int)),(zci (x.length:Int)),(.r [TI] 1 0 m2.length)]))],3⟩
def Qim (d:List Int) (x:List Int) (sat1:Bool) (i:Int) (m21:List Int):Prop:=Loop Qd5 0 Qj4 QlC (QpQ K) ⟨[(0,(zcs [TI] d)),(1,(zcs [TI] x)),(4,(.p 0 0 0)),(6,(.p 2 0 0)),(7,(zcb sat1)),(8,(zci i))],[(0,(.box [(zci 0),(zci 0),(zcs [TI] ([]))])),(1,(.sl 3 [TI] true m21)),(2,(.box [(zci (d.length:Int)),(zci (x.length:Int)),(.r [TI] 1 0 m21.length)]))],3⟩
theorem Qu3 (d:List Int) (x:List Int) (sat:Bool) (k:Int) (m2:List Int) (i:Int) (h :
 (zif (decide (k<(x.length:Int))) ((((0:Int)≤i∧Int.toNat i<d.length)∧((0:Int)≤k∧Int.toNat k<x.length))∧(((m2.length=m2.length∨m2.length+1≤m2.length)∧m2.length+1≤big)∧(Qho K d x (sat||((Zr (gtd (0:Int) d (Int.toNat i)) (gtd (0:Int) x (Int.toNat k))).2)) (w64 (k+(1:Int))) (List.take (m2.length+1) ((List.take m2.length m2)++([(Zr (gtd (0:Int) d (Int.toNat i)) (gtd (0:Int) x (Int.toNat k))).1]))) i))) (Qim K d x sat (w64 (i+(1:Int))) (List.take m2.length m2)))):Qho K d x sat k m2 i :=
 Loop.of (by kernel_rfl) h
theorem Qta (d:List Int) (x:List Int) (sat1:Bool) (i:Int) (m21:List Int) (h :
 (zif (decide (i<(d.length:Int))) (Qho K d x sat1 0 (List.take m21.length m21) i) (K (QaB (((d.length:Int),(x.length:Int),(List.take m21.length (List.drop 0 m21))),sat1))))):Qim K d x sat1 i m21 :=
 Loop.of (by kernel_rfl) h
theorem QQv (d:List Int) (x:List Int) (h :
 (zif ((!(QJ d))||(!(QJ x))) (K (QaB (((0:Int),(0:Int),[]),false))) (Qim K d x false 0 ([]:List Int)))):Hold (tawp Qd5 (0+0) QUv (TQ 0 0 Qte K) (Qg [(.c (.sl [TI]) d),(.c (.sl [TI]) x)])) :=
 Hold.of (by kernel_rfl) h
theorem QJE (d:List Int) (x:List Int):TCon Tryz.prog 232 [(.c (.sl [TI]) d),(.c (.sl [TI]) x)] (QaB (Zm d x)):=by
 refine Qo rfl fun hb=>tcg (n:=62) (sg:=QmI.sg) Qm (TOk.cons Jp (TOk.cons QkU TOk.nil)) (by kernel_rfl) (by kernel_rfl) (QQv _ d x ?_)
 have hl_d:d.length≤9223372036854775807:=hb.1.1
 have hl_x:x.length≤9223372036854775807:=hb.2.1.1
 refine ⟨fun h=>R_eq (by unfold Zm;rw [if_neg (by simpa [Classical.or_iff_not_imp_left] using h)]),fun h=>?_⟩
 have hp:QJ d=true∧QJ x=true:=by simpa using h
 have h6:=(Z0.1 hp.1).1
 have h7:=(Z0.1 hp.2).1
 refine Zp d (fun r j=>∀ (v:List Int) (z:Bool),v.length≤6*j→((((d.length:Int),(x.length:Int),v++r.flatMap fun a=>x.map fun b=>(Zr a b).1),z||r.any fun a=>x.any fun b=>(Zr a b).2):TMat × Bool)=(Zm d x)→Qim (fun r'=>r'=QaB (Zm d x)) d x z j v) ?_ ?_ [] false (Nat.zero_le _) (by unfold Zm;rw [if_pos (by simp [hp])];simp)
 ·intro v z hv he
  refine Qta (fun r'=>r'=QaB (Zm d x)) d x _ _ _ ⟨fun h=>by simp at h,fun _=>R_eq ?_⟩
  rw [← he];simp
 ·intro j y r hj hlt hg ih v z hv he
  refine Qta (fun r'=>r'=QaB (Zm d x)) d x _ _ _ ⟨fun _=>?_,fun h=>by simp at h;omega⟩
  rw [List.take_length]
  refine Zp x (fun r2 k=>∀ (v2:List Int) (z2:Bool),v2.length=v.length+k→v2++r2.map (fun b=>(Zr y b).1)=v++x.map (fun b=>(Zr y b).1)→(z2||r2.any fun b=>(Zr y b).2)=(z||x.any fun b=>(Zr y b).2)→Qho (fun r'=>r'=QaB (Zm d x)) d x z2 k v2 j) ?_ ?_ v z (by omega) rfl rfl
  ·intro v2 z2 hv2 he2 hz2
   refine Qu3 (fun r'=>r'=QaB (Zm d x)) d x _ _ _ _ ⟨fun h=>by simp at h,fun _=>?_⟩
   rw [List.take_length,sc1 (by omega)]
   simp only [List.map_nil,List.append_nil,List.any_nil,Bool.or_false] at he2 hz2
   refine ih _ _ (by rw [hv2];omega) ?_
   rw [← he,he2,hz2];simp [Bool.or_assoc]
  ·intro k w r2 hk hlt2 hg2 ih2 v2 z2 hv2 he2 hz2
   refine Qu3 (fun r'=>r'=QaB (Zm d x)) d x _ _ _ _ ⟨fun _=>?_,fun h=>by simp at h;omega⟩
   rw [Int.toNat_natCast,Int.toNat_natCast,hg,hg2,sc1 (by omega),Q8]
   refine ⟨⟨⟨by omega,by omega⟩,by omega,by omega⟩,room (by omega),ih2 _ _ (by simp;omega) ?_ ?_⟩
   ·rw [← he2];simp
   ·rw [← hz2];simp [Bool.or_assoc]
theorem QY2:Qj Tryz.prog QmI:=Qn fun x _=>QJE x.1 x.2.1
def Ql0 (t:TMat):TRes:=zra (.a [(zci t.1),(zci t.2.1),(zcs [TI] t.2.2)])
def Qjw:TRow:=Qk 212 [(.a ctOp)] fun x=>(none,Ql0 (Q2 x.1))
def QTP:List TRow:=[]
def QGc:TCode :=
 (zsq [(.reg [zop 1 (.box 69 0 4),zop 2 (.new 185 (z0s [TI,TI,(.sl [TI])]))]),(.reg [zfa 3 1 2,zld 4 3 1,zfa 5 1 1,zld 6 5 1,zfa 7 1 3,zld 8 7 1,zop 9 (.build (z0s [TI,TI,(.sl [TI])]) [(0,1,4),(1,1,6),(2,1,8)]),zst 2 9 3]),.ret])
def QGj:List (ARv × Md):=[(.l 2 3 true,.b [.d,.d,.d])]
theorem QXv (o:TOp') (h :
 K (Ql0 (o.2.2.1,o.2.1,o.2.2.2))):Hold (tawp QTP (0+0) QGc (TQ 0 0 QGj K) (Qg [(.a (Tup.cells ctOp o))])) :=
 Hold.of (by kernel_rfl) h
theorem QGL (o:TOp'):TCon Tryz.prog 212 [(.a (Tup.cells ctOp o))] (Ql0 (Q2 o)):=by
 refine Qo rfl fun hb=>tcg (n:=10) (sg:=Qjw.sg) Qm TOk.nil (by kernel_rfl) (by kernel_rfl) (QXv _ o ?_)
 have hl_o_3:(o.2.2.2).length≤9223372036854775807:=hb.1.2.2.2.1.1
 exact R_eq rfl
theorem QDJ:Qj Tryz.prog Qjw:=Qn fun x _=>QGL x.1
def Qok (t:TMat):TRes:=zra (.a [(zci t.1),(zci t.2.1),(zcs [TI] t.2.2)])
def QiA:TRow:=Qk 225 [(.a ctOp)] fun x=>(none,Qok (Q2 x.1))
def QIc:List TRow:=[]
def QWw:TCode :=
 (zsq [(.reg [zop 1 (.box 69 0 4),zop 2 (.new 185 (z0s [TI,TI,(.sl [TI])]))]),(.reg [zfa 3 1 2,zld 4 3 1,zfa 5 1 1,zld 6 5 1,zfa 7 1 3,zld 8 7 1,zop 9 (.build (z0s [TI,TI,(.sl [TI])]) [(0,1,4),(1,1,6),(2,1,8)]),zst 2 9 3]),.ret])
def QVN:List (ARv × Md):=[(.l 2 3 true,.b [.d,.d,.d])]
theorem QNQ (o:TOp') (h :
 K (Qok (o.2.2.1,o.2.1,o.2.2.2))):Hold (tawp QIc (0+0) QWw (TQ 0 0 QVN K) (Qg [(.a (Tup.cells ctOp o))])) :=
 Hold.of (by kernel_rfl) h
theorem QLx (o:TOp'):TCon Tryz.prog 225 [(.a (Tup.cells ctOp o))] (Qok (Q2 o)):=by
 refine Qo rfl fun hb=>tcg (n:=10) (sg:=QiA.sg) Qm TOk.nil (by kernel_rfl) (by kernel_rfl) (QNQ _ o ?_)
 have hl_o_3:(o.2.2.2).length≤9223372036854775807:=hb.1.2.2.2.1.1
 exact R_eq rfl
theorem QAm:Qj Tryz.prog QiA:=Qn fun x _=>QLx x.1
end
end Go.Proofs.YtjbdljkhbglnhaaGreat.Am

