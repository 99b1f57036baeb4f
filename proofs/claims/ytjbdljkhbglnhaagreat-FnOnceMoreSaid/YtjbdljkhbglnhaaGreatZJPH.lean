/- -/
import Derived.Test.YtjbdljkhbglnhaaGreatZJP1
import Derived.Test.YtjbdljkhbglnhaaGreatZJPG
import Derived.Test.YtjbdljkhbglnhaaGreatZJPF
namespace Go.Proofs.YtjbdljkhbglnhaaGreat.Am
open Go Go.RowKit Go.Proofs.YtjbdljkhbglnhaaGreat
set_option linter.all false
noncomputable section
variable (K:TRes→Prop)
def Qen (t:Bool):TRes:=zre (zcb t)
def QcF:TRow:=Qg 233 [(.a [TI,TI,(.sl [TI])])] fun x=>(none,Qen (Q7 x.1))
def QHm:List TRow:=[Qdq]
def Qu7:TCode :=
 (zsq [(.reg [zop 1 (.box 185 0 3),zmv 2 (zkb false)]),(zsq [(.reg [zfa 3 1 0,zld 4 3 1,zbi 5 .lss 4 (zki 1),zmv 6 5,.grp 6 false [zfa 7 1 0,zld 8 7 1,zbi 9 .gtr 8 (zki 6)] 10 9,zmv 11 10,.grp 11 false [zfa 12 1 1,zld 13 12 1,zbi 14 .lss 13 (zki 1)] 15 14,zmv 16 15,.grp 16 false [zfa 17 1 1,zld 18 17 1,zbi 19 .gtr 18 (zki 6)] 20 19]),(.cond 20 (zsq [(.reg [zmv 2 (zkb false)]),.ret]) .skip)]),(.reg [zfa 21 1 2,zld 22 21 1,zle 23 22,zfa 24 1 0,zld 25 24 1,zfa 26 1 1,zld 27 26 1,zbi 28 .mul 25 27,zbi 29 .eql 23 28,zmv 30 29,.grp 30 true [zfa 31 1 2,zld 32 31 1,zca 33 195 [32]] 34 33,zmv 2 34]),.ret])
def QIf:List (ARv × Md):=[(.t 2,.one .d)]
theorem QE6 (m:TMat) (h :
 (zif ((((decide (m.1<(1:Int)))||(decide (m.1>(6:Int))))||(decide (m.2.1<(1:Int))))||(decide (m.2.1>(6:Int)))) (K (Qen false)) (K (Qen ((((m.2.2).length:Int)==(w64 (m.1*m.2.1)))&&(Q8 m.2.2)))))):Hold (tawp QHm (0+0) Qu7 (TQ 0 0 QIf K) (Qe [(.a [(.c TI m.1),(.c TI m.2.1),(.c (.sl [TI]) m.2.2)])])) :=
 Hold.of (by kernel_rfl) h
theorem QCZ (m:TMat):TCon Tryz.prog 233 [(.a [(.c TI m.1),(.c TI m.2.1),(.c (.sl [TI]) m.2.2)])] (Qen (Q7 m)):=by
 refine Ql rfl fun hb=>tcg (n:=35) (sg:=QcF.sg) Qi (TOk.cons QkU TOk.nil) (by kernel_rfl) (by kernel_rfl) (QE6 _ m ?_)
 have hl_m_2:(m.2.2).length≤9223372036854775807:=hb.1.2.2.1.1
 refine ⟨fun h=>R_eq ?_,fun h=>R_eq ?_⟩
 ·have:(m_in m.1 1 6&&m_in m.2.1 1 6)=false:=by simp [m_in];simp at h;omega
  unfold Q7;rw [this];rfl
 ·have h':(1≤m.1∧m.1≤6)∧1≤m.2.1∧m.2.1≤6:=by simp at h;omega
  have hm:=QaV h'.1.1 h'.1.2 h'.2.1 h'.2.2
  rw [Qs (x:=m.1*m.2.1) (by omega) (by omega)]
  unfold Q7
  rw [Zh.2 h'.1,Zh.2 h'.2];simp
theorem Qhv:Qh Tryz.prog QcF:=Qk fun x _=>QCZ x.1
def JW (t:Bool):TRes:=zre (zcb t)
def Qfg:TRow:=Qg 236 [(.a [TI,TI,(.sl [TI])])] fun x=>(none,JW (Q7 x.1))
def QkP:List TRow:=[Y4,QbA]
def Qn0:TCode :=
 (zsq [(zsq [(.reg [zmv 25 3,zfa 26 1 2,zld 27 26 1,zle 28 27,zbi 29 .lss 25 28]),(.cond 29 .skip (.exit 0))]),(.block 1 (zsq [(.reg [zfa 32 1 2,zld 33 32 1,zmv 34 3,zia 35 33 34 [TI],zld 36 35 1,zca 37 110 [36],zno 38 37]),(.cond 38 (zsq [(.reg [zmv 2 (zkb false)]),.ret]) .skip)])),(.reg [zmv 30 3,zbi 31 .add 30 (zki 1),zmv 3 31])])
def QmJ:List (Nat × Md):=[(1,.b [.d,.d,.d]),(3,.one .d)]
def Qqb:TCode :=
 (zsq [(.reg [zmv 2 (zkb true)]),.ret])
def Qxf:TCode :=
 (zsq [(.reg [zop 1 (.box 185 0 3),zmv 2 (zkb false)]),(zsq [(.reg [zfa 4 1 0,zld 5 4 1,zca 6 77 [5,(zki 1),(zki 6)],zno 7 6,zmv 8 7,.grp 8 false [zfa 9 1 1,zld 10 9 1,zca 11 77 [10,(zki 1),(zki 6)],zno 12 11] 13 12,zmv 14 13,.grp 14 false [zfa 15 1 2,zld 16 15 1,zle 17 16,zfa 18 1 0,zld 19 18 1,zfa 20 1 1,zld 21 20 1,zbi 22 .mul 19 21,zbi 23 .neq 17 22] 24 23]),(.cond 24 (zsq [(.reg [zmv 2 (zkb false)]),.ret]) .skip)]),(zsq [(.reg [zmv 3 (zki 0)]),(.block 0 (.loop QmJ Qn0))]),Qqb])
def QpI:List (ARv × Md):=[(.t 2,.one .d)]
def Qpx:Qc:=TQ 0 0 QpI K
def QBt:Qc:=Qseq (tawp QkP 0 Qqb (Qpx K)) (Qpx K)
def QEe:Qc:=Qblk 0 (QBt K)
def QgJ (m:TMat) (i:Int):Prop:=Loop QkP 0 QmJ Qn0 (QEe K) ⟨[(1,(.p 0 0 0)),(3,(zci i))],[(0,(.box [(zci m.1),(zci m.2.1),(zcs [TI] m.2.2)]))],1⟩
theorem QAZ (m:TMat) (i:Int) (h :
 (zif (decide (i<((m.2.2).length:Int))) (((0:Int)≤i∧Int.toNat i<(m.2.2).length)∧(zif (!(QU (gtd (0:Int) m.2.2 (Int.toNat i)))) (K (JW false)) (QgJ K m (w64 (i+(1:Int)))))) (K (JW true)))):QgJ K m i :=
 Loop.of (by kernel_rfl) h
theorem Qzj (m:TMat) (h :
 (zif (((!(m_in m.1 (1:Int) (6:Int)))||(!(m_in m.2.1 (1:Int) (6:Int))))||(((m.2.2).length:Int) != (w64 (m.1*m.2.1)))) (K (JW false)) (QgJ K m 0))):Hold (tawp QkP (0+0) Qxf (TQ 0 0 QpI K) (Qe [(.a [(.c TI m.1),(.c TI m.2.1),(.c (.sl [TI]) m.2.2)])])) :=
 Hold.of (by kernel_rfl) h
theorem QvG (m:TMat):TCon Tryz.prog 236 [(.a [(.c TI m.1),(.c TI m.2.1),(.c (.sl [TI]) m.2.2)])] (JW (Q7 m)):=by
 refine Ql rfl fun hb=>tcg (n:=39) (sg:=Qfg.sg) Qi (TOk.cons JB (TOk.cons QfC TOk.nil)) (by kernel_rfl) (by kernel_rfl) (Qzj _ m ?_)
 have hl_m_2:(m.2.2).length≤9223372036854775807:=hb.1.2.2.1.1
 refine ⟨fun h=>R_eq ?_,fun h=>?_⟩
 ·have:Q7 m=false:=by
   cases hm:Q7 m with
   | false=>rfl
   | true =>
    obtain ⟨h1,h2,h3,h4,h5,h6,h7⟩:=Qax hm
    rw [Zh.2 ⟨h1,h2⟩,Zh.2 ⟨h3,h4⟩,Qs (x:=m.1*m.2.1) (by have:=QaV h1 h2 h3 h4;omega) (by omega),← h5] at h
    simp at h
  exact this.symm
 ·have h':m_in m.1 1 6=true∧m_in m.2.1 1 6=true:=by simp at h;exact h.1
  have h1:=Zh.1 h'.1
  have h2:=Zh.1 h'.2
  have hm:=QaV h1.1 h1.2 h2.1 h2.2
  rw [Qs (x:=m.1*m.2.1) (by omega) (by omega)] at h
  exact Qge (Q:=fun x=>JW x=JW (Q7 m)) (p:=QU) (c:=fun x=>!(QU x)) 0 hl_m_2 (fun _=>rfl) (fun i h=>QAZ (fun r'=>r'=JW (Q7 m)) m i h) (R_eq (by
   unfold Q7 Q8
   have h3:((m.2.2.length:Int)==m.1*m.2.1)=true:=by simp [h'] at h;simp [h]
   rw [h'.1,h'.2,h3];simp))
theorem QqW:Qh Tryz.prog Qfg:=Qk fun x _=>QvG x.1
def Qjo (t:(List Int)):TRes:=zra (zcs [TI] t)
def Qj5:TRow:=Qg 237 [(.a [TI,TI,(.sl [TI])]),(.c TI)] fun x=>(some (QiM x.1 x.2.1),Qjo (Ya x.1 x.2.1))
def QF3:List TRow:=[]
def QGp:TCode :=
 (zsq [(.reg [zop 2 (.box 185 0 3),zmv 4 (.k (.n [TI]))]),(.reg [zfa 5 2 2,zld 6 5 1,zmv 7 1,zfa 8 2 1,zld 9 8 1,zbi 10 .mul 7 9,zmv 11 1,zbi 12 .add 11 (zki 1),zfa 13 2 1,zld 14 13 1,zbi 15 .mul 12 14,zop 16 (.slc 6 (some 10) (some 15) [TI]),zmv 4 16]),.ret])
def QB7:List (ARv × Md):=[(.t 4,.one .d)]
theorem QJa (m:TMat) (i:Int) (h :
 (((0:Int)≤w64 (i*m.2.1)∧w64 (i*m.2.1)≤w64 ((w64 (i+(1:Int)))*m.2.1)∧w64 ((w64 (i+(1:Int)))*m.2.1)≤((m.2.2).length:Int))∧K (Qjo (List.take (Int.toNat (w64 ((w64 (i+(1:Int)))*m.2.1))-Int.toNat (w64 (i*m.2.1))) (List.drop (Int.toNat (w64 (i*m.2.1))) m.2.2))))):Hold (tawp QF3 (0+0) QGp (TQ 0 0 QB7 K) (Qe [(.a [(.c TI m.1),(.c TI m.2.1),(.c (.sl [TI]) m.2.2)]),(.c TI i)])) :=
 Hold.of (by kernel_rfl) h
theorem Qv9 (m:TMat) (i:Int) (hp:QiM m i):TCon Tryz.prog 237 [(.a [(.c TI m.1),(.c TI m.2.1),(.c (.sl [TI]) m.2.2)]),(.c TI i)] (Qjo (Ya m i)):=by
 refine Ql rfl fun hb=>tcg (n:=17) (sg:=Qj5.sg) Qi TOk.nil (by kernel_rfl) (by kernel_rfl) (QJa _ m i ?_)
 have hl_m_2:(m.2.2).length≤9223372036854775807:=hb.1.2.2.1.1
 obtain ⟨h1,h2,h3,h4,h5,h6⟩:=hp
 have hd:=idx h3 h4 h1
 have h36:m.1*m.2.1≤36:=by
  have:=Int.mul_le_mul h5 h2 h1 (by omega:(0:Int)≤6);omega
 rw [Qs (x:=i+1) (by omega) (by omega),Qs (x:=i*m.2.1) (by omega) (by omega),Qs (x:=(i+1)*m.2.1) (by omega) (by omega)]
 exact ⟨⟨by omega,by omega,by omega⟩,R_eq rfl⟩
theorem QwQ:Qh Tryz.prog Qj5:=Qk fun x h=>Qv9 x.1 x.2.1 h
def Qb2 (t:(List Int)):TRes:=zra (zcs [TI] t)
def Qjj:TRow:=Qg 240 [(.a [TI,TI,(.sl [TI])]),(.c TI)] fun x=>(some (Qiv x.1 x.2.1),Qb2 (Zv x.1 x.2.1))
def Qkx:List TRow:=[]
def Qud:TCode :=
 (zsq [(zsq [(.reg [zmv 8 6,zfa 9 2 0,zld 10 9 1,zbi 11 .lss 8 10]),(.cond 11 .skip (.exit 0))]),(.block 1 (.reg [zmv 14 5,zfa 15 2 2,zld 16 15 1,zmv 17 6,zfa 18 2 1,zld 19 18 1,zbi 20 .mul 17 19,zmv 21 1,zbi 22 .add 20 21,zia 23 16 22 [TI],zld 24 23 1,zop 25 (.bsl 3 [TI] [24]),zop 26 (.app 14 25 3 [TI]),zmv 5 26])),(.reg [zmv 12 6,zbi 13 .add 12 (zki 1),zmv 6 13])])
def QpH:List (Nat × Md):=[(1,.one .d),(2,.b [.d,.d,.d]),(5,.one .f),(6,.one .d)]
def Qop:TCode :=
 (zsq [(.reg [zmv 27 5,zmv 4 27]),.ret])
def Qz2:TCode :=
 (zsq [(.reg [zop 2 (.box 185 0 3),zmv 4 (.k (.n [TI]))]),(.reg [zop 7 (.bsl 3 [TI] []),zmv 5 7]),(zsq [(.reg [zmv 6 (zki 0)]),(.block 0 (.loop QpH Qud))]),Qop])
def Qs5:List (ARv × Md):=[(.t 4,.one .d)]
def Qqi:Qc:=TQ 0 0 Qs5 K
def Qva:Qc:=Qseq (tawp Qkx 0 Qop (Qqi K)) (Qqi K)
def QFZ:Qc:=Qblk 0 (Qva K)
def QdN (m:TMat) (k:Int) (i:Int) (out:List Int):Prop:=Loop Qkx 0 QpH Qud (QFZ K) ⟨[(1,(zci k)),(2,(.p 0 0 0)),(5,(.r [TI] 1 0 out.length)),(6,(zci i))],[(0,(.box [(zci m.1),(zci m.2.1),(zcs [TI] m.2.2)])),(1,(.sl 3 [TI] true out))],2⟩
theorem Qpe (m:TMat) (k:Int) (i:Int) (out:List Int) (h :
 (zif (decide (i<m.1)) ((((0:Int)≤w64 ((w64 (i*m.2.1))+k)∧Int.toNat (w64 ((w64 (i*m.2.1))+k))<(m.2.2).length)∧((out.length=out.length∨out.length+1≤out.length)∧out.length+1≤big))∧(QdN K m k (w64 (i+(1:Int))) (List.take (out.length+1) ((List.take out.length out)++([(gtd (0:Int) m.2.2 (Int.toNat (w64 ((w64 (i*m.2.1))+k))))]))))) (K (Qb2 (List.take out.length (List.drop 0 out)))))):QdN K m k i out :=
 Loop.of (by kernel_rfl) h
theorem QE5 (m:TMat) (k:Int) (h :
 (QdN K m k 0 ([]:List Int))):Hold (tawp Qkx (0+0) Qz2 (TQ 0 0 Qs5 K) (Qe [(.a [(.c TI m.1),(.c TI m.2.1),(.c (.sl [TI]) m.2.2)]),(.c TI k)])) :=
 Hold.of (by kernel_rfl) h
theorem Qx5 (m:TMat) (k:Int) (hp:Qiv m k):TCon Tryz.prog 240 [(.a [(.c TI m.1),(.c TI m.2.1),(.c (.sl [TI]) m.2.2)]),(.c TI k)] (Qb2 (Zv m k)):=by
 refine Ql rfl fun hb=>tcg (n:=28) (sg:=Qjj.sg) Qi TOk.nil (by kernel_rfl) (by kernel_rfl) (QE5 _ m k ?_)
 have hl_m_2:(m.2.2).length≤9223372036854775807:=hb.1.2.2.1.1
 obtain ⟨h2,h3,h4,h5,h6,h7⟩:=hp
 have h36:m.1*m.2.1≤36:=by
  have:=Int.mul_le_mul h6 h2 (by omega) (by omega:(0:Int)≤6);omega
 refine Y7 m.1.toNat (fun j=>QdN (fun r'=>r'=Qb2 (Zv m k)) m k (j:Int) ((List.range j).map fun i:Nat=>gtd 0 m.2.2 ((i:Int)*m.2.1+k).toNat)) ?_ ?_
 ·refine Qpe (fun r'=>r'=Qb2 (Zv m k)) m k _ _ ⟨fun h=>by simp at h;omega,fun _=>R_eq ?_⟩
  unfold Zv;rw [List.drop_zero,List.take_length]
 ·intro j hj ih
  have hd:=idx (r:=j) (R:=m.1) (C:=m.2.1) (by omega) (by omega) (by omega)
  refine Qpe (fun r'=>r'=Qb2 (Zv m k)) m k _ _ ⟨fun _=>?_,fun h=>by simp at h;omega⟩
  rw [Qs (x:=(j:Int)*m.2.1) (by omega) (by omega),Qs (x:=(j:Int)*m.2.1+k) (by omega) (by omega),sc1 (by omega),Q9]
  rw [Qcn] at ih
  exact ⟨⟨⟨by omega,by omega⟩,room (by simp;omega)⟩,ih⟩
theorem QBU:Qh Tryz.prog Qjj:=Qk fun x h=>Qx5 x.1 x.2.1 h
def QaD (t:(List Int) × Bool):TRes:=zra (.tp [(zcs [TI] t.1),(zcb t.2)])
def QfZ:TRow:=Qg 211 [(.a [TI,TI,(.sl [TI])]),(.c (.sl [TI]))] fun x=>(none,QaD (Q0 x.1 x.2.1))
def QiX:List TRow:=[QcF,Y0,Qdh]
def QrV:TCode :=
 (zsq [(zsq [(.reg [zmv 22 8,zfa 23 2 0,zld 24 23 1,zbi 25 .lss 22 24]),(.cond 25 .skip (.exit 0))]),(.block 1 (zsq [(.reg [zfa 29 2 2,zld 30 29 1,zmv 31 8,zfa 32 2 1,zld 33 32 1,zbi 34 .mul 31 33,zmv 35 8,zbi 36 .add 35 (zki 1),zfa 37 2 1,zld 38 37 1,zbi 39 .mul 36 38,zop 40 (.slc 30 (some 34) (some 39) [TI]),zmv 41 1,zca 42 188 [40,41],zmv 28 42,zex 43 28 0,zex 44 28 1,zmv 9 43,zmv 10 44]),(.reg [zmv 45 6,zmv 46 9,zop 47 (.bsl 3 [TI] [46]),zop 48 (.app 45 47 3 [TI]),zmv 6 48]),(.reg [zmv 49 7,zmv 50 49,.grp 50 false [zmv 51 10] 52 51,zmv 7 52])])),(.reg [zmv 26 8,zbi 27 .add 26 (zki 1),zmv 8 27])])
def Qn9:List (Nat × Md):=[(1,.one .d),(2,.b [.d,.d,.d]),(6,.one .f),(7,.one .d),(8,.one .d)]
def QqV:TCode :=
 (zsq [(.reg [zmv 53 6,zmv 54 7,zmv 4 53,zmv 5 54]),.ret])
def QEl:TCode :=
 (zsq [(.reg [zop 2 (.box 185 0 3),zmv 4 (.k (.n [TI])),zmv 5 (zkb false)]),(zsq [(.reg [zLd 11 2 3,zca 12 233 [11],zno 13 12,zmv 14 13,.grp 14 false [zmv 15 1,zfa 16 2 1,zld 17 16 1,zca 18 114 [15,17],zno 19 18] 20 19]),(.cond 20 (zsq [(.reg [zmv 4 (.k (.n [TI])),zmv 5 (zkb false)]),.ret]) .skip)]),(.reg [zop 21 (.bsl 3 [TI] []),zmv 6 21]),(.reg [zmv 7 (zkb false)]),(zsq [(.reg [zmv 8 (zki 0)]),(.block 0 (.loop Qn9 QrV))]),QqV])
def QlZ:List (ARv × Md):=[(.t 4,.one .d),(.t 5,.one .d)]
def Qnj:Qc:=TQ 0 0 QlZ K
def QBV:Qc:=Qseq (tawp QiX 0 QqV (Qnj K)) (Qnj K)
def QIQ:Qc:=Qblk 0 (QBV K)
def QfQ (m:TMat) (x:List Int) (out:Bool) (r:Int) (v:List Int):Prop:=Loop QiX 0 Qn9 QrV (QIQ K) ⟨[(1,(zcs [TI] x)),(2,(.p 0 0 0)),(6,(.r [TI] 1 0 v.length)),(7,(zcb out)),(8,(zci r))],[(0,(.box [(zci m.1),(zci m.2.1),(zcs [TI] m.2.2)])),(1,(.sl 3 [TI] true v))],2⟩
theorem QpF (m:TMat) (x:List Int) (out:Bool) (r:Int) (v:List Int) (h :
 (zif (decide (r<m.1)) (((0:Int)≤w64 (r*m.2.1)∧w64 (r*m.2.1)≤w64 ((w64 (r+(1:Int)))*m.2.1)∧w64 ((w64 (r+(1:Int)))*m.2.1)≤((m.2.2).length:Int))∧(((v.length=v.length∨v.length+1≤v.length)∧v.length+1≤big)∧(QfQ K m x (out||((QM (List.take (Int.toNat (w64 ((w64 (r+(1:Int)))*m.2.1))-Int.toNat (w64 (r*m.2.1))) (List.drop (Int.toNat (w64 (r*m.2.1))) m.2.2)) x).2)) (w64 (r+(1:Int))) (List.take (v.length+1) ((List.take v.length v)++([(QM (List.take (Int.toNat (w64 ((w64 (r+(1:Int)))*m.2.1))-Int.toNat (w64 (r*m.2.1))) (List.drop (Int.toNat (w64 (r*m.2.1))) m.2.2)) x).1])))))) (K (QaD ((List.take v.length (List.drop 0 v)),out))))):QfQ K m x out r v :=
 Loop.of (by kernel_rfl) h
theorem QvC (m:TMat) (x:List Int) (h :
 (zif ((!(Q7 m))||(!(Qf x m.2.1))) (K (QaD ([],false))) (QfQ K m x false 0 ([]:List Int)))):Hold (tawp QiX (0+0) QEl (TQ 0 0 QlZ K) (Qe [(.a [(.c TI m.1),(.c TI m.2.1),(.c (.sl [TI]) m.2.2)]),(.c (.sl [TI]) x)])) :=
 Hold.of (by kernel_rfl) h
theorem QFF (m:TMat) (x:List Int):TCon Tryz.prog 211 [(.a [(.c TI m.1),(.c TI m.2.1),(.c (.sl [TI]) m.2.2)]),(.c (.sl [TI]) x)] (QaD (Q0 m x)):=by
 refine Ql rfl fun hb=>tcg (n:=55) (sg:=QfZ.sg) Qi (TOk.cons Qhv (TOk.cons Js (TOk.cons Qi9 TOk.nil))) (by kernel_rfl) (by kernel_rfl) (QvC _ m x ?_)
 have hl_m_2:(m.2.2).length≤9223372036854775807:=hb.1.2.2.1.1
 have hl_x:x.length≤9223372036854775807:=hb.2.1.1
 refine ⟨fun h=>R_eq (by rw [Qrw];intro h2;simp [h2.1,h2.2] at h),fun h=>?_⟩
 have hp:Q7 m=true∧Qf x m.2.1=true:=by simpa using h
 obtain ⟨h1,h2,h3,h4,h5,h6,h7⟩:=Qax hp.1
 have hv:(Q0 m x)=((List.range m.1.toNat).map fun i:Nat=>(QM (Ya m i) x).1,(List.range m.1.toNat).any fun i:Nat=>(QM (Ya m i) x).2):=by unfold Q0;rw [if_pos (by simp [hp])]
 refine Y7 m.1.toNat (fun j=>QfQ (fun r'=>r'=QaD (Q0 m x)) m x ((List.range j).any fun i:Nat=>(QM (Ya m i) x).2) (j:Int) ((List.range j).map fun i:Nat=>(QM (Ya m i) x).1)) ?_ ?_
 ·refine QpF (fun r'=>r'=QaD (Q0 m x)) m x _ _ _ ⟨fun h=>by simp at h;omega,fun _=>R_eq ?_⟩
  rw [hv,List.drop_zero,List.take_length]
 ·intro j hj ih
  have hd:=idx (r:=j) (R:=m.1) (C:=m.2.1) (by omega) (by omega) (by omega)
  refine QpF (fun r'=>r'=QaD (Q0 m x)) m x _ _ _ ⟨fun _=>?_,fun h=>by simp at h;omega⟩
  rw [Qs (x:=(j:Int)+1) (by omega) (by omega),Qs (x:=(j:Int)*m.2.1) (by omega) (by omega),Qs (x:=((j:Int)+1)*m.2.1) (by omega) (by omega),Q9]
  rw [Qcn,Qk2] at ih
  exact ⟨⟨by omega,by omega,by omega⟩,room (by simp;omega),ih⟩
theorem QpC:Qh Tryz.prog QfZ:=Qk fun x _=>QFF x.1 x.2.1
def QaI (t:(List Int) × Bool):TRes:=zra (.tp [(zcs [TI] t.1),(zcb t.2)])
def Qjy:TRow:=Qg 224 [(.a [TI,TI,(.sl [TI])]),(.c (.sl [TI]))] fun x=>(none,QaI (Q0 x.1 x.2.1))
def QjZ:List TRow:=[Qfg,Ys,Qj5,Qb4]
def Qme:TCode :=
 (zsq [(zsq [(.reg [zmv 28 8,zfa 29 2 0,zld 30 29 1,zbi 31 .lss 28 30]),(.cond 31 .skip (.exit 0))]),(.block 1 (zsq [(.reg [zLd 35 2 3,zmv 36 8,zca 37 237 [35,36],zmv 38 1,zca 39 206 [37,38],zmv 34 39,zex 40 34 0,zex 41 34 1,zmv 9 40,zmv 10 41]),(.reg [zmv 42 6,zmv 43 9,zop 44 (.bsl 3 [TI] [43]),zop 45 (.app 42 44 3 [TI]),zmv 6 45]),(.reg [zmv 46 7,zmv 47 46,.grp 47 false [zmv 48 10] 49 48,zmv 7 49])])),(.reg [zmv 32 8,zbi 33 .add 32 (zki 1),zmv 8 33])])
def Qpk:List (Nat × Md):=[(1,.one .d),(2,.b [.d,.d,.d]),(6,.one .f),(7,.one .d),(8,.one .d)]
def QtL:TCode :=
 (zsq [(.reg [zmv 50 6,zmv 51 7,zmv 4 50,zmv 5 51]),.ret])
def Qzu:TCode :=
 (zsq [(.reg [zop 2 (.box 185 0 3),zmv 4 (.k (.n [TI])),zmv 5 (zkb false)]),(.reg [zop 11 (.bsl 3 [TI] []),zmv 6 11]),(.reg [zmv 7 (zkb false)]),(zsq [(.reg [zLd 12 2 3,zca 13 236 [12],zno 14 13,zmv 15 14,.grp 15 false [zmv 16 1,zca 17 42 [16],zno 18 17] 19 18,zmv 20 19,.grp 20 false [zmv 21 1,zle 22 21,zfa 23 2 1,zld 24 23 1,zbi 25 .neq 22 24] 26 25]),(.cond 26 (zsq [(.reg [zmv 27 6,zmv 4 27,zmv 5 (zkb false)]),.ret]) .skip)]),(zsq [(.reg [zmv 8 (zki 0)]),(.block 0 (.loop Qpk Qme))]),QtL])
def Qtr:List (ARv × Md):=[(.t 4,.one .d),(.t 5,.one .d)]
def Qry:Qc:=TQ 0 0 Qtr K
def QEC:Qc:=Qseq (tawp QjZ 0 QtL (Qry K)) (Qry K)
def QBy:Qc:=Qblk 0 (QEC K)
def Qdw (m:TMat) (x:List Int) (sat:Bool) (i:Int) (out:List Int):Prop:=Loop QjZ 0 Qpk Qme (QBy K) ⟨[(1,(zcs [TI] x)),(2,(.p 0 0 0)),(6,(.r [TI] 1 0 out.length)),(7,(zcb sat)),(8,(zci i))],[(0,(.box [(zci m.1),(zci m.2.1),(zcs [TI] m.2.2)])),(1,(.sl 3 [TI] true out))],2⟩
theorem QrH (m:TMat) (x:List Int) (sat:Bool) (i:Int) (out:List Int) (h :
 (zif (decide (i<m.1)) ((QiM m i)∧(((out.length=out.length∨out.length+1≤out.length)∧out.length+1≤big)∧(Qdw K m x (sat||((QM (Ya m i) x).2)) (w64 (i+(1:Int))) (List.take (out.length+1) ((List.take out.length out)++([(QM (Ya m i) x).1])))))) (K (QaI ((List.take out.length (List.drop 0 out)),sat))))):Qdw K m x sat i out :=
 Loop.of (by kernel_rfl) h
theorem QI9 (m:TMat) (x:List Int) (h :
 (zif (((!(Q7 m))||(!(Qu x)))||((x.length:Int) != m.2.1)) (K (QaI (([]:List Int),false))) (Qdw K m x false 0 ([]:List Int)))):Hold (tawp QjZ (0+0) Qzu (TQ 0 0 Qtr K) (Qe [(.a [(.c TI m.1),(.c TI m.2.1),(.c (.sl [TI]) m.2.2)]),(.c (.sl [TI]) x)])) :=
 Hold.of (by kernel_rfl) h
theorem QJC (m:TMat) (x:List Int):TCon Tryz.prog 224 [(.a [(.c TI m.1),(.c TI m.2.1),(.c (.sl [TI]) m.2.2)]),(.c (.sl [TI]) x)] (QaI (Q0 m x)):=by
 refine Ql rfl fun hb=>tcg (n:=52) (sg:=Qjy.sg) Qi (TOk.cons QqW (TOk.cons YF (TOk.cons QwQ (TOk.cons Qgk TOk.nil)))) (by kernel_rfl) (by kernel_rfl) (QI9 _ m x ?_)
 have hl_m_2:(m.2.2).length≤9223372036854775807:=hb.1.2.2.1.1
 have hl_x:x.length≤9223372036854775807:=hb.2.1.1
 have hg:∀ n:Int,(!(Qu x)||((x.length:Int) != n)) = !(Qf x n):=fun n=>by unfold Qf;simp [bne]
 rw [Bool.or_assoc,hg]
 refine ⟨fun h=>R_eq (by rw [Qrw];intro h2;simp [h2.1,h2.2] at h),fun h=>?_⟩
 have hp:Q7 m=true∧Qf x m.2.1=true:=by simpa using h
 obtain ⟨h1,h2,h3,h4,h5,h6,h7⟩:=Qax hp.1
 have hv:(Q0 m x)=((List.range m.1.toNat).map fun i:Nat=>(QM (Ya m i) x).1,(List.range m.1.toNat).any fun i:Nat=>(QM (Ya m i) x).2):=by unfold Q0;rw [if_pos (by simp [hp])]
 refine Y7 m.1.toNat (fun j=>Qdw (fun r'=>r'=QaI (Q0 m x)) m x ((List.range j).any fun i:Nat=>(QM (Ya m i) x).2) (j:Int) ((List.range j).map fun i:Nat=>(QM (Ya m i) x).1)) ?_ ?_
 ·refine QrH (fun r'=>r'=QaI (Q0 m x)) m x _ _ _ ⟨fun h=>by simp at h;omega,fun _=>R_eq ?_⟩
  rw [hv,List.drop_zero,List.take_length]
 ·intro j hj ih
  have hd:=idx (r:=j) (R:=m.1) (C:=m.2.1) (by omega) (by omega) (by omega)
  refine QrH (fun r'=>r'=QaI (Q0 m x)) m x _ _ _ ⟨fun _=>?_,fun h=>by simp at h;omega⟩
  rw [sc1 (by omega),Q9]
  rw [Qcn,Qk2] at ih
  exact ⟨⟨by omega,by omega,by omega,by omega,by omega,h5⟩,room (by simp;omega),ih⟩
theorem QCp:Qh Tryz.prog Qjy:=Qk fun x _=>QJC x.1 x.2.1
def Jh (t:TMat):TRes:=zra (.a [(zci t.1),(zci t.2.1),(zcs [TI] t.2.2)])
def Qld:TRow:=Qg 235 [(.a [TI,TI,(.sl [TI])])] fun x=>(none,Jh (Z2 x.1))
def QbP:List TRow:=[QcF]
def Qrk:TCode :=
 (zsq [(zsq [(.reg [zmv 21 5,zfa 22 1 0,zld 23 22 1,zbi 24 .lss 21 23]),(.cond 24 .skip (.exit 2))]),(.block 3 (.draw [zfa 27 3 2,zld 28 27 1,zfa 29 1 2,zld 30 29 1,zmv 31 5,zfa 32 1 1,zld 33 32 1,zbi 34 .mul 31 33,zmv 35 4,zbi 36 .add 34 35,zia 37 30 36 [TI],zld 38 37 1,zop 39 (.bsl 3 [TI] [38]),zop 40 (.app 28 39 3 [TI]),zfa 41 3 2,zst 41 40 1] [(0,12),(1,12)])),(.reg [zmv 25 5,zbi 26 .add 25 (zki 1),zmv 5 26])])
def Qrb:List (Nat × Md):=[(1,.b [.d,.d,.d]),(2,.b [.d,.d,.d]),(3,.b [.d,.d,.f]),(4,.one .d),(5,.one .d)]
def Qm6:TCode :=
 (.reg [zmv 19 4,zbi 20 .add 19 (zki 1),zmv 4 20])
def Qka:TCode :=
 (zsq [(zsq [(.reg [zmv 15 4,zfa 16 1 1,zld 17 16 1,zbi 18 .lss 15 17]),(.cond 18 .skip (.exit 0))]),(.block 1 (zsq [(.reg [zmv 5 (zki 0)]),(.block 2 (.loop Qrb Qrk))])),Qm6])
def Qfl:List (Nat × Md):=[(1,.b [.d,.d,.d]),(2,.b [.d,.d,.d]),(3,.b [.d,.d,.o 3]),(4,.one .d)]
def Ql9:TCode :=
 (zsq [(.reg [zLd 42 3 3,zst 2 42 3]),.ret])
def QwL:TCode :=
 (zsq [(.reg [zop 1 (.box 185 0 3),zop 2 (.new 185 (z0s [TI,TI,(.sl [TI])]))]),(zsq [(.reg [zLd 6 1 3,zca 7 233 [6],zno 8 7]),(.cond 8 (zsq [(.reg [zop 9 (.build (z0s [TI,TI,(.sl [TI])]) []),zst 2 9 3]),.ret]) .skip)]),(.reg [zfa 10 1 1,zld 11 10 1,zfa 12 1 0,zld 13 12 1,zop 14 (.build (z0s [TI,TI,(.sl [TI])]) [(0,1,11),(1,1,13)]),zop 3 (.new 185 (z0s [TI,TI,(.sl [TI])])),zst 3 14 3]),(zsq [(.reg [zmv 4 (zki 0)]),(.block 0 (.loop Qfl Qka))]),Ql9])
def Qo6:List (ARv × Md):=[(.l 2 3 true,.b [.d,.d,.d])]
def Qmx:Qc:=TQ 0 0 Qo6 K
def QzY:Qc:=Qseq (tawp QbP 0 Ql9 (Qmx K)) (Qmx K)
def Qhz:Qc:=Qblk 0 (QzY K)
def Qrx:Qc:=Qseq (fun s'=>Loop QbP 0 Qfl Qka (Qhz K) (gc 0 Qfl s')) (Qhz K)
def QHe:Qc:=Qseq (tawp QbP 0 Qm6 (Qrx K)) (Qrx K)
def QDY:Qc:=Qblk 1 (QHe K)
def QyS:Qc:=Qblk 2 (QDY K)
def Qex (m:TMat) (r:Int) (t2:List Int) (c:Int):Prop:=Loop QbP 0 Qrb Qrk (QyS K) ⟨[(1,(.p 0 0 0)),(2,(.p 1 0 0)),(3,(.p 3 0 0)),(4,(zci c)),(5,(zci r))],[(0,(.box [(zci m.1),(zci m.2.1),(zcs [TI] m.2.2)])),(1,(.box [(zci 0),(zci 0),(zcs [TI] ([]))])),(2,(.sl 3 [TI] true t2)),(3,(.box [(zci m.2.1),(zci m.1),(.r [TI] 2 0 t2.length)]))],4⟩
def QdI (m:TMat) (c:Int) (t21:List Int):Prop:=Loop QbP 0 Qfl Qka (Qhz K) ⟨[(1,(.p 0 0 0)),(2,(.p 1 0 0)),(3,(.p 3 0 0)),(4,(zci c))],[(0,(.box [(zci m.1),(zci m.2.1),(zcs [TI] m.2.2)])),(1,(.box [(zci 0),(zci 0),(zcs [TI] ([]))])),(2,(.sl 3 [TI] true t21)),(3,(.box [(zci m.2.1),(zci m.1),(.r [TI] 2 0 t21.length)]))],4⟩
theorem QsF (m:TMat) (r:Int) (t2:List Int) (c:Int) (h :
 (zif (decide (r<m.1)) ((((0:Int)≤w64 ((w64 (r*m.2.1))+c)∧Int.toNat (w64 ((w64 (r*m.2.1))+c))<(m.2.2).length)∧((t2.length=t2.length∨t2.length+1≤t2.length)∧t2.length+1≤big))∧(Qex K m (w64 (r+(1:Int))) (List.take (t2.length+1) ((List.take t2.length t2)++([(gtd (0:Int) m.2.2 (Int.toNat (w64 ((w64 (r*m.2.1))+c))))]))) c)) (QdI K m (w64 (c+(1:Int))) (List.take t2.length t2)))):Qex K m r t2 c :=
 Loop.of (by kernel_rfl) h
theorem QpO (m:TMat) (c:Int) (t21:List Int) (h :
 (zif (decide (c<m.2.1)) (Qex K m 0 (List.take t21.length t21) c) (K (Jh (m.2.1,m.1,(List.take t21.length (List.drop 0 t21))))))):QdI K m c t21 :=
 Loop.of (by kernel_rfl) h
theorem Qvv (m:TMat) (h :
 (zif (!(Q7 m)) (K (Jh ((0:Int),(0:Int),[]))) (QdI K m 0 ([]:List Int)))):Hold (tawp QbP (0+0) QwL (TQ 0 0 Qo6 K) (Qe [(.a [(.c TI m.1),(.c TI m.2.1),(.c (.sl [TI]) m.2.2)])])) :=
 Hold.of (by kernel_rfl) h
theorem QyL (m:TMat):TCon Tryz.prog 235 [(.a [(.c TI m.1),(.c TI m.2.1),(.c (.sl [TI]) m.2.2)])] (Jh (Z2 m)):=by
 refine Ql rfl fun hb=>tcg (n:=43) (sg:=Qld.sg) Qi (TOk.cons Qhv TOk.nil) (by kernel_rfl) (by kernel_rfl) (Qvv _ m ?_)
 have hl_m_2:(m.2.2).length≤9223372036854775807:=hb.1.2.2.1.1
 refine ⟨fun h=>R_eq (by unfold Z2;rw [if_neg (by simpa using h)]),fun h=>?_⟩
 have hp:Q7 m=true:=by simpa using h
 obtain ⟨h1,h2,h3,h4,h5,h6,h7⟩:=Qax hp
 refine Y7 m.2.1.toNat (fun k=>QdI (fun r'=>r'=Jh (Z2 m)) m (k:Int) ((List.range k).flatMap fun k:Nat=>Zv m k)) ?_ ?_
 ·refine QpO (fun r'=>r'=Jh (Z2 m)) m _ _ ⟨fun h=>by simp at h;omega,fun _=>R_eq ?_⟩
  rw [List.drop_zero,List.take_length];unfold Z2;rw [if_pos hp]
 ·intro k hk ih
  refine QpO (fun r'=>r'=Jh (Z2 m)) m _ _ ⟨fun _=>?_,fun h=>by simp at h;omega⟩
  rw [List.take_length]
  have hk36:((List.range k).flatMap fun k:Nat=>Zv m k).length≤36:=by
   rw [QiB (R:=m.1.toNat) k (fun j _=>Qlh m j)]
   have:k*m.1.toNat≤6*6:=Nat.mul_le_mul (by omega) (by omega)
   omega
  have inner:=Y7 m.1.toNat (fun j=>Qex (fun r'=>r'=Jh (Z2 m)) m (j:Int) (((List.range k).flatMap fun k:Nat=>Zv m k)++(List.range j).map fun i:Nat=>gtd 0 m.2.2 ((i:Int)*m.2.1+(k:Nat)).toNat) (k:Int)) ?_ ?_
  ·simpa using inner
  ·refine QsF (fun r'=>r'=Jh (Z2 m)) m _ _ _ ⟨fun h=>by simp at h;omega,fun _=>?_⟩
   rw [List.take_length,sc1 (by omega)]
   rw [Qb8] at ih
   exact ih
  ·intro j hj ih2
   have hd:=idx (r:=j) (R:=m.1) (C:=m.2.1) (by omega) (by omega) (by omega)
   refine QsF (fun r'=>r'=Jh (Z2 m)) m _ _ _ ⟨fun _=>?_,fun h=>by simp at h;omega⟩
   rw [Qs (x:=(j:Int)*m.2.1) (by omega) (by omega),Qs (x:=(j:Int)*m.2.1+(k:Int)) (by omega) (by omega),sc1 (by omega),Q9]
   rw [Qcn,← List.append_assoc] at ih2
   exact ⟨⟨⟨by omega,by omega⟩,room (by rw [List.length_append];simp only [List.length_map,List.length_range];omega)⟩,ih2⟩
theorem QxC:Qh Tryz.prog Qld:=Qk fun x _=>QyL x.1
def QeC (t:(List Int) × Bool):TRes:=zra (.tp [(zcs [TI] t.1),(zcb t.2)])
def QhL:TRow:=Qg 218 [(.a [TI,TI,(.sl [TI])]),(.c (.sl [TI]))] fun x=>(none,QeC (Q4 x.1 x.2.1))
def QJr:List TRow:=[QcF,Y0,Qld,QfZ]
def QDo:TCode :=
 (zsq [(.reg [zop 2 (.box 185 0 3),zmv 4 (.k (.n [TI])),zmv 5 (zkb false)]),(zsq [(.reg [zLd 6 2 3,zca 7 233 [6],zno 8 7,zmv 9 8,.grp 9 false [zmv 10 1,zfa 11 2 0,zld 12 11 1,zca 13 114 [10,12],zno 14 13] 15 14]),(.cond 15 (zsq [(.reg [zmv 4 (.k (.n [TI])),zmv 5 (zkb false)]),.ret]) .skip)]),(.reg [zLd 16 2 3,zca 17 235 [16],zmv 18 1,zca 19 211 [17,18],zex 20 19 0,zex 21 19 1,zmv 4 20,zmv 5 21]),.ret])
def QD9:List (ARv × Md):=[(.t 4,.one .d),(.t 5,.one .d)]
theorem Qx0 (m:TMat) (d:List Int) (h :
 (zif ((!(Q7 m))||(!(Qf d m.1))) (K (QeC ([],false))) (K (QeC ((Q0 (Z2 m) d).1,(Q0 (Z2 m) d).2))))):Hold (tawp QJr (0+0) QDo (TQ 0 0 QD9 K) (Qe [(.a [(.c TI m.1),(.c TI m.2.1),(.c (.sl [TI]) m.2.2)]),(.c (.sl [TI]) d)])) :=
 Hold.of (by kernel_rfl) h
theorem QBa (m:TMat) (d:List Int):TCon Tryz.prog 218 [(.a [(.c TI m.1),(.c TI m.2.1),(.c (.sl [TI]) m.2.2)]),(.c (.sl [TI]) d)] (QeC (Q4 m d)):=by
 refine Ql rfl fun hb=>tcg (n:=22) (sg:=QhL.sg) Qi (TOk.cons Qhv (TOk.cons Js (TOk.cons QxC (TOk.cons QpC TOk.nil)))) (by kernel_rfl) (by kernel_rfl) (Qx0 _ m d ?_)
 have hl_m_2:(m.2.2).length≤9223372036854775807:=hb.1.2.2.1.1
 have hl_d:d.length≤9223372036854775807:=hb.2.1.1
 refine ⟨fun h=>R_eq (by rw [Qrv];intro h2;simp [h2.1,h2.2] at h),fun h=>?_⟩
 have hp:Q7 m=true∧Qf d m.1=true:=by simpa using h
 exact R_eq (QFo hp.1 hp.2)
theorem QF1:Qh Tryz.prog QhL:=Qk fun x _=>QBa x.1 x.2.1
def Qav (t:(List Int) × Bool):TRes:=zra (.tp [(zcs [TI] t.1),(zcb t.2)])
def QhQ:TRow:=Qg 231 [(.a [TI,TI,(.sl [TI])]),(.c (.sl [TI]))] fun x=>(none,Qav (Q4 x.1 x.2.1))
def QhS:List TRow:=[Qfg,Ys,Qjj,Qb4]
def Qqc:TCode :=
 (zsq [(zsq [(.reg [zmv 28 8,zfa 29 2 1,zld 30 29 1,zbi 31 .lss 28 30]),(.cond 31 .skip (.exit 0))]),(.block 1 (zsq [(.reg [zLd 35 2 3,zmv 36 8,zca 37 240 [35,36],zmv 38 1,zca 39 206 [37,38],zmv 34 39,zex 40 34 0,zex 41 34 1,zmv 9 40,zmv 10 41]),(.reg [zmv 42 6,zmv 43 9,zop 44 (.bsl 3 [TI] [43]),zop 45 (.app 42 44 3 [TI]),zmv 6 45]),(.reg [zmv 46 7,zmv 47 46,.grp 47 false [zmv 48 10] 49 48,zmv 7 49])])),(.reg [zmv 32 8,zbi 33 .add 32 (zki 1),zmv 8 33])])
def QsQ:List (Nat × Md):=[(1,.one .d),(2,.b [.d,.d,.d]),(6,.one .f),(7,.one .d),(8,.one .d)]
def Qmg:TCode :=
 (zsq [(.reg [zmv 50 6,zmv 51 7,zmv 4 50,zmv 5 51]),.ret])
def QJG:TCode :=
 (zsq [(.reg [zop 2 (.box 185 0 3),zmv 4 (.k (.n [TI])),zmv 5 (zkb false)]),(.reg [zop 11 (.bsl 3 [TI] []),zmv 6 11]),(.reg [zmv 7 (zkb false)]),(zsq [(.reg [zLd 12 2 3,zca 13 236 [12],zno 14 13,zmv 15 14,.grp 15 false [zmv 16 1,zca 17 42 [16],zno 18 17] 19 18,zmv 20 19,.grp 20 false [zmv 21 1,zle 22 21,zfa 23 2 0,zld 24 23 1,zbi 25 .neq 22 24] 26 25]),(.cond 26 (zsq [(.reg [zmv 27 6,zmv 4 27,zmv 5 (zkb false)]),.ret]) .skip)]),(zsq [(.reg [zmv 8 (zki 0)]),(.block 0 (.loop QsQ Qqc))]),Qmg])
def QqM:List (ARv × Md):=[(.t 4,.one .d),(.t 5,.one .d)]
def Qqy:Qc:=TQ 0 0 QqM K
def QvZ:Qc:=Qseq (tawp QhS 0 Qmg (Qqy K)) (Qqy K)
def Qyy:Qc:=Qblk 0 (QvZ K)
def Qel (m:TMat) (d:List Int) (sat:Bool) (k:Int) (out:List Int):Prop:=Loop QhS 0 QsQ Qqc (Qyy K) ⟨[(1,(zcs [TI] d)),(2,(.p 0 0 0)),(6,(.r [TI] 1 0 out.length)),(7,(zcb sat)),(8,(zci k))],[(0,(.box [(zci m.1),(zci m.2.1),(zcs [TI] m.2.2)])),(1,(.sl 3 [TI] true out))],2⟩
theorem Qsj (m:TMat) (d:List Int) (sat:Bool) (k:Int) (out:List Int) (h :
 (zif (decide (k<m.2.1)) ((Qiv m k)∧(((out.length=out.length∨out.length+1≤out.length)∧out.length+1≤big)∧(Qel K m d (sat||((QM (Zv m k) d).2)) (w64 (k+(1:Int))) (List.take (out.length+1) ((List.take out.length out)++([(QM (Zv m k) d).1])))))) (K (Qav ((List.take out.length (List.drop 0 out)),sat))))):Qel K m d sat k out :=
 Loop.of (by kernel_rfl) h
theorem QCF (m:TMat) (d:List Int) (h :
 (zif (((!(Q7 m))||(!(Qu d)))||((d.length:Int) != m.1)) (K (Qav (([]:List Int),false))) (Qel K m d false 0 ([]:List Int)))):Hold (tawp QhS (0+0) QJG (TQ 0 0 QqM K) (Qe [(.a [(.c TI m.1),(.c TI m.2.1),(.c (.sl [TI]) m.2.2)]),(.c (.sl [TI]) d)])) :=
 Hold.of (by kernel_rfl) h
theorem QxH (m:TMat) (d:List Int):TCon Tryz.prog 231 [(.a [(.c TI m.1),(.c TI m.2.1),(.c (.sl [TI]) m.2.2)]),(.c (.sl [TI]) d)] (Qav (Q4 m d)):=by
 refine Ql rfl fun hb=>tcg (n:=52) (sg:=QhQ.sg) Qi (TOk.cons QqW (TOk.cons YF (TOk.cons QBU (TOk.cons Qgk TOk.nil)))) (by kernel_rfl) (by kernel_rfl) (QCF _ m d ?_)
 have hl_m_2:(m.2.2).length≤9223372036854775807:=hb.1.2.2.1.1
 have hl_d:d.length≤9223372036854775807:=hb.2.1.1
 have hg:∀ n:Int,(!(Qu d)||((d.length:Int) != n)) = !(Qf d n):=fun n=>by unfold Qf;simp [bne]
 rw [Bool.or_assoc,hg]
 refine ⟨fun h=>R_eq (by rw [Qrv];intro h2;simp [h2.1,h2.2] at h),fun h=>?_⟩
 have hp:Q7 m=true∧Qf d m.1=true:=by simpa using h
 obtain ⟨h1,h2,h3,h4,h5,h6,h7⟩:=Qax hp.1
 have hv:(Q4 m d)=((List.range m.2.1.toNat).map fun k:Nat=>(QM (Zv m k) d).1,(List.range m.2.1.toNat).any fun k:Nat=>(QM (Zv m k) d).2):=by unfold Q4;rw [if_pos (by simp [hp])]
 refine Y7 m.2.1.toNat (fun j=>Qel (fun r'=>r'=Qav (Q4 m d)) m d ((List.range j).any fun k:Nat=>(QM (Zv m k) d).2) (j:Int) ((List.range j).map fun k:Nat=>(QM (Zv m k) d).1)) ?_ ?_
 ·refine Qsj (fun r'=>r'=Qav (Q4 m d)) m d _ _ _ ⟨fun h=>by simp at h;omega,fun _=>R_eq ?_⟩
  rw [hv,List.drop_zero,List.take_length]
 ·intro j hj ih
  refine Qsj (fun r'=>r'=Qav (Q4 m d)) m d _ _ _ ⟨fun _=>?_,fun h=>by simp at h;omega⟩
  rw [sc1 (by omega),Q9]
  rw [Qcn,Qk2] at ih
  exact ⟨⟨by omega,by omega,by omega,by omega,by omega,h5⟩,room (by simp;omega),ih⟩
theorem QyZ:Qh Tryz.prog QhQ:=Qk fun x _=>QxH x.1 x.2.1
def Jd (t:TMat × Bool):TRes:=zra (.tp [(.a [(zci t.1.1),(zci t.1.2.1),(zcs [TI] t.1.2.2)]),(zcb t.2)])
def Qks:TRow:=Qg 219 [(.c (.sl [TI])),(.c (.sl [TI]))] fun x=>(none,Jd (QX x.1 x.2.1))
def QbD:List TRow:=[Qat,Qc1]
def Qpv:TCode :=
 (zsq [(.reg [zbi 37 .lss 36 35]),(.cond 37 .skip (.exit 2)),(.block 3 (zsq [(.reg [zia 38 34 36 [TI],zld 39 38 1,zmv 11 39]),(.reg [zmv 41 9,zmv 42 11,zca 43 216 [41,42],zmv 40 43,zex 44 40 0,zex 45 40 1,zmv 12 44,zmv 13 45]),(.reg [zfa 46 6 2,zld 47 46 1,zmv 48 12,zop 49 (.bsl 3 [TI] [48]),zop 50 (.app 47 49 3 [TI]),zfa 51 6 2,zst 51 50 1]),(.reg [zmv 52 7,zmv 53 52,.grp 53 false [zmv 54 13] 55 54,zmv 7 55])])),(.reg [zbi 56 .add 36 (zki 1),zmv 36 56])])
def QtZ:List (Nat × Md):=[(1,.one .d),(4,.b [.d,.d,.d]),(6,.b [.d,.d,.f]),(7,.one .d),(9,.one .d),(28,.one .d),(29,.one .d),(30,.one .d),(34,.one .d),(35,.one .d),(36,.one .d)]
def QrO:TCode :=
 (.reg [zbi 57 .add 30 (zki 1),zmv 30 57])
def QkG:TCode :=
 (zsq [(.reg [zbi 31 .lss 30 29]),(.cond 31 .skip (.exit 0)),(.block 1 (zsq [(.reg [zia 32 28 30 [TI],zld 33 32 1,zmv 9 33]),(.reg [zmv 34 1,zle 35 34,zmv 36 (zki 0)]),(.block 2 (.loop QtZ Qpv))])),QrO])
def QeT:List (Nat × Md):=[(1,.one .d),(4,.b [.d,.d,.d]),(6,.b [.d,.d,.o 3]),(7,.one .d),(28,.one .d),(29,.one .d),(30,.one .d)]
def Qoi:TCode :=
 (zsq [(.reg [zLd 58 6 3,zmv 59 7,zst 4 58 3,zmv 5 59]),.ret])
def QDc:TCode :=
 (zsq [(.reg [zop 4 (.new 185 (z0s [TI,TI,(.sl [TI])])),zmv 5 (zkb false)]),(zsq [(.reg [zmv 14 0,zca 15 134 [14],zno 16 15,zmv 17 16,.grp 17 false [zmv 18 1,zca 19 134 [18],zno 20 19] 21 20]),(.cond 21 (zsq [(.reg [zop 22 (.build (z0s [TI,TI,(.sl [TI])]) []),zst 4 22 3,zmv 5 (zkb false)]),.ret]) .skip)]),(.reg [zmv 23 0,zle 24 23,zmv 25 1,zle 26 25,zop 27 (.build (z0s [TI,TI,(.sl [TI])]) [(0,1,24),(1,1,26)]),zop 6 (.new 185 (z0s [TI,TI,(.sl [TI])])),zst 6 27 3]),(.reg [zmv 7 (zkb false)]),(zsq [(.reg [zmv 28 0,zle 29 28,zmv 30 (zki 0)]),(.block 0 (.loop QeT QkG))]),Qoi])
def Qtg:List (ARv × Md):=[(.l 4 3 true,.b [.d,.d,.d]),(.t 5,.one .d)]
def Qnb:Qc:=TQ 0 0 Qtg K
def QG6:Qc:=Qseq (tawp QbD 0 Qoi (Qnb K)) (Qnb K)
def Qje:Qc:=Qblk 0 (QG6 K)
def Qps:Qc:=Qseq (fun s'=>Loop QbD 0 QeT QkG (Qje K) (gc 0 QeT s')) (Qje K)
def QF4:Qc:=Qseq (tawp QbD 0 QrO (Qps K)) (Qps K)
def QIT:Qc:=Qblk 1 (QF4 K)
def QF6:Qc:=Qblk 2 (QIT K)
def QeS (d:List Int) (x:List Int) (out:Bool) (x1:Int) (m2:List Int) (x2:Int):Prop:=Loop QbD 0 QtZ Qpv (QF6 K) ⟨[(1,(zcs [TI] x)),(4,(.p 0 0 0)),(6,(.p 2 0 0)),(7,(zcb out)),(9,(zci (gtd (0:Int) d (Int.toNat x2)))),(28,(zcs [TI] d)),(29,(zci (d.length:Int))),(30,(zci x2)),(34,(zcs [TI] x)),(35,(zci (x.length:Int))),(36,(zci x1))],[(0,(.box [(zci 0),(zci 0),(zcs [TI] ([]))])),(1,(.sl 3 [TI] true m2)),(2,(.box [(zci (d.length:Int)),(zci (x.length:Int)),(.r [TI] 1 0 m2.length)]))],3⟩
def Qet (d:List Int) (x:List Int) (out1:Bool) (x2:Int) (m21:List Int):Prop:=Loop QbD 0 QeT QkG (Qje K) ⟨[(1,(zcs [TI] x)),(4,(.p 0 0 0)),(6,(.p 2 0 0)),(7,(zcb out1)),(28,(zcs [TI] d)),(29,(zci (d.length:Int))),(30,(zci x2))],[(0,(.box [(zci 0),(zci 0),(zcs [TI] ([]))])),(1,(.sl 3 [TI] true m21)),(2,(.box [(zci (d.length:Int)),(zci (x.length:Int)),(.r [TI] 1 0 m21.length)]))],3⟩
theorem Qpi (d:List Int) (x:List Int) (out:Bool) (x1:Int) (m2:List Int) (x2:Int) (h :
 (zif (decide (x1<(x.length:Int))) (((0:Int)≤x1∧Int.toNat x1<x.length)∧(((m2.length=m2.length∨m2.length+1≤m2.length)∧m2.length+1≤big)∧(QeS K d x (out||((Q2 (gtd (0:Int) d (Int.toNat x2)) (gtd (0:Int) x (Int.toNat x1))).2)) (w64 (x1+(1:Int))) (List.take (m2.length+1) ((List.take m2.length m2)++([(Q2 (gtd (0:Int) d (Int.toNat x2)) (gtd (0:Int) x (Int.toNat x1))).1]))) x2))) (Qet K d x out (w64 (x2+(1:Int))) (List.take m2.length m2)))):QeS K d x out x1 m2 x2 :=
 Loop.of (by kernel_rfl) h
theorem QuD (d:List Int) (x:List Int) (out1:Bool) (x2:Int) (m21:List Int) (h :
 (zif (decide (x2<(d.length:Int))) (((0:Int)≤x2∧Int.toNat x2<d.length)∧(QeS K d x out1 0 (List.take m21.length m21) x2)) (K (Jd (((d.length:Int),(x.length:Int),(List.take m21.length (List.drop 0 m21))),out1))))):Qet K d x out1 x2 m21 :=
 Loop.of (by kernel_rfl) h
theorem QHs (d:List Int) (x:List Int) (h :
 (zif ((!(Qu d))||(!(Qu x))) (K (Jd (((0:Int),(0:Int),[]),false))) (Qet K d x false 0 ([]:List Int)))):Hold (tawp QbD (0+0) QDc (TQ 0 0 Qtg K) (Qe [(.c (.sl [TI]) d),(.c (.sl [TI]) x)])) :=
 Hold.of (by kernel_rfl) h
theorem QDk (d:List Int) (x:List Int):TCon Tryz.prog 219 [(.c (.sl [TI]) d),(.c (.sl [TI]) x)] (Jd (QX d x)):=by
 refine Ql rfl fun hb=>tcg (n:=60) (sg:=Qks.sg) Qi (TOk.cons QcC (TOk.cons QiS TOk.nil)) (by kernel_rfl) (by kernel_rfl) (QHs _ d x ?_)
 have hl_d:d.length≤9223372036854775807:=hb.1.1
 have hl_x:x.length≤9223372036854775807:=hb.2.1.1
 refine ⟨fun h=>R_eq (by unfold QX;rw [if_neg (by simpa [Classical.or_iff_not_imp_left] using h)]),fun h=>?_⟩
 have hp:Qu d=true∧Qu x=true:=by simpa using h
 have h6:=(Zu.1 hp.1).1
 have h7:=(Zu.1 hp.2).1
 refine Zc d (fun r j=>∀ (v:List Int) (z:Bool),v.length≤6*j→((((d.length:Int),(x.length:Int),v++r.flatMap fun a=>x.map fun b=>(Q2 a b).1),z||r.any fun a=>x.any fun b=>(Q2 a b).2):TMat × Bool)=(QX d x)→Qet (fun r'=>r'=Jd (QX d x)) d x z j v) ?_ ?_ [] false (Nat.zero_le _) (by unfold QX;rw [if_pos (by simp [hp])];simp)
 ·intro v z hv he
  refine QuD (fun r'=>r'=Jd (QX d x)) d x _ _ _ ⟨fun h=>by simp at h,fun _=>R_eq ?_⟩
  rw [← he];simp
 ·intro j y r hj hlt hg ih v z hv he
  refine QuD (fun r'=>r'=Jd (QX d x)) d x _ _ _ ⟨fun _=>?_,fun h=>by simp at h;omega⟩
  rw [List.take_length]
  refine ⟨⟨by omega,by omega⟩,Zc x (fun r2 k=>∀ (v2:List Int) (z2:Bool),v2.length=v.length+k→v2++r2.map (fun b=>(Q2 y b).1)=v++x.map (fun b=>(Q2 y b).1)→(z2||r2.any fun b=>(Q2 y b).2)=(z||x.any fun b=>(Q2 y b).2)→QeS (fun r'=>r'=Jd (QX d x)) d x z2 k v2 j) ?_ ?_ v z (by omega) rfl rfl⟩
  ·intro v2 z2 hv2 he2 hz2
   refine Qpi (fun r'=>r'=Jd (QX d x)) d x _ _ _ _ ⟨fun h=>by simp at h,fun _=>?_⟩
   rw [List.take_length,sc1 (by omega)]
   simp only [List.map_nil,List.append_nil,List.any_nil,Bool.or_false] at he2 hz2
   refine ih _ _ (by rw [hv2];omega) ?_
   rw [← he,he2,hz2];simp [Bool.or_assoc]
  ·intro k w r2 hk hlt2 hg2 ih2 v2 z2 hv2 he2 hz2
   refine Qpi (fun r'=>r'=Jd (QX d x)) d x _ _ _ _ ⟨fun _=>?_,fun h=>by simp at h;omega⟩
   rw [Int.toNat_natCast,Int.toNat_natCast,hg,hg2,sc1 (by omega),Q9]
   refine ⟨⟨by omega,by omega⟩,room (by omega),ih2 _ _ (by simp;omega) ?_ ?_⟩
   ·rw [← he2];simp
   ·rw [← hz2];simp [Bool.or_assoc]
theorem QEO:Qh Tryz.prog Qks:=Qk fun x _=>QDk x.1 x.2.1
def Jg (t:TMat × Bool):TRes:=zra (.tp [(.a [(zci t.1.1),(zci t.1.2.1),(zcs [TI] t.1.2.2)]),(zcb t.2)])
def QgU:TRow:=Qg 232 [(.c (.sl [TI])),(.c (.sl [TI]))] fun x=>(none,Jg (QX x.1 x.2.1))
def QbV:List TRow:=[Ys,QcM]
def Qlp:TCode :=
 (zsq [(zsq [(.reg [zmv 32 9,zmv 33 1,zle 34 33,zbi 35 .lss 32 34]),(.cond 35 .skip (.exit 2))]),(.block 3 (zsq [(.draw [zmv 39 0,zmv 40 8,zia 41 39 40 [TI],zld 42 41 1,zmv 43 1,zmv 44 9,zia 45 43 44 [TI],zld 46 45 1,zca 47 229 [42,46],zmv 38 47,zex 48 38 0,zex 49 38 1,zmv 10 48,zmv 11 49] []),(.reg [zfa 50 6 2,zld 51 50 1,zmv 52 10,zop 53 (.bsl 3 [TI] [52]),zop 54 (.app 51 53 3 [TI]),zfa 55 6 2,zst 55 54 1]),(.reg [zmv 56 7,zmv 57 56,.grp 57 false [zmv 58 11] 59 58,zmv 7 59])])),(.reg [zmv 36 9,zbi 37 .add 36 (zki 1),zmv 9 37])])
def QpZ:List (Nat × Md):=[(0,.one .d),(1,.one .d),(4,.b [.d,.d,.d]),(6,.b [.d,.d,.f]),(7,.one .d),(8,.one .d),(9,.one .d)]
def Qqt:TCode :=
 (.reg [zmv 30 8,zbi 31 .add 30 (zki 1),zmv 8 31])
def Qiw:TCode :=
 (zsq [(zsq [(.reg [zmv 26 8,zmv 27 0,zle 28 27,zbi 29 .lss 26 28]),(.cond 29 .skip (.exit 0))]),(.block 1 (zsq [(.reg [zmv 9 (zki 0)]),(.block 2 (.loop QpZ Qlp))])),Qqt])
def QdF:List (Nat × Md):=[(0,.one .d),(1,.one .d),(4,.b [.d,.d,.d]),(6,.b [.d,.d,.o 3]),(7,.one .d),(8,.one .d)]
def QqH:TCode :=
 (zsq [(.reg [zLd 60 6 3,zmv 61 7,zst 4 60 3,zmv 5 61]),.ret])
def Qzq:TCode :=
 (zsq [(.reg [zop 4 (.new 185 (z0s [TI,TI,(.sl [TI])])),zmv 5 (zkb false)]),(zsq [(.reg [zmv 12 0,zca 13 42 [12],zno 14 13,zmv 15 14,.grp 15 false [zmv 16 1,zca 17 42 [16],zno 18 17] 19 18]),(.cond 19 (zsq [(.reg [zop 20 (.build (z0s [TI,TI,(.sl [TI])]) []),zst 4 20 3,zmv 5 (zkb false)]),.ret]) .skip)]),(.reg [zmv 21 0,zle 22 21,zmv 23 1,zle 24 23,zop 25 (.build (z0s [TI,TI,(.sl [TI])]) [(0,1,22),(1,1,24)]),zop 6 (.new 185 (z0s [TI,TI,(.sl [TI])])),zst 6 25 3]),(.reg [zmv 7 (zkb false)]),(zsq [(.reg [zmv 8 (zki 0)]),(.block 0 (.loop QdF Qiw))]),QqH])
def Qoe:List (ARv × Md):=[(.l 4 3 true,.b [.d,.d,.d]),(.t 5,.one .d)]
def QpA:Qc:=TQ 0 0 Qoe K
def QwM:Qc:=Qseq (tawp QbV 0 QqH (QpA K)) (QpA K)
def Qik:Qc:=Qblk 0 (QwM K)
def Qqh:Qc:=Qseq (fun s'=>Loop QbV 0 QdF Qiw (Qik K) (gc 0 QdF s')) (Qik K)
def Qwz:Qc:=Qseq (tawp QbV 0 Qqt (Qqh K)) (Qqh K)
def QB1:Qc:=Qblk 1 (Qwz K)
def QDO:Qc:=Qblk 2 (QB1 K)
def QeL (d:List Int) (x:List Int) (sat:Bool) (k:Int) (m2:List Int) (i:Int):Prop:=Loop QbV 0 QpZ Qlp (QDO K) ⟨[(0,(zcs [TI] d)),(1,(zcs [TI] x)),(4,(.p 0 0 0)),(6,(.p 2 0 0)),(7,(zcb sat)),(8,(zci i)),(9,(zci k))],[(0,(.box [(zci 0),(zci 0),(zcs [TI] ([]))])),(1,(.sl 3 [TI] true m2)),(2,(.box [(zci (d.length:Int)),(zci (x.length:Int)),(.r [TI] 1 0 m2.length)]))],3⟩
def QeI (d:List Int) (x:List Int) (sat1:Bool) (i:Int) (m21:List Int):Prop:=Loop QbV 0 QdF Qiw (Qik K) ⟨[(0,(zcs [TI] d)),(1,(zcs [TI] x)),(4,(.p 0 0 0)),(6,(.p 2 0 0)),(7,(zcb sat1)),(8,(zci i))],[(0,(.box [(zci 0),(zci 0),(zcs [TI] ([]))])),(1,(.sl 3 [TI] true m21)),(2,(.box [(zci (d.length:Int)),(zci (x.length:Int)),(.r [TI] 1 0 m21.length)]))],3⟩
theorem Qr5 (d:List Int) (x:List Int) (sat:Bool) (k:Int) (m2:List Int) (i:Int) (h :
 (zif (decide (k<(x.length:Int))) ((((0:Int)≤i∧Int.toNat i<d.length)∧((0:Int)≤k∧Int.toNat k<x.length))∧(((m2.length=m2.length∨m2.length+1≤m2.length)∧m2.length+1≤big)∧(QeL K d x (sat||((Q2 (gtd (0:Int) d (Int.toNat i)) (gtd (0:Int) x (Int.toNat k))).2)) (w64 (k+(1:Int))) (List.take (m2.length+1) ((List.take m2.length m2)++([(Q2 (gtd (0:Int) d (Int.toNat i)) (gtd (0:Int) x (Int.toNat k))).1]))) i))) (QeI K d x sat (w64 (i+(1:Int))) (List.take m2.length m2)))):QeL K d x sat k m2 i :=
 Loop.of (by kernel_rfl) h
theorem Qmf (d:List Int) (x:List Int) (sat1:Bool) (i:Int) (m21:List Int) (h :
 (zif (decide (i<(d.length:Int))) (QeL K d x sat1 0 (List.take m21.length m21) i) (K (Jg (((d.length:Int),(x.length:Int),(List.take m21.length (List.drop 0 m21))),sat1))))):QeI K d x sat1 i m21 :=
 Loop.of (by kernel_rfl) h
theorem QGM (d:List Int) (x:List Int) (h :
 (zif ((!(Qu d))||(!(Qu x))) (K (Jg (((0:Int),(0:Int),[]),false))) (QeI K d x false 0 ([]:List Int)))):Hold (tawp QbV (0+0) Qzq (TQ 0 0 Qoe K) (Qe [(.c (.sl [TI]) d),(.c (.sl [TI]) x)])) :=
 Hold.of (by kernel_rfl) h
theorem QBZ (d:List Int) (x:List Int):TCon Tryz.prog 232 [(.c (.sl [TI]) d),(.c (.sl [TI]) x)] (Jg (QX d x)):=by
 refine Ql rfl fun hb=>tcg (n:=62) (sg:=QgU.sg) Qi (TOk.cons YF (TOk.cons QjP TOk.nil)) (by kernel_rfl) (by kernel_rfl) (QGM _ d x ?_)
 have hl_d:d.length≤9223372036854775807:=hb.1.1
 have hl_x:x.length≤9223372036854775807:=hb.2.1.1
 refine ⟨fun h=>R_eq (by unfold QX;rw [if_neg (by simpa [Classical.or_iff_not_imp_left] using h)]),fun h=>?_⟩
 have hp:Qu d=true∧Qu x=true:=by simpa using h
 have h6:=(Zu.1 hp.1).1
 have h7:=(Zu.1 hp.2).1
 refine Zc d (fun r j=>∀ (v:List Int) (z:Bool),v.length≤6*j→((((d.length:Int),(x.length:Int),v++r.flatMap fun a=>x.map fun b=>(Q2 a b).1),z||r.any fun a=>x.any fun b=>(Q2 a b).2):TMat × Bool)=(QX d x)→QeI (fun r'=>r'=Jg (QX d x)) d x z j v) ?_ ?_ [] false (Nat.zero_le _) (by unfold QX;rw [if_pos (by simp [hp])];simp)
 ·intro v z hv he
  refine Qmf (fun r'=>r'=Jg (QX d x)) d x _ _ _ ⟨fun h=>by simp at h,fun _=>R_eq ?_⟩
  rw [← he];simp
 ·intro j y r hj hlt hg ih v z hv he
  refine Qmf (fun r'=>r'=Jg (QX d x)) d x _ _ _ ⟨fun _=>?_,fun h=>by simp at h;omega⟩
  rw [List.take_length]
  refine Zc x (fun r2 k=>∀ (v2:List Int) (z2:Bool),v2.length=v.length+k→v2++r2.map (fun b=>(Q2 y b).1)=v++x.map (fun b=>(Q2 y b).1)→(z2||r2.any fun b=>(Q2 y b).2)=(z||x.any fun b=>(Q2 y b).2)→QeL (fun r'=>r'=Jg (QX d x)) d x z2 k v2 j) ?_ ?_ v z (by omega) rfl rfl
  ·intro v2 z2 hv2 he2 hz2
   refine Qr5 (fun r'=>r'=Jg (QX d x)) d x _ _ _ _ ⟨fun h=>by simp at h,fun _=>?_⟩
   rw [List.take_length,sc1 (by omega)]
   simp only [List.map_nil,List.append_nil,List.any_nil,Bool.or_false] at he2 hz2
   refine ih _ _ (by rw [hv2];omega) ?_
   rw [← he,he2,hz2];simp [Bool.or_assoc]
  ·intro k w r2 hk hlt2 hg2 ih2 v2 z2 hv2 he2 hz2
   refine Qr5 (fun r'=>r'=Jg (QX d x)) d x _ _ _ _ ⟨fun _=>?_,fun h=>by simp at h;omega⟩
   rw [Int.toNat_natCast,Int.toNat_natCast,hg,hg2,sc1 (by omega),Q9]
   refine ⟨⟨⟨by omega,by omega⟩,by omega,by omega⟩,room (by omega),ih2 _ _ (by simp;omega) ?_ ?_⟩
   ·rw [← he2];simp
   ·rw [← hz2];simp [Bool.or_assoc]
theorem QFk:Qh Tryz.prog QgU:=Qk fun x _=>QBZ x.1 x.2.1
def Qg1 (t:TMat):TRes:=zra (.a [(zci t.1),(zci t.2.1),(zcs [TI] t.2.2)])
def QfI:TRow:=Qg 212 [(.a ctOp)] fun x=>(none,Qg1 (QN x.1))
def QJN:List TRow:=[]
def QAH:TCode :=
 (zsq [(.reg [zop 1 (.box 69 0 4),zop 2 (.new 185 (z0s [TI,TI,(.sl [TI])]))]),(.reg [zfa 3 1 2,zld 4 3 1,zfa 5 1 1,zld 6 5 1,zfa 7 1 3,zld 8 7 1,zop 9 (.build (z0s [TI,TI,(.sl [TI])]) [(0,1,4),(1,1,6),(2,1,8)]),zst 2 9 3]),.ret])
def QHq:List (ARv × Md):=[(.l 2 3 true,.b [.d,.d,.d])]
theorem QAw (o:TOp') (h :
 K (Qg1 (o.2.2.1,o.2.1,o.2.2.2))):Hold (tawp QJN (0+0) QAH (TQ 0 0 QHq K) (Qe [(.a (Tup.cells ctOp o))])) :=
 Hold.of (by kernel_rfl) h
theorem QHg (o:TOp'):TCon Tryz.prog 212 [(.a (Tup.cells ctOp o))] (Qg1 (QN o)):=by
 refine Ql rfl fun hb=>tcg (n:=10) (sg:=QfI.sg) Qi TOk.nil (by kernel_rfl) (by kernel_rfl) (QAw _ o ?_)
 have hl_o_3:(o.2.2.2).length≤9223372036854775807:=hb.1.2.2.2.1.1
 exact R_eq rfl
theorem QmT:Qh Tryz.prog QfI:=Qk fun x _=>QHg x.1
def QjH (t:TMat):TRes:=zra (.a [(zci t.1),(zci t.2.1),(zcs [TI] t.2.2)])
def Qf6:TRow:=Qg 225 [(.a ctOp)] fun x=>(none,QjH (QN x.1))
def QDt:List TRow:=[]
def Qze:TCode :=
 (zsq [(.reg [zop 1 (.box 69 0 4),zop 2 (.new 185 (z0s [TI,TI,(.sl [TI])]))]),(.reg [zfa 3 1 2,zld 4 3 1,zfa 5 1 1,zld 6 5 1,zfa 7 1 3,zld 8 7 1,zop 9 (.build (z0s [TI,TI,(.sl [TI])]) [(0,1,4),(1,1,6),(2,1,8)]),zst 2 9 3]),.ret])
def Qz5:List (ARv × Md):=[(.l 2 3 true,.b [.d,.d,.d])]
theorem QzB (o:TOp') (h :
 K (QjH (o.2.2.1,o.2.1,o.2.2.2))):Hold (tawp QDt (0+0) Qze (TQ 0 0 Qz5 K) (Qe [(.a (Tup.cells ctOp o))])) :=
 Hold.of (by kernel_rfl) h
theorem QI7 (o:TOp'):TCon Tryz.prog 225 [(.a (Tup.cells ctOp o))] (QjH (QN o)):=by
 refine Ql rfl fun hb=>tcg (n:=10) (sg:=Qf6.sg) Qi TOk.nil (by kernel_rfl) (by kernel_rfl) (QzB _ o ?_)
 have hl_o_3:(o.2.2.2).length≤9223372036854775807:=hb.1.2.2.2.1.1
 exact R_eq rfl
theorem QnX:Qh Tryz.prog Qf6:=Qk fun x _=>QI7 x.1
end
end Go.Proofs.YtjbdljkhbglnhaaGreat.Am

