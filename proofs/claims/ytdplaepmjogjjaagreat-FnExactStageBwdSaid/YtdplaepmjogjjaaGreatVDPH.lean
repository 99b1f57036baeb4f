/- -/
import Derived.Test.YtdplaepmjogjjaaGreatVDP1
import Derived.Test.YtdplaepmjogjjaaGreatVDPG
import Derived.Test.YtdplaepmjogjjaaGreatVDPF
namespace Go.Proofs.YtdplaepmjogjjaaGreat.Am
open Go Go.RowKit Go.Proofs.YtdplaepmjogjjaaGreat
set_option linter.all false
noncomputable section
variable (K:TRes→Prop)
def QdU (t:Bool):TRes:=zre (zcb t)
def QcU:TRow:=Qg 258 [(.a [TI,TI,(.sl [TI])])] fun x=>(none,QdU (Q9 x.1))
def Qts:TTab:=⟨[QcO],false⟩
def QFh:TCode :=
 (zsq [(.reg [zop 1 (.box 235 0 3),zmv 2 (zkb false)]),(zsq [(.reg [zfa 3 1 0,zld 4 3 1,zbi 5 .lss 4 (zki 1),zmv 6 5,.grp 6 false [zfa 7 1 0,zld 8 7 1,zbi 9 .gtr 8 (zki 6)] 10 9,zmv 11 10,.grp 11 false [zfa 12 1 1,zld 13 12 1,zbi 14 .lss 13 (zki 1)] 15 14,zmv 16 15,.grp 16 false [zfa 17 1 1,zld 18 17 1,zbi 19 .gtr 18 (zki 6)] 20 19]),(.cond 20 (zsq [(.reg [zmv 2 (zkb false)]),.ret]) .skip)]),(.reg [zfa 21 1 2,zld 22 21 1,zle 23 22,zfa 24 1 0,zld 25 24 1,zfa 26 1 1,zld 27 26 1,zbi 28 .mul 25 27,zbi 29 .eql 23 28,zmv 30 29,.grp 30 true [zfa 31 1 2,zld 32 31 1,zca 33 238 [32]] 34 33,zmv 2 34]),.ret])
def QDP:List (ARv × Md):=[(.t 2,.one .d)]
theorem QFs (m:TMat) (h :
 (zif ((((decide (m.1<(1:Int)))||(decide (m.1>(6:Int))))||(decide (m.2.1<(1:Int))))||(decide (m.2.1>(6:Int)))) (K (QdU false)) (K (QdU ((((m.2.2).length:Int)==(w64 (m.1*m.2.1)))&&(ZH m.2.2)))))):Hold (tawp Qts (0+0) QFh (TQ 0 0 QDP K) (Qd [(.a [(.c TI m.1),(.c TI m.2.1),(.c (.sl [TI]) m.2.2)])])) :=
 Hold.of (by kernel_rfl) h
theorem QHB (m:TMat):TCon Tryz.prog 258 [(.a [(.c TI m.1),(.c TI m.2.1),(.c (.sl [TI]) m.2.2)])] (QdU (Q9 m)):=by
 refine Qh rfl fun hb=>tcg (Γ:=Qts) (n:=35) (sg:=QcU.sg) Qi (TOkL.cons QkU TOkL.nil) (by kernel_rfl) (by kernel_rfl) (QFs _ m ?_)
 have hl_m_2:(m.2.2).length≤9223372036854775807:=hb.1.2.2.1.1
 refine ⟨fun h=>R_eq ?_,fun h=>R_eq ?_⟩
 ·have:(m_in m.1 1 6&&m_in m.2.1 1 6)=false:=by simp [m_in];simp at h;omega
  unfold Q9;rw [this];rfl
 ·have h':(1≤m.1∧m.1≤6)∧1≤m.2.1∧m.2.1≤6:=by simp at h;omega
  have hm:=QaN h'.1.1 h'.1.2 h'.2.1 h'.2.2
  rw [Qx (x:=m.1*m.2.1) (by omega) (by omega)]
  unfold Q9
  rw [Zw.2 h'.1,Zw.2 h'.2];simp
theorem Qiz:Qf Tryz.prog QcU:=Qj fun x _=>QHB x.1
def JH (t:Bool):TRes:=zre (zcb t)
def QjN:TRow:=Qg 254 [(.a [TI,TI,(.sl [TI])])] fun x=>(none,JH (Q9 x.1))
def Qfs:TTab:=⟨[Ji,QbD],false⟩
def QvK:TCode :=
 (zsq [(zsq [(.reg [zmv 25 3,zfa 26 1 2,zld 27 26 1,zle 28 27,zbi 29 .lss 25 28]),(.cond 29 .skip (.exit 0))]),(.block 1 (zsq [(.reg [zfa 32 1 2,zld 33 32 1,zmv 34 3,zia 35 33 34 [TI],zld 36 35 1,zca 37 183 [36],zno 38 37]),(.cond 38 (zsq [(.reg [zmv 2 (zkb false)]),.ret]) .skip)])),(.reg [zmv 30 3,zbi 31 .add 30 (zki 1),zmv 3 31])])
def QmB:List (Nat × Md):=[(1,.b [.d,.d,.d]),(3,.one .d)]
def Qqb:TCode :=
 (zsq [(.reg [zmv 2 (zkb true)]),.ret])
def QJh:TCode :=
 (zsq [(.reg [zop 1 (.box 235 0 3),zmv 2 (zkb false)]),(zsq [(.reg [zfa 4 1 0,zld 5 4 1,zca 6 158 [5,(zki 1),(zki 6)],zno 7 6,zmv 8 7,.grp 8 false [zfa 9 1 1,zld 10 9 1,zca 11 158 [10,(zki 1),(zki 6)],zno 12 11] 13 12,zmv 14 13,.grp 14 false [zfa 15 1 2,zld 16 15 1,zle 17 16,zfa 18 1 0,zld 19 18 1,zfa 20 1 1,zld 21 20 1,zbi 22 .mul 19 21,zbi 23 .neq 17 22] 24 23]),(.cond 24 (zsq [(.reg [zmv 2 (zkb false)]),.ret]) .skip)]),(zsq [(.reg [zmv 3 (zki 0)]),(.block 0 (.loop QmB QvK))]),Qqb])
def Qoe:List (ARv × Md):=[(.t 2,.one .d)]
def Qm1:Qb:=TQ 0 0 Qoe K
def QDp:Qb:=Qseq (tawp Qfs 0 Qqb (Qm1 K)) (Qm1 K)
def QG8:Qb:=Qblk 0 (QDp K)
def Qib (m:TMat) (i:Int):Prop:=Loop Qfs 0 QmB QvK (QG8 K) ⟨[(1,(.p 0 0 0)),(3,(zci i))],[(0,(.box [(zci m.1),(zci m.2.1),(zcs [TI] m.2.2)]))],1⟩
theorem Qx2 (m:TMat) (i:Int) (h :
 (zif (decide (i<((m.2.2).length:Int))) (((0:Int)≤i∧Int.toNat i<(m.2.2).length)∧(zif (!(Zt (gtd (0:Int) m.2.2 (Int.toNat i)))) (K (JH false)) (Qib K m (w64 (i+(1:Int)))))) (K (JH true)))):Qib K m i :=
 Loop.of (by kernel_rfl) h
theorem Qzu (m:TMat) (h :
 (zif (((!(m_in m.1 (1:Int) (6:Int)))||(!(m_in m.2.1 (1:Int) (6:Int))))||(((m.2.2).length:Int) != (w64 (m.1*m.2.1)))) (K (JH false)) (Qib K m 0))):Hold (tawp Qfs (0+0) QJh (TQ 0 0 Qoe K) (Qd [(.a [(.c TI m.1),(.c TI m.2.1),(.c (.sl [TI]) m.2.2)])])) :=
 Hold.of (by kernel_rfl) h
theorem Qyn (m:TMat):TCon Tryz.prog 254 [(.a [(.c TI m.1),(.c TI m.2.1),(.c (.sl [TI]) m.2.2)])] (JH (Q9 m)):=by
 refine Qh rfl fun hb=>tcg (Γ:=Qfs) (n:=39) (sg:=QjN.sg) Qi (TOkL.cons Qa6 (TOkL.cons Qfr TOkL.nil)) (by kernel_rfl) (by kernel_rfl) (Qzu _ m ?_)
 have hl_m_2:(m.2.2).length≤9223372036854775807:=hb.1.2.2.1.1
 refine ⟨fun h=>R_eq ?_,fun h=>?_⟩
 ·have:Q9 m=false:=by
   cases hm:Q9 m with
   | false=>rfl
   | true =>
    obtain ⟨h1,h2,h3,h4,h5,h6,h7⟩:=QbI hm
    rw [Zw.2 ⟨h1,h2⟩,Zw.2 ⟨h3,h4⟩,Qx (x:=m.1*m.2.1) (by have:=QaN h1 h2 h3 h4;omega) (by omega),← h5] at h
    simp at h
  exact this.symm
 ·have h':m_in m.1 1 6=true∧m_in m.2.1 1 6=true:=by simp at h;exact h.1
  have h1:=Zw.1 h'.1
  have h2:=Zw.1 h'.2
  have hm:=QaN h1.1 h1.2 h2.1 h2.2
  rw [Qx (x:=m.1*m.2.1) (by omega) (by omega)] at h
  exact QfS (Q:=fun x=>JH x=JH (Q9 m)) (p:=Zt) (c:=fun x=>!(Zt x)) 0 hl_m_2 (fun _=>rfl) (fun i h=>Qx2 (fun r'=>r'=JH (Q9 m)) m i h) (R_eq (by
   unfold Q9 ZH
   have h3:((m.2.2.length:Int)==m.1*m.2.1)=true:=by simp [h'] at h;simp [h]
   rw [h'.1,h'.2,h3];simp))
theorem QKB:Qf Tryz.prog QjN:=Qj fun x _=>Qyn x.1
def QbR (t:(List Int)):TRes:=zra (zcs [TI] t)
def Qj9:TRow:=Qg 264 [(.a [TI,TI,(.sl [TI])]),(.c TI)] fun x=>(some (QjP x.1 x.2.1),QbR (Zl x.1 x.2.1))
def QeX:TTab:=⟨[],false⟩
def QrL:TCode :=
 (zsq [(zsq [(.reg [zmv 8 6,zfa 9 2 0,zld 10 9 1,zbi 11 .lss 8 10]),(.cond 11 .skip (.exit 0))]),(.block 1 (.reg [zmv 14 5,zfa 15 2 2,zld 16 15 1,zmv 17 6,zfa 18 2 1,zld 19 18 1,zbi 20 .mul 17 19,zmv 21 1,zbi 22 .add 20 21,zia 23 16 22 [TI],zld 24 23 1,zop 25 (.bsl 3 [TI] [24]),zop 26 (.app 14 25 3 [TI]),zmv 5 26])),(.reg [zmv 12 6,zbi 13 .add 12 (zki 1),zmv 6 13])])
def QsL:List (Nat × Md):=[(1,.one .d),(2,.b [.d,.d,.d]),(5,.one .f),(6,.one .d)]
def Qpr:TCode :=
 (zsq [(.reg [zmv 27 5,zmv 4 27]),.ret])
def QBh:TCode :=
 (zsq [(.reg [zop 2 (.box 235 0 3),zmv 4 (.k (.n [TI]))]),(.reg [zop 7 (.bsl 3 [TI] []),zmv 5 7]),(zsq [(.reg [zmv 6 (zki 0)]),(.block 0 (.loop QsL QrL))]),Qpr])
def QnW:List (ARv × Md):=[(.t 4,.one .d)]
def Qt2:Qb:=TQ 0 0 QnW K
def QCe:Qb:=Qseq (tawp QeX 0 Qpr (Qt2 K)) (Qt2 K)
def QKl:Qb:=Qblk 0 (QCe K)
def Qfc (m:TMat) (k:Int) (i:Int) (out:List Int):Prop:=Loop QeX 0 QsL QrL (QKl K) ⟨[(1,(zci k)),(2,(.p 0 0 0)),(5,(.r [TI] 1 0 out.length)),(6,(zci i))],[(0,(.box [(zci m.1),(zci m.2.1),(zcs [TI] m.2.2)])),(1,(.sl 3 [TI] .ow out))],2⟩
theorem Qo9 (m:TMat) (k:Int) (i:Int) (out:List Int) (h :
 (zif (decide (i<m.1)) ((((0:Int)≤w64 ((w64 (i*m.2.1))+k)∧Int.toNat (w64 ((w64 (i*m.2.1))+k))<(m.2.2).length)∧((out.length=out.length∨out.length+1≤out.length)∧out.length+1≤big))∧(Qfc K m k (w64 (i+(1:Int))) (List.take (out.length+1) ((List.take out.length out)++([(gtd (0:Int) m.2.2 (Int.toNat (w64 ((w64 (i*m.2.1))+k))))]))))) (K (QbR (List.take out.length (List.drop 0 out)))))):Qfc K m k i out :=
 Loop.of (by kernel_rfl) h
theorem QC2 (m:TMat) (k:Int) (h :
 (Qfc K m k 0 ([]:List Int))):Hold (tawp QeX (0+0) QBh (TQ 0 0 QnW K) (Qd [(.a [(.c TI m.1),(.c TI m.2.1),(.c (.sl [TI]) m.2.2)]),(.c TI k)])) :=
 Hold.of (by kernel_rfl) h
theorem QHs (m:TMat) (k:Int) (hp:QjP m k):TCon Tryz.prog 264 [(.a [(.c TI m.1),(.c TI m.2.1),(.c (.sl [TI]) m.2.2)]),(.c TI k)] (QbR (Zl m k)):=by
 refine Qh rfl fun hb=>tcg (Γ:=QeX) (n:=28) (sg:=Qj9.sg) Qi TOkL.nil (by kernel_rfl) (by kernel_rfl) (QC2 _ m k ?_)
 have hl_m_2:(m.2.2).length≤9223372036854775807:=hb.1.2.2.1.1
 obtain ⟨h2,h3,h4,h5,h6,h7⟩:=hp
 have h36:m.1*m.2.1≤36:=by
  have:=Int.mul_le_mul h6 h2 (by omega) (by omega:(0:Int)≤6);omega
 refine Qb3 m.1.toNat (fun j=>Qfc (fun r'=>r'=QbR (Zl m k)) m k (j:Int) ((List.range j).map fun i:Nat=>gtd 0 m.2.2 ((i:Int)*m.2.1+k).toNat)) ?_ ?_
 ·refine Qo9 (fun r'=>r'=QbR (Zl m k)) m k _ _ ⟨fun h=>by simp at h;omega,fun _=>R_eq ?_⟩
  unfold Zl;rw [List.drop_zero,List.take_length]
 ·intro j hj ih
  have hd:=idx (r:=j) (R:=m.1) (C:=m.2.1) (by omega) (by omega) (by omega)
  refine Qo9 (fun r'=>r'=QbR (Zl m k)) m k _ _ ⟨fun _=>?_,fun h=>by simp at h;omega⟩
  rw [Qx (x:=(j:Int)*m.2.1) (by omega) (by omega),Qx (x:=(j:Int)*m.2.1+k) (by omega) (by omega),sc1 (by omega),Zm]
  rw [QeL] at ih
  exact ⟨⟨⟨by omega,by omega⟩,room (by simp;omega)⟩,ih⟩
theorem Qyd:Qf Tryz.prog Qj9:=Qj fun x h=>QHs x.1 x.2.1 h
def Qar (t:(List Int) × Bool):TRes:=⟨(.tp [(.r [TI] 0 0 ((t.1).length)),(zcb t.2)]),[(.sl 3 [TI] (.dp 0 true []) t.1)],[],false,[]⟩
def Qkx:TRow:=Qg 229 [(.a [TI,TI,(.sl [TI])]),(.c (.sl [TI]))] fun x=>(none,Qar (ZP x.1 x.2.1))
def Qd3:TTab:=⟨[QcU,Ju,Qee],true⟩
def QtU:TCode :=
 (zsq [(zsq [(.reg [zmv 22 8,zfa 23 2 0,zld 24 23 1,zbi 25 .lss 22 24]),(.cond 25 .skip (.exit 0))]),(.block 1 (zsq [(.reg [zfa 29 2 2,zld 30 29 1,zmv 31 8,zfa 32 2 1,zld 33 32 1,zbi 34 .mul 31 33,zmv 35 8,zbi 36 .add 35 (zki 1),zfa 37 2 1,zld 38 37 1,zbi 39 .mul 36 38,zop 40 (.slc 30 (some 34) (some 39) [TI]),zmv 41 1,zca 42 188 [40,41],zmv 28 42,zex 43 28 0,zex 44 28 1,zmv 9 43,zmv 10 44]),(.reg [zmv 45 6,zmv 46 9,zop 47 (.bsl 3 [TI] [46]),zop 48 (.app 45 47 3 [TI]),zmv 6 48]),(.reg [zmv 49 7,zmv 50 49,.grp 50 false [zmv 51 10] 52 51,zmv 7 52])])),(.reg [zmv 26 8,zbi 27 .add 26 (zki 1),zmv 8 27])])
def QpO:List (Nat × Md):=[(1,.one .d),(2,.b [.d,.d,.d]),(6,.one .f),(7,.one .d),(8,.one .d)]
def Qua:TCode :=
 (zsq [(.reg [zmv 53 6,zmv 54 7,zmv 4 53,zmv 5 54]),.ret])
def QAD:TCode :=
 (zsq [(.reg [zop 2 (.box 235 0 3),zmv 4 (.k (.n [TI])),zmv 5 (zkb false)]),(zsq [(.reg [zLd 11 2 3,zca 12 258 [11],zno 13 12,zmv 14 13,.grp 14 false [zmv 15 1,zfa 16 2 1,zld 17 16 1,zca 18 100 [15,17],zno 19 18] 20 19]),(.cond 20 (zsq [(.reg [zmv 4 (.k (.n [TI])),zmv 5 (zkb false)]),.ret]) .skip)]),(.reg [zop 21 (.bsl 3 [TI] []),zmv 6 21]),(.reg [zmv 7 (zkb false)]),(zsq [(.reg [zmv 8 (zki 0)]),(.block 0 (.loop QpO QtU))]),Qua])
def Qsw:List (ARv × Md):=[(.t 4,.one (.p 3)),(.t 5,.one .d)]
def QlK:Qb:=TQ 0 0 Qsw K
def QIA:Qb:=Qseq (tawp Qd3 0 Qua (QlK K)) (QlK K)
def QKd:Qb:=Qblk 0 (QIA K)
def QeJ (m:TMat) (x:List Int) (out:Bool) (r:Int) (v:List Int):Prop:=Loop Qd3 0 QpO QtU (QKd K) ⟨[(1,(zcs [TI] x)),(2,(.p 0 0 0)),(6,(.r [TI] 1 0 v.length)),(7,(zcb out)),(8,(zci r))],[(0,(.box [(zci m.1),(zci m.2.1),(zcs [TI] m.2.2)])),(1,(.sl 3 [TI] (.dp 0 true []) v))],2⟩
theorem Qta (m:TMat) (x:List Int) (out:Bool) (r:Int) (v:List Int) (h :
 (zif (decide (r<m.1)) (((0:Int)≤w64 (r*m.2.1)∧w64 (r*m.2.1)≤w64 ((w64 (r+(1:Int)))*m.2.1)∧w64 ((w64 (r+(1:Int)))*m.2.1)≤((m.2.2).length:Int))∧(((v.length=v.length∨v.length+1≤v.length)∧v.length+1≤big)∧(QeJ K m x (out||((QQ (List.take (Int.toNat (w64 ((w64 (r+(1:Int)))*m.2.1))-Int.toNat (w64 (r*m.2.1))) (List.drop (Int.toNat (w64 (r*m.2.1))) m.2.2)) x).2)) (w64 (r+(1:Int))) (List.take (v.length+1) ((List.take v.length v)++([(QQ (List.take (Int.toNat (w64 ((w64 (r+(1:Int)))*m.2.1))-Int.toNat (w64 (r*m.2.1))) (List.drop (Int.toNat (w64 (r*m.2.1))) m.2.2)) x).1])))))) (K (Qar ((List.take v.length v),out))))):QeJ K m x out r v :=
 Loop.of (by kernel_rfl) h
theorem QDT (m:TMat) (x:List Int) (h :
 (zif ((!(Q9 m))||(!(Qq x m.2.1))) (K (Qar (([]:List Int),false))) (QeJ K m x false 0 ([]:List Int)))):Hold (tawp Qd3 (0+0) QAD (TQ 0 0 Qsw K) (Qd [(.a [(.c TI m.1),(.c TI m.2.1),(.c (.sl [TI]) m.2.2)]),(.c (.sl [TI]) x)])) :=
 Hold.of (by kernel_rfl) h
theorem Qy1 (m:TMat) (x:List Int):TCon Tryz.prog 229 [(.a [(.c TI m.1),(.c TI m.2.1),(.c (.sl [TI]) m.2.2)]),(.c (.sl [TI]) x)] (Qar (ZP m x)):=by
 refine Qh rfl fun hb=>tcg (Γ:=Qd3) (n:=55) (sg:=Qkx.sg) Qi (TOkL.cons Qiz (TOkL.cons Qay (TOkL.cons Qtm TOkL.nil))) (by kernel_rfl) (by kernel_rfl) (QDT _ m x ?_)
 have hl_m_2:(m.2.2).length≤9223372036854775807:=hb.1.2.2.1.1
 have hl_x:x.length≤9223372036854775807:=hb.2.1.1
 refine ⟨fun h=>R_eq (by rw [QEF];intro h2;simp [h2.1,h2.2] at h),fun h=>?_⟩
 have hp:Q9 m=true∧Qq x m.2.1=true:=by simpa using h
 obtain ⟨h1,h2,h3,h4,h5,h6,h7⟩:=QbI hp.1
 have hv:(ZP m x)=((List.range m.1.toNat).map fun i:Nat=>(QQ (Jt m i) x).1,(List.range m.1.toNat).any fun i:Nat=>(QQ (Jt m i) x).2):=by unfold ZP;rw [if_pos (by simp [hp])]
 refine Qb3 m.1.toNat (fun j=>QeJ (fun r'=>r'=Qar (ZP m x)) m x ((List.range j).any fun i:Nat=>(QQ (Jt m i) x).2) (j:Int) ((List.range j).map fun i:Nat=>(QQ (Jt m i) x).1)) ?_ ?_
 ·refine Qta (fun r'=>r'=Qar (ZP m x)) m x _ _ _ ⟨fun h=>by simp at h;omega,fun _=>R_eq ?_⟩
  rw [hv,List.take_length]
 ·intro j hj ih
  have hd:=idx (r:=j) (R:=m.1) (C:=m.2.1) (by omega) (by omega) (by omega)
  refine Qta (fun r'=>r'=Qar (ZP m x)) m x _ _ _ ⟨fun _=>?_,fun h=>by simp at h;omega⟩
  rw [Qx (x:=(j:Int)+1) (by omega) (by omega),Qx (x:=(j:Int)*m.2.1) (by omega) (by omega),Qx (x:=((j:Int)+1)*m.2.1) (by omega) (by omega),Zm]
  rw [QeL,QsK] at ih
  exact ⟨⟨by omega,by omega,by omega⟩,room (by simp;omega),ih⟩
theorem QGB:Qf Tryz.prog Qkx:=Qj fun x _=>Qy1 x.1 x.2.1
def YY (t:TMat):TRes:=zra (.a [(zci t.1),(zci t.2.1),(zcs [TI] t.2.2)])
def QkP:TRow:=Qg 265 [(.a [TI,TI,(.sl [TI])])] fun x=>(none,YY (ZF x.1))
def Qap:TTab:=⟨[QcU],false⟩
def Quo:TCode :=
 (zsq [(zsq [(.reg [zmv 21 5,zfa 22 1 0,zld 23 22 1,zbi 24 .lss 21 23]),(.cond 24 .skip (.exit 2))]),(.block 3 (.draw [zfa 27 3 2,zld 28 27 1,zfa 29 1 2,zld 30 29 1,zmv 31 5,zfa 32 1 1,zld 33 32 1,zbi 34 .mul 31 33,zmv 35 4,zbi 36 .add 34 35,zia 37 30 36 [TI],zld 38 37 1,zop 39 (.bsl 3 [TI] [38]),zop 40 (.app 28 39 3 [TI]),zfa 41 3 2,zst 41 40 1] [(0,12),(1,12)])),(.reg [zmv 25 5,zbi 26 .add 25 (zki 1),zmv 5 26])])
def Qsc:List (Nat × Md):=[(1,.b [.d,.d,.d]),(2,.b [.d,.d,.d]),(3,.b [.d,.d,.f]),(4,.one .d),(5,.one .d)]
def Qlj:TCode :=
 (.reg [zmv 19 4,zbi 20 .add 19 (zki 1),zmv 4 20])
def Qjc:TCode :=
 (zsq [(zsq [(.reg [zmv 15 4,zfa 16 1 1,zld 17 16 1,zbi 18 .lss 15 17]),(.cond 18 .skip (.exit 0))]),(.block 1 (zsq [(.reg [zmv 5 (zki 0)]),(.block 2 (.loop Qsc Quo))])),Qlj])
def QfA:List (Nat × Md):=[(1,.b [.d,.d,.d]),(2,.b [.d,.d,.d]),(3,.b [.d,.d,.o 3]),(4,.one .d)]
def Qs9:TCode :=
 (zsq [(.reg [zLd 42 3 3,zst 2 42 3]),.ret])
def QCQ:TCode :=
 (zsq [(.reg [zop 1 (.box 235 0 3),zop 2 (.new 235 (z0s [TI,TI,(.sl [TI])]))]),(zsq [(.reg [zLd 6 1 3,zca 7 258 [6],zno 8 7]),(.cond 8 (zsq [(.reg [zop 9 (.build (z0s [TI,TI,(.sl [TI])]) []),zst 2 9 3]),.ret]) .skip)]),(.reg [zfa 10 1 1,zld 11 10 1,zfa 12 1 0,zld 13 12 1,zop 14 (.build (z0s [TI,TI,(.sl [TI])]) [(0,1,11),(1,1,13)]),zop 3 (.new 235 (z0s [TI,TI,(.sl [TI])])),zst 3 14 3]),(zsq [(.reg [zmv 4 (zki 0)]),(.block 0 (.loop QfA Qjc))]),Qs9])
def Quz:List (ARv × Md):=[(.l 2 3 true,.b [.d,.d,.d])]
def QqA:Qb:=TQ 0 0 Quz K
def QF6:Qb:=Qseq (tawp Qap 0 Qs9 (QqA K)) (QqA K)
def QgM:Qb:=Qblk 0 (QF6 K)
def QuN:Qb:=Qseq (fun s'=>Loop Qap 0 QfA Qjc (QgM K) (gc 0 QfA s')) (QgM K)
def Qxh:Qb:=Qseq (tawp Qap 0 Qlj (QuN K)) (QuN K)
def QJU:Qb:=Qblk 1 (Qxh K)
def QEG:Qb:=Qblk 2 (QJU K)
def Qfj (m:TMat) (r:Int) (t2:List Int) (c:Int):Prop:=Loop Qap 0 Qsc Quo (QEG K) ⟨[(1,(.p 0 0 0)),(2,(.p 1 0 0)),(3,(.p 3 0 0)),(4,(zci c)),(5,(zci r))],[(0,(.box [(zci m.1),(zci m.2.1),(zcs [TI] m.2.2)])),(1,(.box [(zci 0),(zci 0),(zcs [TI] ([]))])),(2,(.sl 3 [TI] .ow t2)),(3,(.box [(zci m.2.1),(zci m.1),(.r [TI] 2 0 t2.length)]))],4⟩
def Qgj (m:TMat) (c:Int) (t21:List Int):Prop:=Loop Qap 0 QfA Qjc (QgM K) ⟨[(1,(.p 0 0 0)),(2,(.p 1 0 0)),(3,(.p 3 0 0)),(4,(zci c))],[(0,(.box [(zci m.1),(zci m.2.1),(zcs [TI] m.2.2)])),(1,(.box [(zci 0),(zci 0),(zcs [TI] ([]))])),(2,(.sl 3 [TI] .ow t21)),(3,(.box [(zci m.2.1),(zci m.1),(.r [TI] 2 0 t21.length)]))],4⟩
theorem QoV (m:TMat) (r:Int) (t2:List Int) (c:Int) (h :
 (zif (decide (r<m.1)) ((((0:Int)≤w64 ((w64 (r*m.2.1))+c)∧Int.toNat (w64 ((w64 (r*m.2.1))+c))<(m.2.2).length)∧((t2.length=t2.length∨t2.length+1≤t2.length)∧t2.length+1≤big))∧(Qfj K m (w64 (r+(1:Int))) (List.take (t2.length+1) ((List.take t2.length t2)++([(gtd (0:Int) m.2.2 (Int.toNat (w64 ((w64 (r*m.2.1))+c))))]))) c)) (Qgj K m (w64 (c+(1:Int))) (List.take t2.length t2)))):Qfj K m r t2 c :=
 Loop.of (by kernel_rfl) h
theorem Qs8 (m:TMat) (c:Int) (t21:List Int) (h :
 (zif (decide (c<m.2.1)) (Qfj K m 0 (List.take t21.length t21) c) (K (YY (m.2.1,m.1,(List.take t21.length (List.drop 0 t21))))))):Qgj K m c t21 :=
 Loop.of (by kernel_rfl) h
theorem QIx (m:TMat) (h :
 (zif (!(Q9 m)) (K (YY ((0:Int),(0:Int),[]))) (Qgj K m 0 ([]:List Int)))):Hold (tawp Qap (0+0) QCQ (TQ 0 0 Quz K) (Qd [(.a [(.c TI m.1),(.c TI m.2.1),(.c (.sl [TI]) m.2.2)])])) :=
 Hold.of (by kernel_rfl) h
theorem QEJ (m:TMat):TCon Tryz.prog 265 [(.a [(.c TI m.1),(.c TI m.2.1),(.c (.sl [TI]) m.2.2)])] (YY (ZF m)):=by
 refine Qh rfl fun hb=>tcg (Γ:=Qap) (n:=43) (sg:=QkP.sg) Qi (TOkL.cons Qiz TOkL.nil) (by kernel_rfl) (by kernel_rfl) (QIx _ m ?_)
 have hl_m_2:(m.2.2).length≤9223372036854775807:=hb.1.2.2.1.1
 refine ⟨fun h=>R_eq (by unfold ZF;rw [if_neg (by simpa using h)]),fun h=>?_⟩
 have hp:Q9 m=true:=by simpa using h
 obtain ⟨h1,h2,h3,h4,h5,h6,h7⟩:=QbI hp
 refine Qb3 m.2.1.toNat (fun k=>Qgj (fun r'=>r'=YY (ZF m)) m (k:Int) ((List.range k).flatMap fun k:Nat=>Zl m k)) ?_ ?_
 ·refine Qs8 (fun r'=>r'=YY (ZF m)) m _ _ ⟨fun h=>by simp at h;omega,fun _=>R_eq ?_⟩
  rw [List.drop_zero,List.take_length];unfold ZF;rw [if_pos hp]
 ·intro k hk ih
  refine Qs8 (fun r'=>r'=YY (ZF m)) m _ _ ⟨fun _=>?_,fun h=>by simp at h;omega⟩
  rw [List.take_length]
  have hk36:((List.range k).flatMap fun k:Nat=>Zl m k).length≤36:=by
   rw [Qjw (R:=m.1.toNat) k (fun j _=>QiG m j)]
   have:k*m.1.toNat≤6*6:=Nat.mul_le_mul (by omega) (by omega)
   omega
  have inner:=Qb3 m.1.toNat (fun j=>Qfj (fun r'=>r'=YY (ZF m)) m (j:Int) (((List.range k).flatMap fun k:Nat=>Zl m k)++(List.range j).map fun i:Nat=>gtd 0 m.2.2 ((i:Int)*m.2.1+(k:Nat)).toNat) (k:Int)) ?_ ?_
  ·simpa using inner
  ·refine QoV (fun r'=>r'=YY (ZF m)) m _ _ _ ⟨fun h=>by simp at h;omega,fun _=>?_⟩
   rw [List.take_length,sc1 (by omega)]
   rw [Qhl] at ih
   exact ih
  ·intro j hj ih2
   have hd:=idx (r:=j) (R:=m.1) (C:=m.2.1) (by omega) (by omega) (by omega)
   refine QoV (fun r'=>r'=YY (ZF m)) m _ _ _ ⟨fun _=>?_,fun h=>by simp at h;omega⟩
   rw [Qx (x:=(j:Int)*m.2.1) (by omega) (by omega),Qx (x:=(j:Int)*m.2.1+(k:Int)) (by omega) (by omega),sc1 (by omega),Zm]
   rw [QeL,← List.append_assoc] at ih2
   exact ⟨⟨⟨by omega,by omega⟩,room (by rw [List.length_append];simp only [List.length_map,List.length_range];omega)⟩,ih2⟩
theorem QxT:Qf Tryz.prog QkP:=Qj fun x _=>QEJ x.1
def QdH (t:(List Int) × Bool):TRes:=⟨(.tp [(.r [TI] 0 0 ((t.1).length)),(zcb t.2)]),[(.sl 3 [TI] (.dp 0 true []) t.1)],[],false,[]⟩
def Qk6:TRow:=Qg 244 [(.a [TI,TI,(.sl [TI])]),(.c (.sl [TI]))] fun x=>(none,QdH (Q2 x.1 x.2.1))
def QsN:TTab:=⟨[QcU,Ju,QkP,Qkx],true⟩
def QBa:TCode :=
 (zsq [(.reg [zop 2 (.box 235 0 3),zmv 4 (.k (.n [TI])),zmv 5 (zkb false)]),(zsq [(.reg [zLd 6 2 3,zca 7 258 [6],zno 8 7,zmv 9 8,.grp 9 false [zmv 10 1,zfa 11 2 0,zld 12 11 1,zca 13 100 [10,12],zno 14 13] 15 14]),(.cond 15 (zsq [(.reg [zmv 4 (.k (.n [TI])),zmv 5 (zkb false)]),.ret]) .skip)]),(.reg [zLd 16 2 3,zca 17 265 [16],zmv 18 1,zca 19 229 [17,18],zex 20 19 0,zex 21 19 1,zmv 4 20,zmv 5 21]),.ret])
def QJu:List (ARv × Md):=[(.t 4,.one (.p 3)),(.t 5,.one .d)]
theorem QxP (m:TMat) (d:List Int) (h :
 (zif ((!(Q9 m))||(!(Qq d m.1))) (K (QdH (([]:List Int),false))) (K (QdH ((List.take (((ZP (ZF m) d).1).length) ((ZP (ZF m) d).1)),(ZP (ZF m) d).2))))):Hold (tawp QsN (0+0) QBa (TQ 0 0 QJu K) (Qd [(.a [(.c TI m.1),(.c TI m.2.1),(.c (.sl [TI]) m.2.2)]),(.c (.sl [TI]) d)])) :=
 Hold.of (by kernel_rfl) h
theorem QGe (m:TMat) (d:List Int):TCon Tryz.prog 244 [(.a [(.c TI m.1),(.c TI m.2.1),(.c (.sl [TI]) m.2.2)]),(.c (.sl [TI]) d)] (QdH (Q2 m d)):=by
 refine Qh rfl fun hb=>tcg (Γ:=QsN) (n:=22) (sg:=Qk6.sg) Qi (TOkL.cons Qiz (TOkL.cons Qay (TOkL.cons QxT (TOkL.cons QGB TOkL.nil)))) (by kernel_rfl) (by kernel_rfl) (QxP _ m d ?_)
 have hl_m_2:(m.2.2).length≤9223372036854775807:=hb.1.2.2.1.1
 have hl_d:d.length≤9223372036854775807:=hb.2.1.1
 refine ⟨fun h=>R_eq (by rw [QqT];intro h2;simp [h2.1,h2.2] at h),fun h=>?_⟩
 have hp:Q9 m=true∧Qq d m.1=true:=by simpa using h
 exact R_eq (by rw [List.take_length];exact Qv7 hp.1 hp.2)
theorem QzK:Qf Tryz.prog Qk6:=Qj fun x _=>QGe x.1 x.2.1
def QaQ (t:(List Int) × Bool):TRes:=zra (.tp [(zcs [TI] t.1),(zcb t.2)])
def QhE:TRow:=Qg 242 [(.a [TI,TI,(.sl [TI])]),(.c (.sl [TI]))] fun x=>(none,QaQ (Q2 x.1 x.2.1))
def Qe7:TTab:=⟨[QjN,YU,Qj9,QfJ],false⟩
def Qu4:TCode :=
 (zsq [(zsq [(.reg [zmv 28 8,zfa 29 2 1,zld 30 29 1,zbi 31 .lss 28 30]),(.cond 31 .skip (.exit 0))]),(.block 1 (zsq [(.reg [zLd 35 2 3,zmv 36 8,zca 37 264 [35,36],zmv 38 1,zca 39 184 [37,38],zmv 34 39,zex 40 34 0,zex 41 34 1,zmv 9 40,zmv 10 41]),(.reg [zmv 42 6,zmv 43 9,zop 44 (.bsl 3 [TI] [43]),zop 45 (.app 42 44 3 [TI]),zmv 6 45]),(.reg [zmv 46 7,zmv 47 46,.grp 47 false [zmv 48 10] 49 48,zmv 7 49])])),(.reg [zmv 32 8,zbi 33 .add 32 (zki 1),zmv 8 33])])
def Qog:List (Nat × Md):=[(1,.one .d),(2,.b [.d,.d,.d]),(6,.one .f),(7,.one .d),(8,.one .d)]
def Qu1:TCode :=
 (zsq [(.reg [zmv 50 6,zmv 51 7,zmv 4 50,zmv 5 51]),.ret])
def QEC:TCode :=
 (zsq [(.reg [zop 2 (.box 235 0 3),zmv 4 (.k (.n [TI])),zmv 5 (zkb false)]),(.reg [zop 11 (.bsl 3 [TI] []),zmv 6 11]),(.reg [zmv 7 (zkb false)]),(zsq [(.reg [zLd 12 2 3,zca 13 254 [12],zno 14 13,zmv 15 14,.grp 15 false [zmv 16 1,zca 17 97 [16],zno 18 17] 19 18,zmv 20 19,.grp 20 false [zmv 21 1,zle 22 21,zfa 23 2 0,zld 24 23 1,zbi 25 .neq 22 24] 26 25]),(.cond 26 (zsq [(.reg [zmv 27 6,zmv 4 27,zmv 5 (zkb false)]),.ret]) .skip)]),(zsq [(.reg [zmv 8 (zki 0)]),(.block 0 (.loop Qog Qu4))]),Qu1])
def QoY:List (ARv × Md):=[(.t 4,.one .d),(.t 5,.one .d)]
def Qvq:Qb:=TQ 0 0 QoY K
def QJP:Qb:=Qseq (tawp Qe7 0 Qu1 (Qvq K)) (Qvq K)
def QA7:Qb:=Qblk 0 (QJP K)
def QeH (m:TMat) (d:List Int) (sat:Bool) (k:Int) (out:List Int):Prop:=Loop Qe7 0 Qog Qu4 (QA7 K) ⟨[(1,(zcs [TI] d)),(2,(.p 0 0 0)),(6,(.r [TI] 1 0 out.length)),(7,(zcb sat)),(8,(zci k))],[(0,(.box [(zci m.1),(zci m.2.1),(zcs [TI] m.2.2)])),(1,(.sl 3 [TI] .ow out))],2⟩
theorem Qra (m:TMat) (d:List Int) (sat:Bool) (k:Int) (out:List Int) (h :
 (zif (decide (k<m.2.1)) ((QjP m k)∧(((out.length=out.length∨out.length+1≤out.length)∧out.length+1≤big)∧(QeH K m d (sat||((QQ (Zl m k) d).2)) (w64 (k+(1:Int))) (List.take (out.length+1) ((List.take out.length out)++([(QQ (Zl m k) d).1])))))) (K (QaQ ((List.take out.length (List.drop 0 out)),sat))))):QeH K m d sat k out :=
 Loop.of (by kernel_rfl) h
theorem QEL (m:TMat) (d:List Int) (h :
 (zif (((!(Q9 m))||(!(QA d)))||((d.length:Int) != m.1)) (K (QaQ (([]:List Int),false))) (QeH K m d false 0 ([]:List Int)))):Hold (tawp Qe7 (0+0) QEC (TQ 0 0 QoY K) (Qd [(.a [(.c TI m.1),(.c TI m.2.1),(.c (.sl [TI]) m.2.2)]),(.c (.sl [TI]) d)])) :=
 Hold.of (by kernel_rfl) h
theorem QzL (m:TMat) (d:List Int):TCon Tryz.prog 242 [(.a [(.c TI m.1),(.c TI m.2.1),(.c (.sl [TI]) m.2.2)]),(.c (.sl [TI]) d)] (QaQ (Q2 m d)):=by
 refine Qh rfl fun hb=>tcg (Γ:=Qe7) (n:=52) (sg:=QhE.sg) Qi (TOkL.cons QKB (TOkL.cons JW (TOkL.cons Qyd (TOkL.cons Qp4 TOkL.nil)))) (by kernel_rfl) (by kernel_rfl) (QEL _ m d ?_)
 have hl_m_2:(m.2.2).length≤9223372036854775807:=hb.1.2.2.1.1
 have hl_d:d.length≤9223372036854775807:=hb.2.1.1
 have hg:∀ n:Int,(!(QA d)||((d.length:Int) != n)) = !(Qq d n):=fun n=>by unfold Qq;simp [bne]
 rw [Bool.or_assoc,hg]
 refine ⟨fun h=>R_eq (by rw [QqT];intro h2;simp [h2.1,h2.2] at h),fun h=>?_⟩
 have hp:Q9 m=true∧Qq d m.1=true:=by simpa using h
 obtain ⟨h1,h2,h3,h4,h5,h6,h7⟩:=QbI hp.1
 have hv:(Q2 m d)=((List.range m.2.1.toNat).map fun k:Nat=>(QQ (Zl m k) d).1,(List.range m.2.1.toNat).any fun k:Nat=>(QQ (Zl m k) d).2):=by unfold Q2;rw [if_pos (by simp [hp])]
 refine Qb3 m.2.1.toNat (fun j=>QeH (fun r'=>r'=QaQ (Q2 m d)) m d ((List.range j).any fun k:Nat=>(QQ (Zl m k) d).2) (j:Int) ((List.range j).map fun k:Nat=>(QQ (Zl m k) d).1)) ?_ ?_
 ·refine Qra (fun r'=>r'=QaQ (Q2 m d)) m d _ _ _ ⟨fun h=>by simp at h;omega,fun _=>R_eq ?_⟩
  rw [hv,List.drop_zero,List.take_length]
 ·intro j hj ih
  refine Qra (fun r'=>r'=QaQ (Q2 m d)) m d _ _ _ ⟨fun _=>?_,fun h=>by simp at h;omega⟩
  rw [sc1 (by omega),Zm]
  rw [QeL,QsK] at ih
  exact ⟨⟨by omega,by omega,by omega,by omega,by omega,h5⟩,room (by simp;omega),ih⟩
theorem QIX:Qf Tryz.prog QhE:=Qj fun x _=>QzL x.1 x.2.1
def Jb (t:TMat × Bool):TRes:=⟨(.tp [(.a [(zci t.1.1),(zci t.1.2.1),(.r [TI] 0 0 ((t.1.2.2).length))]),(zcb t.2)]),[(.sl 3 [TI] (.dp 0 true []) t.1.2.2)],[],false,[]⟩
def QkW:TRow:=Qg 245 [(.c (.sl [TI])),(.c (.sl [TI]))] fun x=>(none,Jb (QS x.1 x.2.1))
def Qbf:TTab:=⟨[QbV,Qcz],true⟩
def Qns:TCode :=
 (zsq [(.reg [zbi 37 .lss 36 35]),(.cond 37 .skip (.exit 2)),(.block 3 (zsq [(.reg [zia 38 34 36 [TI],zld 39 38 1,zmv 11 39]),(.reg [zmv 41 9,zmv 42 11,zca 43 239 [41,42],zmv 40 43,zex 44 40 0,zex 45 40 1,zmv 12 44,zmv 13 45]),(.reg [zfa 46 6 2,zld 47 46 1,zmv 48 12,zop 49 (.bsl 3 [TI] [48]),zop 50 (.app 47 49 3 [TI]),zfa 51 6 2,zst 51 50 1]),(.reg [zmv 52 7,zmv 53 52,.grp 53 false [zmv 54 13] 55 54,zmv 7 55])])),(.reg [zbi 56 .add 36 (zki 1),zmv 36 56])])
def Qmb:List (Nat × Md):=[(1,.one .d),(4,.b [.d,.d,.f]),(6,.b [.d,.d,.f]),(7,.one .d),(9,.one .d),(28,.one .d),(29,.one .d),(30,.one .d),(34,.one .d),(35,.one .d),(36,.one .d)]
def Qs1:TCode :=
 (.reg [zbi 57 .add 30 (zki 1),zmv 30 57])
def Qjx:TCode :=
 (zsq [(.reg [zbi 31 .lss 30 29]),(.cond 31 .skip (.exit 0)),(.block 1 (zsq [(.reg [zia 32 28 30 [TI],zld 33 32 1,zmv 9 33]),(.reg [zmv 34 1,zle 35 34,zmv 36 (zki 0)]),(.block 2 (.loop Qmb Qns))])),Qs1])
def Qe2:List (Nat × Md):=[(1,.one .d),(4,.b [.d,.d,.f]),(6,.b [.d,.d,.p 3]),(7,.one .d),(28,.one .d),(29,.one .d),(30,.one .d)]
def Qrb:TCode :=
 (zsq [(.reg [zLd 58 6 3,zmv 59 7,zst 4 58 3,zmv 5 59]),.ret])
def Qxk:TCode :=
 (zsq [(.reg [zop 4 (.new 235 (z0s [TI,TI,(.sl [TI])])),zmv 5 (zkb false)]),(zsq [(.reg [zmv 14 0,zca 15 187 [14],zno 16 15,zmv 17 16,.grp 17 false [zmv 18 1,zca 19 187 [18],zno 20 19] 21 20]),(.cond 21 (zsq [(.reg [zop 22 (.build (z0s [TI,TI,(.sl [TI])]) []),zst 4 22 3,zmv 5 (zkb false)]),.ret]) .skip)]),(.reg [zmv 23 0,zle 24 23,zmv 25 1,zle 26 25,zop 27 (.build (z0s [TI,TI,(.sl [TI])]) [(0,1,24),(1,1,26)]),zop 6 (.new 235 (z0s [TI,TI,(.sl [TI])])),zst 6 27 3]),(.reg [zmv 7 (zkb false)]),(zsq [(.reg [zmv 28 0,zle 29 28,zmv 30 (zki 0)]),(.block 0 (.loop Qe2 Qjx))]),Qrb])
def QmJ:List (ARv × Md):=[(.l 4 3 true,.b [.d,.d,.p 3]),(.t 5,.one .d)]
def Qvg:Qb:=TQ 0 0 QmJ K
def QEm:Qb:=Qseq (tawp Qbf 0 Qrb (Qvg K)) (Qvg K)
def Qii:Qb:=Qblk 0 (QEm K)
def Qrt:Qb:=Qseq (fun s'=>Loop Qbf 0 Qe2 Qjx (Qii K) (gc 0 Qe2 s')) (Qii K)
def QFu:Qb:=Qseq (tawp Qbf 0 Qs1 (Qrt K)) (Qrt K)
def QwM:Qb:=Qblk 1 (QFu K)
def QGj:Qb:=Qblk 2 (QwM K)
def QeP (d:List Int) (x:List Int) (out:Bool) (x1:Int) (m2:List Int) (x2:Int):Prop:=Loop Qbf 0 Qmb Qns (QGj K) ⟨[(1,(zcs [TI] x)),(4,(.p 0 0 0)),(6,(.p 2 0 0)),(7,(zcb out)),(9,(zci (gtd (0:Int) d (Int.toNat x2)))),(28,(zcs [TI] d)),(29,(zci (d.length:Int))),(30,(zci x2)),(34,(zcs [TI] x)),(35,(zci (x.length:Int))),(36,(zci x1))],[(0,(.box [(zci 0),(zci 0),(.n [TI])])),(1,(.sl 3 [TI] (.dp 0 true []) m2)),(2,(.box [(zci (d.length:Int)),(zci (x.length:Int)),(.r [TI] 1 0 m2.length)]))],3⟩
def Qgm (d:List Int) (x:List Int) (out1:Bool) (x2:Int) (m21:List Int):Prop:=Loop Qbf 0 Qe2 Qjx (Qii K) ⟨[(1,(zcs [TI] x)),(4,(.p 0 0 0)),(6,(.p 2 0 0)),(7,(zcb out1)),(28,(zcs [TI] d)),(29,(zci (d.length:Int))),(30,(zci x2))],[(0,(.box [(zci 0),(zci 0),(.n [TI])])),(1,(.sl 3 [TI] (.dp 0 true []) m21)),(2,(.box [(zci (d.length:Int)),(zci (x.length:Int)),(.r [TI] 1 0 m21.length)]))],3⟩
theorem Qm2 (d:List Int) (x:List Int) (out:Bool) (x1:Int) (m2:List Int) (x2:Int) (h :
 (zif (decide (x1<(x.length:Int))) (((0:Int)≤x1∧Int.toNat x1<x.length)∧(((m2.length=m2.length∨m2.length+1≤m2.length)∧m2.length+1≤big)∧(QeP K d x (out||((QW (gtd (0:Int) d (Int.toNat x2)) (gtd (0:Int) x (Int.toNat x1))).2)) (w64 (x1+(1:Int))) (List.take (m2.length+1) ((List.take m2.length m2)++([(QW (gtd (0:Int) d (Int.toNat x2)) (gtd (0:Int) x (Int.toNat x1))).1]))) x2))) (Qgm K d x out (w64 (x2+(1:Int))) (List.take m2.length m2)))):QeP K d x out x1 m2 x2 :=
 Loop.of (by kernel_rfl) h
theorem QuH (d:List Int) (x:List Int) (out1:Bool) (x2:Int) (m21:List Int) (h :
 (zif (decide (x2<(d.length:Int))) (((0:Int)≤x2∧Int.toNat x2<d.length)∧(QeP K d x out1 0 (List.take m21.length m21) x2)) (K (Jb (((d.length:Int),(x.length:Int),(List.take m21.length m21)),out1))))):Qgm K d x out1 x2 m21 :=
 Loop.of (by kernel_rfl) h
theorem QG9 (d:List Int) (x:List Int) (h :
 (zif ((!(QA d))||(!(QA x))) (K (Jb (((0:Int),(0:Int),([]:List Int)),false))) (Qgm K d x false 0 ([]:List Int)))):Hold (tawp Qbf (0+0) Qxk (TQ 0 0 QmJ K) (Qd [(.c (.sl [TI]) d),(.c (.sl [TI]) x)])) :=
 Hold.of (by kernel_rfl) h
theorem Qzm (d:List Int) (x:List Int):TCon Tryz.prog 245 [(.c (.sl [TI]) d),(.c (.sl [TI]) x)] (Jb (QS d x)):=by
 refine Qh rfl fun hb=>tcg (Γ:=Qbf) (n:=60) (sg:=QkW.sg) Qi (TOkL.cons Qd9 (TOkL.cons Qhd TOkL.nil)) (by kernel_rfl) (by kernel_rfl) (QG9 _ d x ?_)
 have hl_d:d.length≤9223372036854775807:=hb.1.1
 have hl_x:x.length≤9223372036854775807:=hb.2.1.1
 refine ⟨fun h=>R_eq (by unfold QS;rw [if_neg (by simpa [Classical.or_iff_not_imp_left] using h)]),fun h=>?_⟩
 have hp:QA d=true∧QA x=true:=by simpa using h
 have h6:=(ZV.1 hp.1).1
 have h7:=(ZV.1 hp.2).1
 refine Za d (fun r j=>∀ (v:List Int) (z:Bool),v.length≤6*j→((((d.length:Int),(x.length:Int),v++r.flatMap fun a=>x.map fun b=>(QW a b).1),z||r.any fun a=>x.any fun b=>(QW a b).2):TMat × Bool)=(QS d x)→Qgm (fun r'=>r'=Jb (QS d x)) d x z j v) ?_ ?_ [] false (Nat.zero_le _) (by unfold QS;rw [if_pos (by simp [hp])];simp)
 ·intro v z hv he
  refine QuH (fun r'=>r'=Jb (QS d x)) d x _ _ _ ⟨fun h=>by simp at h,fun _=>R_eq ?_⟩
  rw [← he];simp
 ·intro j y r hj hlt hg ih v z hv he
  refine QuH (fun r'=>r'=Jb (QS d x)) d x _ _ _ ⟨fun _=>?_,fun h=>by simp at h;omega⟩
  rw [List.take_length]
  refine ⟨⟨by omega,by omega⟩,Za x (fun r2 k=>∀ (v2:List Int) (z2:Bool),v2.length=v.length+k→v2++r2.map (fun b=>(QW y b).1)=v++x.map (fun b=>(QW y b).1)→(z2||r2.any fun b=>(QW y b).2)=(z||x.any fun b=>(QW y b).2)→QeP (fun r'=>r'=Jb (QS d x)) d x z2 k v2 j) ?_ ?_ v z (by omega) rfl rfl⟩
  ·intro v2 z2 hv2 he2 hz2
   refine Qm2 (fun r'=>r'=Jb (QS d x)) d x _ _ _ _ ⟨fun h=>by simp at h,fun _=>?_⟩
   rw [List.take_length,sc1 (by omega)]
   simp only [List.map_nil,List.append_nil,List.any_nil,Bool.or_false] at he2 hz2
   refine ih _ _ (by rw [hv2];omega) ?_
   rw [← he,he2,hz2];simp [Bool.or_assoc]
  ·intro k w r2 hk hlt2 hg2 ih2 v2 z2 hv2 he2 hz2
   refine Qm2 (fun r'=>r'=Jb (QS d x)) d x _ _ _ _ ⟨fun _=>?_,fun h=>by simp at h;omega⟩
   rw [Int.toNat_natCast,Int.toNat_natCast,hg,hg2,sc1 (by omega),Zm]
   refine ⟨⟨by omega,by omega⟩,room (by omega),ih2 _ _ (by simp;omega) ?_ ?_⟩
   ·rw [← he2];simp
   ·rw [← hz2];simp [Bool.or_assoc]
theorem QC8:Qf Tryz.prog QkW:=Qj fun x _=>Qzm x.1 x.2.1
def Y4 (t:TMat × Bool):TRes:=zra (.tp [(.a [(zci t.1.1),(zci t.1.2.1),(zcs [TI] t.1.2.2)]),(zcb t.2)])
def QhP:TRow:=Qg 243 [(.c (.sl [TI])),(.c (.sl [TI]))] fun x=>(none,Y4 (QS x.1 x.2.1))
def Qa7:TTab:=⟨[YU,Qdl],false⟩
def Qmc:TCode :=
 (zsq [(zsq [(.reg [zmv 32 9,zmv 33 1,zle 34 33,zbi 35 .lss 32 34]),(.cond 35 .skip (.exit 2))]),(.block 3 (zsq [(.draw [zmv 39 0,zmv 40 8,zia 41 39 40 [TI],zld 42 41 1,zmv 43 1,zmv 44 9,zia 45 43 44 [TI],zld 46 45 1,zca 47 237 [42,46],zmv 38 47,zex 48 38 0,zex 49 38 1,zmv 10 48,zmv 11 49] []),(.reg [zfa 50 6 2,zld 51 50 1,zmv 52 10,zop 53 (.bsl 3 [TI] [52]),zop 54 (.app 51 53 3 [TI]),zfa 55 6 2,zst 55 54 1]),(.reg [zmv 56 7,zmv 57 56,.grp 57 false [zmv 58 11] 59 58,zmv 7 59])])),(.reg [zmv 36 9,zbi 37 .add 36 (zki 1),zmv 9 37])])
def QqD:List (Nat × Md):=[(0,.one .d),(1,.one .d),(4,.b [.d,.d,.d]),(6,.b [.d,.d,.f]),(7,.one .d),(8,.one .d),(9,.one .d)]
def Qpd:TCode :=
 (.reg [zmv 30 8,zbi 31 .add 30 (zki 1),zmv 8 31])
def Qjf:TCode :=
 (zsq [(zsq [(.reg [zmv 26 8,zmv 27 0,zle 28 27,zbi 29 .lss 26 28]),(.cond 29 .skip (.exit 0))]),(.block 1 (zsq [(.reg [zmv 9 (zki 0)]),(.block 2 (.loop QqD Qmc))])),Qpd])
def Qf6:List (Nat × Md):=[(0,.one .d),(1,.one .d),(4,.b [.d,.d,.d]),(6,.b [.d,.d,.o 3]),(7,.one .d),(8,.one .d)]
def Qlu:TCode :=
 (zsq [(.reg [zLd 60 6 3,zmv 61 7,zst 4 60 3,zmv 5 61]),.ret])
def Qw0:TCode :=
 (zsq [(.reg [zop 4 (.new 235 (z0s [TI,TI,(.sl [TI])])),zmv 5 (zkb false)]),(zsq [(.reg [zmv 12 0,zca 13 97 [12],zno 14 13,zmv 15 14,.grp 15 false [zmv 16 1,zca 17 97 [16],zno 18 17] 19 18]),(.cond 19 (zsq [(.reg [zop 20 (.build (z0s [TI,TI,(.sl [TI])]) []),zst 4 20 3,zmv 5 (zkb false)]),.ret]) .skip)]),(.reg [zmv 21 0,zle 22 21,zmv 23 1,zle 24 23,zop 25 (.build (z0s [TI,TI,(.sl [TI])]) [(0,1,22),(1,1,24)]),zop 6 (.new 235 (z0s [TI,TI,(.sl [TI])])),zst 6 25 3]),(.reg [zmv 7 (zkb false)]),(zsq [(.reg [zmv 8 (zki 0)]),(.block 0 (.loop Qf6 Qjf))]),Qlu])
def Qug:List (ARv × Md):=[(.l 4 3 true,.b [.d,.d,.d]),(.t 5,.one .d)]
def Qnu:Qb:=TQ 0 0 Qug K
def QzV:Qb:=Qseq (tawp Qa7 0 Qlu (Qnu K)) (Qnu K)
def Qi8:Qb:=Qblk 0 (QzV K)
def Qpw:Qb:=Qseq (fun s'=>Loop Qa7 0 Qf6 Qjf (Qi8 K) (gc 0 Qf6 s')) (Qi8 K)
def Qzf:Qb:=Qseq (tawp Qa7 0 Qpd (Qpw K)) (Qpw K)
def QDX:Qb:=Qblk 1 (Qzf K)
def QIH:Qb:=Qblk 2 (QDX K)
def QfM (d:List Int) (x:List Int) (sat:Bool) (k:Int) (m2:List Int) (i:Int):Prop:=Loop Qa7 0 QqD Qmc (QIH K) ⟨[(0,(zcs [TI] d)),(1,(zcs [TI] x)),(4,(.p 0 0 0)),(6,(.p 2 0 0)),(7,(zcb sat)),(8,(zci i)),(9,(zci k))],[(0,(.box [(zci 0),(zci 0),(zcs [TI] ([]))])),(1,(.sl 3 [TI] .ow m2)),(2,(.box [(zci (d.length:Int)),(zci (x.length:Int)),(.r [TI] 1 0 m2.length)]))],3⟩
def Qeg (d:List Int) (x:List Int) (sat1:Bool) (i:Int) (m21:List Int):Prop:=Loop Qa7 0 Qf6 Qjf (Qi8 K) ⟨[(0,(zcs [TI] d)),(1,(zcs [TI] x)),(4,(.p 0 0 0)),(6,(.p 2 0 0)),(7,(zcb sat1)),(8,(zci i))],[(0,(.box [(zci 0),(zci 0),(zcs [TI] ([]))])),(1,(.sl 3 [TI] .ow m21)),(2,(.box [(zci (d.length:Int)),(zci (x.length:Int)),(.r [TI] 1 0 m21.length)]))],3⟩
theorem QsX (d:List Int) (x:List Int) (sat:Bool) (k:Int) (m2:List Int) (i:Int) (h :
 (zif (decide (k<(x.length:Int))) ((((0:Int)≤i∧Int.toNat i<d.length)∧((0:Int)≤k∧Int.toNat k<x.length))∧(((m2.length=m2.length∨m2.length+1≤m2.length)∧m2.length+1≤big)∧(QfM K d x (sat||((QW (gtd (0:Int) d (Int.toNat i)) (gtd (0:Int) x (Int.toNat k))).2)) (w64 (k+(1:Int))) (List.take (m2.length+1) ((List.take m2.length m2)++([(QW (gtd (0:Int) d (Int.toNat i)) (gtd (0:Int) x (Int.toNat k))).1]))) i))) (Qeg K d x sat (w64 (i+(1:Int))) (List.take m2.length m2)))):QfM K d x sat k m2 i :=
 Loop.of (by kernel_rfl) h
theorem QqK (d:List Int) (x:List Int) (sat1:Bool) (i:Int) (m21:List Int) (h :
 (zif (decide (i<(d.length:Int))) (QfM K d x sat1 0 (List.take m21.length m21) i) (K (Y4 (((d.length:Int),(x.length:Int),(List.take m21.length (List.drop 0 m21))),sat1))))):Qeg K d x sat1 i m21 :=
 Loop.of (by kernel_rfl) h
theorem QyR (d:List Int) (x:List Int) (h :
 (zif ((!(QA d))||(!(QA x))) (K (Y4 (((0:Int),(0:Int),[]),false))) (Qeg K d x false 0 ([]:List Int)))):Hold (tawp Qa7 (0+0) Qw0 (TQ 0 0 Qug K) (Qd [(.c (.sl [TI]) d),(.c (.sl [TI]) x)])) :=
 Hold.of (by kernel_rfl) h
theorem QwB (d:List Int) (x:List Int):TCon Tryz.prog 243 [(.c (.sl [TI]) d),(.c (.sl [TI]) x)] (Y4 (QS d x)):=by
 refine Qh rfl fun hb=>tcg (Γ:=Qa7) (n:=62) (sg:=QhP.sg) Qi (TOkL.cons JW (TOkL.cons Qk2 TOkL.nil)) (by kernel_rfl) (by kernel_rfl) (QyR _ d x ?_)
 have hl_d:d.length≤9223372036854775807:=hb.1.1
 have hl_x:x.length≤9223372036854775807:=hb.2.1.1
 refine ⟨fun h=>R_eq (by unfold QS;rw [if_neg (by simpa [Classical.or_iff_not_imp_left] using h)]),fun h=>?_⟩
 have hp:QA d=true∧QA x=true:=by simpa using h
 have h6:=(ZV.1 hp.1).1
 have h7:=(ZV.1 hp.2).1
 refine Za d (fun r j=>∀ (v:List Int) (z:Bool),v.length≤6*j→((((d.length:Int),(x.length:Int),v++r.flatMap fun a=>x.map fun b=>(QW a b).1),z||r.any fun a=>x.any fun b=>(QW a b).2):TMat × Bool)=(QS d x)→Qeg (fun r'=>r'=Y4 (QS d x)) d x z j v) ?_ ?_ [] false (Nat.zero_le _) (by unfold QS;rw [if_pos (by simp [hp])];simp)
 ·intro v z hv he
  refine QqK (fun r'=>r'=Y4 (QS d x)) d x _ _ _ ⟨fun h=>by simp at h,fun _=>R_eq ?_⟩
  rw [← he];simp
 ·intro j y r hj hlt hg ih v z hv he
  refine QqK (fun r'=>r'=Y4 (QS d x)) d x _ _ _ ⟨fun _=>?_,fun h=>by simp at h;omega⟩
  rw [List.take_length]
  refine Za x (fun r2 k=>∀ (v2:List Int) (z2:Bool),v2.length=v.length+k→v2++r2.map (fun b=>(QW y b).1)=v++x.map (fun b=>(QW y b).1)→(z2||r2.any fun b=>(QW y b).2)=(z||x.any fun b=>(QW y b).2)→QfM (fun r'=>r'=Y4 (QS d x)) d x z2 k v2 j) ?_ ?_ v z (by omega) rfl rfl
  ·intro v2 z2 hv2 he2 hz2
   refine QsX (fun r'=>r'=Y4 (QS d x)) d x _ _ _ _ ⟨fun h=>by simp at h,fun _=>?_⟩
   rw [List.take_length,sc1 (by omega)]
   simp only [List.map_nil,List.append_nil,List.any_nil,Bool.or_false] at he2 hz2
   refine ih _ _ (by rw [hv2];omega) ?_
   rw [← he,he2,hz2];simp [Bool.or_assoc]
  ·intro k w r2 hk hlt2 hg2 ih2 v2 z2 hv2 he2 hz2
   refine QsX (fun r'=>r'=Y4 (QS d x)) d x _ _ _ _ ⟨fun _=>?_,fun h=>by simp at h;omega⟩
   rw [Int.toNat_natCast,Int.toNat_natCast,hg,hg2,sc1 (by omega),Zm]
   refine ⟨⟨⟨by omega,by omega⟩,by omega,by omega⟩,room (by omega),ih2 _ _ (by simp;omega) ?_ ?_⟩
   ·rw [← he2];simp
   ·rw [← hz2];simp [Bool.or_assoc]
theorem Qzw:Qf Tryz.prog QhP:=Qj fun x _=>QwB x.1 x.2.1
def QjF (t:TMat):TRes:=zra (.a [(zci t.1),(zci t.2.1),(zcs [TI] t.2.2)])
def Qka:TRow:=Qg 230 [(.a ctOp)] fun x=>(none,QjF (Zf x.1))
def Qof:TTab:=⟨[],false⟩
def Qxe:TCode :=
 (zsq [(.reg [zop 1 (.box 134 0 4),zop 2 (.new 235 (z0s [TI,TI,(.sl [TI])]))]),(.reg [zfa 3 1 2,zld 4 3 1,zfa 5 1 1,zld 6 5 1,zfa 7 1 3,zld 8 7 1,zop 9 (.build (z0s [TI,TI,(.sl [TI])]) [(0,1,4),(1,1,6),(2,1,8)]),zst 2 9 3]),.ret])
def QDW:List (ARv × Md):=[(.l 2 3 true,.b [.d,.d,.d])]
theorem QA0 (o:TOp') (h :
 K (QjF (o.2.2.1,o.2.1,o.2.2.2))):Hold (tawp Qof (0+0) Qxe (TQ 0 0 QDW K) (Qd [(.a (Tup.cells ctOp o))])) :=
 Hold.of (by kernel_rfl) h
theorem QAa (o:TOp'):TCon Tryz.prog 230 [(.a (Tup.cells ctOp o))] (QjF (Zf o)):=by
 refine Qh rfl fun hb=>tcg (Γ:=Qof) (n:=10) (sg:=Qka.sg) Qi TOkL.nil (by kernel_rfl) (by kernel_rfl) (QA0 _ o ?_)
 have hl_o_3:(o.2.2.2).length≤9223372036854775807:=hb.1.2.2.2.1.1
 exact R_eq rfl
theorem QCv:Qf Tryz.prog Qka:=Qj fun x _=>QAa x.1
def Qj6 (t:TMat):TRes:=zra (.a [(zci t.1),(zci t.2.1),(zcs [TI] t.2.2)])
def Qik:TRow:=Qg 224 [(.a ctOp)] fun x=>(none,Qj6 (Zf x.1))
def Qqz:TTab:=⟨[],false⟩
def QDL:TCode :=
 (zsq [(.reg [zop 1 (.box 134 0 4),zop 2 (.new 235 (z0s [TI,TI,(.sl [TI])]))]),(.reg [zfa 3 1 2,zld 4 3 1,zfa 5 1 1,zld 6 5 1,zfa 7 1 3,zld 8 7 1,zop 9 (.build (z0s [TI,TI,(.sl [TI])]) [(0,1,4),(1,1,6),(2,1,8)]),zst 2 9 3]),.ret])
def Qz8:List (ARv × Md):=[(.l 2 3 true,.b [.d,.d,.d])]
theorem QwI (o:TOp') (h :
 K (Qj6 (o.2.2.1,o.2.1,o.2.2.2))):Hold (tawp Qqz (0+0) QDL (TQ 0 0 Qz8 K) (Qd [(.a (Tup.cells ctOp o))])) :=
 Hold.of (by kernel_rfl) h
theorem QCB (o:TOp'):TCon Tryz.prog 224 [(.a (Tup.cells ctOp o))] (Qj6 (Zf o)):=by
 refine Qh rfl fun hb=>tcg (Γ:=Qqz) (n:=10) (sg:=Qik.sg) Qi TOkL.nil (by kernel_rfl) (by kernel_rfl) (QwI _ o ?_)
 have hl_o_3:(o.2.2.2).length≤9223372036854775807:=hb.1.2.2.2.1.1
 exact R_eq rfl
theorem QAh:Qf Tryz.prog Qik:=Qj fun x _=>QCB x.1
end
end Go.Proofs.YtdplaepmjogjjaaGreat.Am

