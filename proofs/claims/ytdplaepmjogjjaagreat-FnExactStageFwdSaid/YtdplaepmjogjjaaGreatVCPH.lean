/- -/
import Derived.Test.YtdplaepmjogjjaaGreatVCP1
import Derived.Test.YtdplaepmjogjjaaGreatVCPG
import Derived.Test.YtdplaepmjogjjaaGreatVCPF
namespace Go.Proofs.YtdplaepmjogjjaaGreat.Am
open Go Go.RowKit Go.Proofs.YtdplaepmjogjjaaGreat
set_option linter.all false
noncomputable section
variable (K:TRes→Prop)
def QfT (t:Bool):TRes:=zre (zcb t)
def Qhe:TRow:=Qg 258 [(.a [TI,TI,(.sl [TI])])] fun x=>(none,QfT (Zr x.1))
def Qrh:TTab:=⟨[Qcd],false⟩
def Qzd:TCode :=
 (zsq [(.reg [zop 1 (.box 235 0 3),zmv 2 (zkb false)]),(zsq [(.reg [zfa 3 1 0,zld 4 3 1,zbi 5 .lss 4 (zki 1),zmv 6 5,.grp 6 false [zfa 7 1 0,zld 8 7 1,zbi 9 .gtr 8 (zki 6)] 10 9,zmv 11 10,.grp 11 false [zfa 12 1 1,zld 13 12 1,zbi 14 .lss 13 (zki 1)] 15 14,zmv 16 15,.grp 16 false [zfa 17 1 1,zld 18 17 1,zbi 19 .gtr 18 (zki 6)] 20 19]),(.cond 20 (zsq [(.reg [zmv 2 (zkb false)]),.ret]) .skip)]),(.reg [zfa 21 1 2,zld 22 21 1,zle 23 22,zfa 24 1 0,zld 25 24 1,zfa 26 1 1,zld 27 26 1,zbi 28 .mul 25 27,zbi 29 .eql 23 28,zmv 30 29,.grp 30 true [zfa 31 1 2,zld 32 31 1,zca 33 238 [32]] 34 33,zmv 2 34]),.ret])
def QB1:List (ARv × Md):=[(.t 2,.one .d)]
theorem QA4 (m:TMat) (h :
 (zif ((((decide (m.1<(1:Int)))||(decide (m.1>(6:Int))))||(decide (m.2.1<(1:Int))))||(decide (m.2.1>(6:Int)))) (K (QfT false)) (K (QfT ((((m.2.2).length:Int)==(w64 (m.1*m.2.1)))&&(ZS m.2.2)))))):Hold (tawp Qrh (0+0) Qzd (TQ 0 0 QB1 K) (Qd [(.a [(.c TI m.1),(.c TI m.2.1),(.c (.sl [TI]) m.2.2)])])) :=
 Hold.of (by kernel_rfl) h
theorem QIn (m:TMat):TCon Tryz.prog 258 [(.a [(.c TI m.1),(.c TI m.2.1),(.c (.sl [TI]) m.2.2)])] (QfT (Zr m)):=by
 refine Qi rfl fun hb=>tcg (Γ:=Qrh) (n:=35) (sg:=Qhe.sg) Qj (TOkL.cons Qjz TOkL.nil) (by kernel_rfl) (by kernel_rfl) (QA4 _ m ?_)
 have hl_m_2:(m.2.2).length≤9223372036854775807:=hb.1.2.2.1.1
 refine ⟨fun h=>R_eq ?_,fun h=>R_eq ?_⟩
 ·have:(m_in m.1 1 6&&m_in m.2.1 1 6)=false:=by simp [m_in];simp at h;omega
  unfold Zr;rw [this];rfl
 ·have h':(1≤m.1∧m.1≤6)∧1≤m.2.1∧m.2.1≤6:=by simp at h;omega
  have hm:=Qbf h'.1.1 h'.1.2 h'.2.1 h'.2.2
  rw [Qv (x:=m.1*m.2.1) (by omega) (by omega)]
  unfold Zr
  rw [Zk.2 h'.1,Zk.2 h'.2];simp
theorem QE1:Qe Tryz.prog Qhe:=Qk fun x _=>QIn x.1
def Jz (t:Bool):TRes:=zre (zcb t)
def Qj4:TRow:=Qg 254 [(.a [TI,TI,(.sl [TI])])] fun x=>(none,Jz (Zr x.1))
def QdA:TTab:=⟨[Jk,Qbu],false⟩
def Qmf:TCode :=
 (zsq [(zsq [(.reg [zmv 25 3,zfa 26 1 2,zld 27 26 1,zle 28 27,zbi 29 .lss 25 28]),(.cond 29 .skip (.exit 0))]),(.block 1 (zsq [(.reg [zfa 32 1 2,zld 33 32 1,zmv 34 3,zia 35 33 34 [TI],zld 36 35 1,zca 37 183 [36],zno 38 37]),(.cond 38 (zsq [(.reg [zmv 2 (zkb false)]),.ret]) .skip)])),(.reg [zmv 30 3,zbi 31 .add 30 (zki 1),zmv 3 31])])
def QmW:List (Nat × Md):=[(1,.b [.d,.d,.d]),(3,.one .d)]
def QlT:TCode :=
 (zsq [(.reg [zmv 2 (zkb true)]),.ret])
def QDs:TCode :=
 (zsq [(.reg [zop 1 (.box 235 0 3),zmv 2 (zkb false)]),(zsq [(.reg [zfa 4 1 0,zld 5 4 1,zca 6 158 [5,(zki 1),(zki 6)],zno 7 6,zmv 8 7,.grp 8 false [zfa 9 1 1,zld 10 9 1,zca 11 158 [10,(zki 1),(zki 6)],zno 12 11] 13 12,zmv 14 13,.grp 14 false [zfa 15 1 2,zld 16 15 1,zle 17 16,zfa 18 1 0,zld 19 18 1,zfa 20 1 1,zld 21 20 1,zbi 22 .mul 19 21,zbi 23 .neq 17 22] 24 23]),(.cond 24 (zsq [(.reg [zmv 2 (zkb false)]),.ret]) .skip)]),(zsq [(.reg [zmv 3 (zki 0)]),(.block 0 (.loop QmW Qmf))]),QlT])
def Qot:List (ARv × Md):=[(.t 2,.one .d)]
def Qlt:Qb:=TQ 0 0 Qot K
def Qvi:Qb:=Qseq (tawp QdA 0 QlT (Qlt K)) (Qlt K)
def QGl:Qb:=Qblk 0 (Qvi K)
def QhG (m:TMat) (i:Int):Prop:=Loop QdA 0 QmW Qmf (QGl K) ⟨[(1,(.p 0 0 0)),(3,(zci i))],[(0,(.box [(zci m.1),(zci m.2.1),(zcs [TI] m.2.2)]))],1⟩
theorem QFV (m:TMat) (i:Int) (h :
 (zif (decide (i<((m.2.2).length:Int))) (((0:Int)≤i∧Int.toNat i<(m.2.2).length)∧(zif (!(Q2 (gtd (0:Int) m.2.2 (Int.toNat i)))) (K (Jz false)) (QhG K m (w64 (i+(1:Int)))))) (K (Jz true)))):QhG K m i :=
 Loop.of (by kernel_rfl) h
theorem QBo (m:TMat) (h :
 (zif (((!(m_in m.1 (1:Int) (6:Int)))||(!(m_in m.2.1 (1:Int) (6:Int))))||(((m.2.2).length:Int) != (w64 (m.1*m.2.1)))) (K (Jz false)) (QhG K m 0))):Hold (tawp QdA (0+0) QDs (TQ 0 0 Qot K) (Qd [(.a [(.c TI m.1),(.c TI m.2.1),(.c (.sl [TI]) m.2.2)])])) :=
 Hold.of (by kernel_rfl) h
theorem QG0 (m:TMat):TCon Tryz.prog 254 [(.a [(.c TI m.1),(.c TI m.2.1),(.c (.sl [TI]) m.2.2)])] (Jz (Zr m)):=by
 refine Qi rfl fun hb=>tcg (Γ:=QdA) (n:=39) (sg:=Qj4.sg) Qj (TOkL.cons Qak (TOkL.cons QfQ TOkL.nil)) (by kernel_rfl) (by kernel_rfl) (QBo _ m ?_)
 have hl_m_2:(m.2.2).length≤9223372036854775807:=hb.1.2.2.1.1
 refine ⟨fun h=>R_eq ?_,fun h=>?_⟩
 ·have:Zr m=false:=by
   cases hm:Zr m with
   | false=>rfl
   | true =>
    obtain ⟨h1,h2,h3,h4,h5,h6,h7⟩:=QjF hm
    rw [Zk.2 ⟨h1,h2⟩,Zk.2 ⟨h3,h4⟩,Qv (x:=m.1*m.2.1) (by have:=Qbf h1 h2 h3 h4;omega) (by omega),← h5] at h
    simp at h
  exact this.symm
 ·have h':m_in m.1 1 6=true∧m_in m.2.1 1 6=true:=by simp at h;exact h.1
  have h1:=Zk.1 h'.1
  have h2:=Zk.1 h'.2
  have hm:=Qbf h1.1 h1.2 h2.1 h2.2
  rw [Qv (x:=m.1*m.2.1) (by omega) (by omega)] at h
  exact Qfo (Q:=fun x=>Jz x=Jz (Zr m)) (p:=Q2) (c:=fun x=>!(Q2 x)) 0 hl_m_2 (fun _=>rfl) (fun i h=>QFV (fun r'=>r'=Jz (Zr m)) m i h) (R_eq (by
   unfold Zr ZS
   have h3:((m.2.2.length:Int)==m.1*m.2.1)=true:=by simp [h'] at h;simp [h]
   rw [h'.1,h'.2,h3];simp))
theorem Qwv:Qe Tryz.prog Qj4:=Qk fun x _=>QG0 x.1
def Qke (t:(List Int)):TRes:=zra (zcs [TI] t)
def Qhr:TRow:=Qg 255 [(.a [TI,TI,(.sl [TI])]),(.c TI)] fun x=>(some (Qhv x.1 x.2.1),Qke (Z5 x.1 x.2.1))
def QrN:TTab:=⟨[],false⟩
def QzB:TCode :=
 (zsq [(.reg [zop 2 (.box 235 0 3),zmv 4 (.k (.n [TI]))]),(.reg [zfa 5 2 2,zld 6 5 1,zmv 7 1,zfa 8 2 1,zld 9 8 1,zbi 10 .mul 7 9,zmv 11 1,zbi 12 .add 11 (zki 1),zfa 13 2 1,zld 14 13 1,zbi 15 .mul 12 14,zop 16 (.slc 6 (some 10) (some 15) [TI]),zmv 4 16]),.ret])
def QAr:List (ARv × Md):=[(.t 4,.one .d)]
theorem QIf (m:TMat) (i:Int) (h :
 (((0:Int)≤w64 (i*m.2.1)∧w64 (i*m.2.1)≤w64 ((w64 (i+(1:Int)))*m.2.1)∧w64 ((w64 (i+(1:Int)))*m.2.1)≤((m.2.2).length:Int))∧K (Qke (List.take (Int.toNat (w64 ((w64 (i+(1:Int)))*m.2.1))-Int.toNat (w64 (i*m.2.1))) (List.drop (Int.toNat (w64 (i*m.2.1))) m.2.2))))):Hold (tawp QrN (0+0) QzB (TQ 0 0 QAr K) (Qd [(.a [(.c TI m.1),(.c TI m.2.1),(.c (.sl [TI]) m.2.2)]),(.c TI i)])) :=
 Hold.of (by kernel_rfl) h
theorem QBv (m:TMat) (i:Int) (hp:Qhv m i):TCon Tryz.prog 255 [(.a [(.c TI m.1),(.c TI m.2.1),(.c (.sl [TI]) m.2.2)]),(.c TI i)] (Qke (Z5 m i)):=by
 refine Qi rfl fun hb=>tcg (Γ:=QrN) (n:=17) (sg:=Qhr.sg) Qj TOkL.nil (by kernel_rfl) (by kernel_rfl) (QIf _ m i ?_)
 have hl_m_2:(m.2.2).length≤9223372036854775807:=hb.1.2.2.1.1
 obtain ⟨h1,h2,h3,h4,h5,h6⟩:=hp
 have hd:=idx h3 h4 h1
 have h36:m.1*m.2.1≤36:=by
  have:=Int.mul_le_mul h5 h2 h1 (by omega:(0:Int)≤6);omega
 rw [Qv (x:=i+1) (by omega) (by omega),Qv (x:=i*m.2.1) (by omega) (by omega),Qv (x:=(i+1)*m.2.1) (by omega) (by omega)]
 exact ⟨⟨by omega,by omega,by omega⟩,R_eq rfl⟩
theorem Qyh:Qe Tryz.prog Qhr:=Qk fun x h=>QBv x.1 x.2.1 h
def QaV (t:(List Int) × Bool):TRes:=⟨(.tp [(.r [TI] 0 0 ((t.1).length)),(zcb t.2)]),[(.sl 3 [TI] (.dp 0 true []) t.1)],[],false,[]⟩
def Qie:TRow:=Qg 229 [(.a [TI,TI,(.sl [TI])]),(.c (.sl [TI]))] fun x=>(none,QaV (QK x.1 x.2.1))
def Qed:TTab:=⟨[Qhe,Y0,Qe8],true⟩
def Ql0:TCode :=
 (zsq [(zsq [(.reg [zmv 22 8,zfa 23 2 0,zld 24 23 1,zbi 25 .lss 22 24]),(.cond 25 .skip (.exit 0))]),(.block 1 (zsq [(.reg [zfa 29 2 2,zld 30 29 1,zmv 31 8,zfa 32 2 1,zld 33 32 1,zbi 34 .mul 31 33,zmv 35 8,zbi 36 .add 35 (zki 1),zfa 37 2 1,zld 38 37 1,zbi 39 .mul 36 38,zop 40 (.slc 30 (some 34) (some 39) [TI]),zmv 41 1,zca 42 188 [40,41],zmv 28 42,zex 43 28 0,zex 44 28 1,zmv 9 43,zmv 10 44]),(.reg [zmv 45 6,zmv 46 9,zop 47 (.bsl 3 [TI] [46]),zop 48 (.app 45 47 3 [TI]),zmv 6 48]),(.reg [zmv 49 7,zmv 50 49,.grp 50 false [zmv 51 10] 52 51,zmv 7 52])])),(.reg [zmv 26 8,zbi 27 .add 26 (zki 1),zmv 8 27])])
def Qox:List (Nat × Md):=[(1,.one .d),(2,.b [.d,.d,.d]),(6,.one .f),(7,.one .d),(8,.one .d)]
def QqI:TCode :=
 (zsq [(.reg [zmv 53 6,zmv 54 7,zmv 4 53,zmv 5 54]),.ret])
def Qye:TCode :=
 (zsq [(.reg [zop 2 (.box 235 0 3),zmv 4 (.k (.n [TI])),zmv 5 (zkb false)]),(zsq [(.reg [zLd 11 2 3,zca 12 258 [11],zno 13 12,zmv 14 13,.grp 14 false [zmv 15 1,zfa 16 2 1,zld 17 16 1,zca 18 100 [15,17],zno 19 18] 20 19]),(.cond 20 (zsq [(.reg [zmv 4 (.k (.n [TI])),zmv 5 (zkb false)]),.ret]) .skip)]),(.reg [zop 21 (.bsl 3 [TI] []),zmv 6 21]),(.reg [zmv 7 (zkb false)]),(zsq [(.reg [zmv 8 (zki 0)]),(.block 0 (.loop Qox Ql0))]),QqI])
def Qsh:List (ARv × Md):=[(.t 4,.one (.p 3)),(.t 5,.one .d)]
def Qoy:Qb:=TQ 0 0 Qsh K
def QwY:Qb:=Qseq (tawp Qed 0 QqI (Qoy K)) (Qoy K)
def QDw:Qb:=Qblk 0 (QwY K)
def Qey (m:TMat) (x:List Int) (out:Bool) (r:Int) (v:List Int):Prop:=Loop Qed 0 Qox Ql0 (QDw K) ⟨[(1,(zcs [TI] x)),(2,(.p 0 0 0)),(6,(.r [TI] 1 0 v.length)),(7,(zcb out)),(8,(zci r))],[(0,(.box [(zci m.1),(zci m.2.1),(zcs [TI] m.2.2)])),(1,(.sl 3 [TI] (.dp 0 true []) v))],2⟩
theorem Qls (m:TMat) (x:List Int) (out:Bool) (r:Int) (v:List Int) (h :
 (zif (decide (r<m.1)) (((0:Int)≤w64 (r*m.2.1)∧w64 (r*m.2.1)≤w64 ((w64 (r+(1:Int)))*m.2.1)∧w64 ((w64 (r+(1:Int)))*m.2.1)≤((m.2.2).length:Int))∧(((v.length=v.length∨v.length+1≤v.length)∧v.length+1≤big)∧(Qey K m x (out||((QJ (List.take (Int.toNat (w64 ((w64 (r+(1:Int)))*m.2.1))-Int.toNat (w64 (r*m.2.1))) (List.drop (Int.toNat (w64 (r*m.2.1))) m.2.2)) x).2)) (w64 (r+(1:Int))) (List.take (v.length+1) ((List.take v.length v)++([(QJ (List.take (Int.toNat (w64 ((w64 (r+(1:Int)))*m.2.1))-Int.toNat (w64 (r*m.2.1))) (List.drop (Int.toNat (w64 (r*m.2.1))) m.2.2)) x).1])))))) (K (QaV ((List.take v.length v),out))))):Qey K m x out r v :=
 Loop.of (by kernel_rfl) h
theorem Qvq (m:TMat) (x:List Int) (h :
 (zif ((!(Zr m))||(!(Qw x m.2.1))) (K (QaV (([]:List Int),false))) (Qey K m x false 0 ([]:List Int)))):Hold (tawp Qed (0+0) Qye (TQ 0 0 Qsh K) (Qd [(.a [(.c TI m.1),(.c TI m.2.1),(.c (.sl [TI]) m.2.2)]),(.c (.sl [TI]) x)])) :=
 Hold.of (by kernel_rfl) h
theorem QBr (m:TMat) (x:List Int):TCon Tryz.prog 229 [(.a [(.c TI m.1),(.c TI m.2.1),(.c (.sl [TI]) m.2.2)]),(.c (.sl [TI]) x)] (QaV (QK m x)):=by
 refine Qi rfl fun hb=>tcg (Γ:=Qed) (n:=55) (sg:=Qie.sg) Qj (TOkL.cons QE1 (TOkL.cons QaD (TOkL.cons QpN TOkL.nil))) (by kernel_rfl) (by kernel_rfl) (Qvq _ m x ?_)
 have hl_m_2:(m.2.2).length≤9223372036854775807:=hb.1.2.2.1.1
 have hl_x:x.length≤9223372036854775807:=hb.2.1.1
 refine ⟨fun h=>R_eq (by rw [Qo4];intro h2;simp [h2.1,h2.2] at h),fun h=>?_⟩
 have hp:Zr m=true∧Qw x m.2.1=true:=by simpa using h
 obtain ⟨h1,h2,h3,h4,h5,h6,h7⟩:=QjF hp.1
 have hv:(QK m x)=((List.range m.1.toNat).map fun i:Nat=>(QJ (Z5 m i) x).1,(List.range m.1.toNat).any fun i:Nat=>(QJ (Z5 m i) x).2):=by unfold QK;rw [if_pos (by simp [hp])]
 refine Qnc m.1.toNat (fun j=>Qey (fun r'=>r'=QaV (QK m x)) m x ((List.range j).any fun i:Nat=>(QJ (Z5 m i) x).2) (j:Int) ((List.range j).map fun i:Nat=>(QJ (Z5 m i) x).1)) ?_ ?_
 ·refine Qls (fun r'=>r'=QaV (QK m x)) m x _ _ _ ⟨fun h=>by simp at h;omega,fun _=>R_eq ?_⟩
  rw [hv,List.take_length]
 ·intro j hj ih
  have hd:=idx (r:=j) (R:=m.1) (C:=m.2.1) (by omega) (by omega) (by omega)
  refine Qls (fun r'=>r'=QaV (QK m x)) m x _ _ _ ⟨fun _=>?_,fun h=>by simp at h;omega⟩
  rw [Qv (x:=(j:Int)+1) (by omega) (by omega),Qv (x:=(j:Int)*m.2.1) (by omega) (by omega),Qv (x:=((j:Int)+1)*m.2.1) (by omega) (by omega),Zu]
  rw [QnW,Qrw] at ih
  exact ⟨⟨by omega,by omega,by omega⟩,room (by simp;omega),ih⟩
theorem QGi:Qe Tryz.prog Qie:=Qk fun x _=>QBr x.1 x.2.1
def QaL (t:(List Int) × Bool):TRes:=zra (.tp [(zcs [TI] t.1),(zcb t.2)])
def QiK:TRow:=Qg 223 [(.a [TI,TI,(.sl [TI])]),(.c (.sl [TI]))] fun x=>(none,QaL (QK x.1 x.2.1))
def Qeg:TTab:=⟨[Qj4,YQ,Qhr,QfR],false⟩
def QqX:TCode :=
 (zsq [(zsq [(.reg [zmv 28 8,zfa 29 2 0,zld 30 29 1,zbi 31 .lss 28 30]),(.cond 31 .skip (.exit 0))]),(.block 1 (zsq [(.reg [zLd 35 2 3,zmv 36 8,zca 37 255 [35,36],zmv 38 1,zca 39 184 [37,38],zmv 34 39,zex 40 34 0,zex 41 34 1,zmv 9 40,zmv 10 41]),(.reg [zmv 42 6,zmv 43 9,zop 44 (.bsl 3 [TI] [43]),zop 45 (.app 42 44 3 [TI]),zmv 6 45]),(.reg [zmv 46 7,zmv 47 46,.grp 47 false [zmv 48 10] 49 48,zmv 7 49])])),(.reg [zmv 32 8,zbi 33 .add 32 (zki 1),zmv 8 33])])
def Qqm:List (Nat × Md):=[(1,.one .d),(2,.b [.d,.d,.d]),(6,.one .f),(7,.one .d),(8,.one .d)]
def Qpy:TCode :=
 (zsq [(.reg [zmv 50 6,zmv 51 7,zmv 4 50,zmv 5 51]),.ret])
def QxS:TCode :=
 (zsq [(.reg [zop 2 (.box 235 0 3),zmv 4 (.k (.n [TI])),zmv 5 (zkb false)]),(.reg [zop 11 (.bsl 3 [TI] []),zmv 6 11]),(.reg [zmv 7 (zkb false)]),(zsq [(.reg [zLd 12 2 3,zca 13 254 [12],zno 14 13,zmv 15 14,.grp 15 false [zmv 16 1,zca 17 97 [16],zno 18 17] 19 18,zmv 20 19,.grp 20 false [zmv 21 1,zle 22 21,zfa 23 2 1,zld 24 23 1,zbi 25 .neq 22 24] 26 25]),(.cond 26 (zsq [(.reg [zmv 27 6,zmv 4 27,zmv 5 (zkb false)]),.ret]) .skip)]),(zsq [(.reg [zmv 8 (zki 0)]),(.block 0 (.loop Qqm QqX))]),Qpy])
def Qr7:List (ARv × Md):=[(.t 4,.one .d),(.t 5,.one .d)]
def QoU:Qb:=TQ 0 0 Qr7 K
def QAE:Qb:=Qseq (tawp Qeg 0 Qpy (QoU K)) (QoU K)
def QzQ:Qb:=Qblk 0 (QAE K)
def Qd0 (m:TMat) (x:List Int) (sat:Bool) (i:Int) (out:List Int):Prop:=Loop Qeg 0 Qqm QqX (QzQ K) ⟨[(1,(zcs [TI] x)),(2,(.p 0 0 0)),(6,(.r [TI] 1 0 out.length)),(7,(zcb sat)),(8,(zci i))],[(0,(.box [(zci m.1),(zci m.2.1),(zcs [TI] m.2.2)])),(1,(.sl 3 [TI] .ow out))],2⟩
theorem Qq1 (m:TMat) (x:List Int) (sat:Bool) (i:Int) (out:List Int) (h :
 (zif (decide (i<m.1)) ((Qhv m i)∧(((out.length=out.length∨out.length+1≤out.length)∧out.length+1≤big)∧(Qd0 K m x (sat||((QJ (Z5 m i) x).2)) (w64 (i+(1:Int))) (List.take (out.length+1) ((List.take out.length out)++([(QJ (Z5 m i) x).1])))))) (K (QaL ((List.take out.length (List.drop 0 out)),sat))))):Qd0 K m x sat i out :=
 Loop.of (by kernel_rfl) h
theorem Qus (m:TMat) (x:List Int) (h :
 (zif (((!(Zr m))||(!(QD x)))||((x.length:Int) != m.2.1)) (K (QaL (([]:List Int),false))) (Qd0 K m x false 0 ([]:List Int)))):Hold (tawp Qeg (0+0) QxS (TQ 0 0 Qr7 K) (Qd [(.a [(.c TI m.1),(.c TI m.2.1),(.c (.sl [TI]) m.2.2)]),(.c (.sl [TI]) x)])) :=
 Hold.of (by kernel_rfl) h
theorem QCs (m:TMat) (x:List Int):TCon Tryz.prog 223 [(.a [(.c TI m.1),(.c TI m.2.1),(.c (.sl [TI]) m.2.2)]),(.c (.sl [TI]) x)] (QaL (QK m x)):=by
 refine Qi rfl fun hb=>tcg (Γ:=Qeg) (n:=52) (sg:=QiK.sg) Qj (TOkL.cons Qwv (TOkL.cons JI (TOkL.cons Qyh (TOkL.cons Qp8 TOkL.nil)))) (by kernel_rfl) (by kernel_rfl) (Qus _ m x ?_)
 have hl_m_2:(m.2.2).length≤9223372036854775807:=hb.1.2.2.1.1
 have hl_x:x.length≤9223372036854775807:=hb.2.1.1
 have hg:∀ n:Int,(!(QD x)||((x.length:Int) != n)) = !(Qw x n):=fun n=>by unfold Qw;simp [bne]
 rw [Bool.or_assoc,hg]
 refine ⟨fun h=>R_eq (by rw [Qo4];intro h2;simp [h2.1,h2.2] at h),fun h=>?_⟩
 have hp:Zr m=true∧Qw x m.2.1=true:=by simpa using h
 obtain ⟨h1,h2,h3,h4,h5,h6,h7⟩:=QjF hp.1
 have hv:(QK m x)=((List.range m.1.toNat).map fun i:Nat=>(QJ (Z5 m i) x).1,(List.range m.1.toNat).any fun i:Nat=>(QJ (Z5 m i) x).2):=by unfold QK;rw [if_pos (by simp [hp])]
 refine Qnc m.1.toNat (fun j=>Qd0 (fun r'=>r'=QaL (QK m x)) m x ((List.range j).any fun i:Nat=>(QJ (Z5 m i) x).2) (j:Int) ((List.range j).map fun i:Nat=>(QJ (Z5 m i) x).1)) ?_ ?_
 ·refine Qq1 (fun r'=>r'=QaL (QK m x)) m x _ _ _ ⟨fun h=>by simp at h;omega,fun _=>R_eq ?_⟩
  rw [hv,List.drop_zero,List.take_length]
 ·intro j hj ih
  have hd:=idx (r:=j) (R:=m.1) (C:=m.2.1) (by omega) (by omega) (by omega)
  refine Qq1 (fun r'=>r'=QaL (QK m x)) m x _ _ _ ⟨fun _=>?_,fun h=>by simp at h;omega⟩
  rw [sc1 (by omega),Zu]
  rw [QnW,Qrw] at ih
  exact ⟨⟨by omega,by omega,by omega,by omega,by omega,h5⟩,room (by simp;omega),ih⟩
theorem QDb:Qe Tryz.prog QiK:=Qk fun x _=>QCs x.1 x.2.1
def QjA (t:TMat):TRes:=zra (.a [(zci t.1),(zci t.2.1),(zcs [TI] t.2.2)])
def QiA:TRow:=Qg 230 [(.a ctOp)] fun x=>(none,QjA (QW x.1))
def Qm7:TTab:=⟨[],false⟩
def QA1:TCode :=
 (zsq [(.reg [zop 1 (.box 134 0 4),zop 2 (.new 235 (z0s [TI,TI,(.sl [TI])]))]),(.reg [zfa 3 1 2,zld 4 3 1,zfa 5 1 1,zld 6 5 1,zfa 7 1 3,zld 8 7 1,zop 9 (.build (z0s [TI,TI,(.sl [TI])]) [(0,1,4),(1,1,6),(2,1,8)]),zst 2 9 3]),.ret])
def QAf:List (ARv × Md):=[(.l 2 3 true,.b [.d,.d,.d])]
theorem QEw (o:TOp') (h :
 K (QjA (o.2.2.1,o.2.1,o.2.2.2))):Hold (tawp Qm7 (0+0) QA1 (TQ 0 0 QAf K) (Qd [(.a (Tup.cells ctOp o))])) :=
 Hold.of (by kernel_rfl) h
theorem QxV (o:TOp'):TCon Tryz.prog 230 [(.a (Tup.cells ctOp o))] (QjA (QW o)):=by
 refine Qi rfl fun hb=>tcg (Γ:=Qm7) (n:=10) (sg:=QiA.sg) Qj TOkL.nil (by kernel_rfl) (by kernel_rfl) (QEw _ o ?_)
 have hl_o_3:(o.2.2.2).length≤9223372036854775807:=hb.1.2.2.2.1.1
 exact R_eq rfl
theorem QxO:Qe Tryz.prog QiA:=Qk fun x _=>QxV x.1
def QiZ (t:TMat):TRes:=zra (.a [(zci t.1),(zci t.2.1),(zcs [TI] t.2.2)])
def QgS:TRow:=Qg 224 [(.a ctOp)] fun x=>(none,QiZ (QW x.1))
def Qts:TTab:=⟨[],false⟩
def Qws:TCode :=
 (zsq [(.reg [zop 1 (.box 134 0 4),zop 2 (.new 235 (z0s [TI,TI,(.sl [TI])]))]),(.reg [zfa 3 1 2,zld 4 3 1,zfa 5 1 1,zld 6 5 1,zfa 7 1 3,zld 8 7 1,zop 9 (.build (z0s [TI,TI,(.sl [TI])]) [(0,1,4),(1,1,6),(2,1,8)]),zst 2 9 3]),.ret])
def QBb:List (ARv × Md):=[(.l 2 3 true,.b [.d,.d,.d])]
theorem Qx2 (o:TOp') (h :
 K (QiZ (o.2.2.1,o.2.1,o.2.2.2))):Hold (tawp Qts (0+0) Qws (TQ 0 0 QBb K) (Qd [(.a (Tup.cells ctOp o))])) :=
 Hold.of (by kernel_rfl) h
theorem Qva (o:TOp'):TCon Tryz.prog 224 [(.a (Tup.cells ctOp o))] (QiZ (QW o)):=by
 refine Qi rfl fun hb=>tcg (Γ:=Qts) (n:=10) (sg:=QgS.sg) Qj TOkL.nil (by kernel_rfl) (by kernel_rfl) (Qx2 _ o ?_)
 have hl_o_3:(o.2.2.2).length≤9223372036854775807:=hb.1.2.2.2.1.1
 exact R_eq rfl
theorem QHL:Qe Tryz.prog QgS:=Qk fun x _=>Qva x.1
end
end Go.Proofs.YtdplaepmjogjjaaGreat.Am

