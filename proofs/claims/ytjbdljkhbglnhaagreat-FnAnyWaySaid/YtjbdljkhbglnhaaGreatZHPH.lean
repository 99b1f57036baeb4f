/- -/
import Derived.Test.YtjbdljkhbglnhaaGreatZHP1
import Derived.Test.YtjbdljkhbglnhaaGreatZHPG
import Derived.Test.YtjbdljkhbglnhaaGreatZHPF
namespace Go.Proofs.YtjbdljkhbglnhaaGreat.Am
open Go Go.RowKit Go.Proofs.YtjbdljkhbglnhaaGreat
set_option linter.all false
noncomputable section
variable (K:TRes→Prop)
def Qga (t:Bool):TRes:=zre (zcb t)
def Qfl:TRow:=Qg 233 [(.a [TI,TI,(.sl [TI])])] fun x=>(none,Qga (ZQ x.1))
def QGH:List TRow:=[Qfe]
def QAl:TCode :=
 (zsq [(.reg [zop 1 (.box 185 0 3),zmv 2 (zkb false)]),(zsq [(.reg [zfa 3 1 0,zld 4 3 1,zbi 5 .lss 4 (zki 1),zmv 6 5,.grp 6 false [zfa 7 1 0,zld 8 7 1,zbi 9 .gtr 8 (zki 6)] 10 9,zmv 11 10,.grp 11 false [zfa 12 1 1,zld 13 12 1,zbi 14 .lss 13 (zki 1)] 15 14,zmv 16 15,.grp 16 false [zfa 17 1 1,zld 18 17 1,zbi 19 .gtr 18 (zki 6)] 20 19]),(.cond 20 (zsq [(.reg [zmv 2 (zkb false)]),.ret]) .skip)]),(.reg [zfa 21 1 2,zld 22 21 1,zle 23 22,zfa 24 1 0,zld 25 24 1,zfa 26 1 1,zld 27 26 1,zbi 28 .mul 25 27,zbi 29 .eql 23 28,zmv 30 29,.grp 30 true [zfa 31 1 2,zld 32 31 1,zca 33 195 [32]] 34 33,zmv 2 34]),.ret])
def QB8:List (ARv × Md):=[(.t 2,.one .d)]
theorem QQ6 (m:TMat) (h :
 (zif ((((decide (m.1<(1:Int)))||(decide (m.1>(6:Int))))||(decide (m.2.1<(1:Int))))||(decide (m.2.1>(6:Int)))) (K (Qga false)) (K (Qga ((((m.2.2).length:Int)==(w64 (m.1*m.2.1)))&&(Zu m.2.2)))))):Hold (tawp QGH (0+0) QAl (TQ 0 0 QB8 K) (Qf [(.a [(.c TI m.1),(.c TI m.2.1),(.c (.sl [TI]) m.2.2)])])) :=
 Hold.of (by kernel_rfl) h
theorem QNx (m:TMat):TCon Tryz.prog 233 [(.a [(.c TI m.1),(.c TI m.2.1),(.c (.sl [TI]) m.2.2)])] (Qga (ZQ m)):=by
 refine Qq rfl fun hb=>tcg (n:=35) (sg:=Qfl.sg) Qj (TOk.cons QjD TOk.nil) (by kernel_rfl) (by kernel_rfl) (QQ6 _ m ?_)
 have hl_m_2:(m.2.2).length≤9223372036854775807:=hb.1.2.2.1.1
 refine ⟨fun h=>R_eq ?_,fun h=>R_eq ?_⟩
 ·have:(m_in m.1 1 6&&m_in m.2.1 1 6)=false:=by simp [m_in];simp at h;omega
  unfold ZQ;rw [this];rfl
 ·have h':(1≤m.1∧m.1≤6)∧1≤m.2.1∧m.2.1≤6:=by simp at h;omega
  have hm:=QdB h'.1.1 h'.1.2 h'.2.1 h'.2.2
  rw [Qo (x:=m.1*m.2.1) (by omega) (by omega)]
  unfold ZQ
  rw [QJ.2 h'.1,QJ.2 h'.2];simp
theorem Qn9:Qh Tryz.prog Qfl:=Qk fun x _=>QNx x.1
def Qci (t:(List Int) × Bool):TRes:=zra (.tp [(zcs [TI] t.1),(zcb t.2)])
def QiH:TRow:=Qg 211 [(.a [TI,TI,(.sl [TI])]),(.c (.sl [TI]))] fun x=>(none,Qci (ZM x.1 x.2.1))
def QnI:List TRow:=[Qfl,JA,QfA]
def QtS:TCode :=
 (zsq [(zsq [(.reg [zmv 22 8,zfa 23 2 0,zld 24 23 1,zbi 25 .lss 22 24]),(.cond 25 .skip (.exit 0))]),(.block 1 (zsq [(.reg [zfa 29 2 2,zld 30 29 1,zmv 31 8,zfa 32 2 1,zld 33 32 1,zbi 34 .mul 31 33,zmv 35 8,zbi 36 .add 35 (zki 1),zfa 37 2 1,zld 38 37 1,zbi 39 .mul 36 38,zop 40 (.slc 30 (some 34) (some 39) [TI]),zmv 41 1,zca 42 188 [40,41],zmv 28 42,zex 43 28 0,zex 44 28 1,zmv 9 43,zmv 10 44]),(.reg [zmv 45 6,zmv 46 9,zop 47 (.bsl 3 [TI] [46]),zop 48 (.app 45 47 3 [TI]),zmv 6 48]),(.reg [zmv 49 7,zmv 50 49,.grp 50 false [zmv 51 10] 52 51,zmv 7 52])])),(.reg [zmv 26 8,zbi 27 .add 26 (zki 1),zmv 8 27])])
def QoL:List (Nat × Md):=[(1,.one .d),(2,.b [.d,.d,.d]),(6,.one .f),(7,.one .d),(8,.one .d)]
def Qp5:TCode :=
 (zsq [(.reg [zmv 53 6,zmv 54 7,zmv 4 53,zmv 5 54]),.ret])
def QQF:TCode :=
 (zsq [(.reg [zop 2 (.box 185 0 3),zmv 4 (.k (.n [TI])),zmv 5 (zkb false)]),(zsq [(.reg [zLd 11 2 3,zca 12 233 [11],zno 13 12,zmv 14 13,.grp 14 false [zmv 15 1,zfa 16 2 1,zld 17 16 1,zca 18 114 [15,17],zno 19 18] 20 19]),(.cond 20 (zsq [(.reg [zmv 4 (.k (.n [TI])),zmv 5 (zkb false)]),.ret]) .skip)]),(.reg [zop 21 (.bsl 3 [TI] []),zmv 6 21]),(.reg [zmv 7 (zkb false)]),(zsq [(.reg [zmv 8 (zki 0)]),(.block 0 (.loop QoL QtS))]),Qp5])
def QuA:List (ARv × Md):=[(.t 4,.one .d),(.t 5,.one .d)]
def Qqa:Qb:=TQ 0 0 QuA K
def QJ5:Qb:=Qseq (tawp QnI 0 Qp5 (Qqa K)) (Qqa K)
def QHv:Qb:=Qblk 0 (QJ5 K)
def Qij (m:TMat) (x:List Int) (out:Bool) (r:Int) (v:List Int):Prop:=Loop QnI 0 QoL QtS (QHv K) ⟨[(1,(zcs [TI] x)),(2,(.p 0 0 0)),(6,(.r [TI] 1 0 v.length)),(7,(zcb out)),(8,(zci r))],[(0,(.box [(zci m.1),(zci m.2.1),(zcs [TI] m.2.2)])),(1,(.sl 3 [TI] true v))],2⟩
theorem Qtg (m:TMat) (x:List Int) (out:Bool) (r:Int) (v:List Int) (h :
 (zif (decide (r<m.1)) (((0:Int)≤w64 (r*m.2.1)∧w64 (r*m.2.1)≤w64 ((w64 (r+(1:Int)))*m.2.1)∧w64 ((w64 (r+(1:Int)))*m.2.1)≤((m.2.2).length:Int))∧(((v.length=v.length∨v.length+1≤v.length)∧v.length+1≤big)∧(Qij K m x (out||((ZF (List.take (Int.toNat (w64 ((w64 (r+(1:Int)))*m.2.1))-Int.toNat (w64 (r*m.2.1))) (List.drop (Int.toNat (w64 (r*m.2.1))) m.2.2)) x).2)) (w64 (r+(1:Int))) (List.take (v.length+1) ((List.take v.length v)++([(ZF (List.take (Int.toNat (w64 ((w64 (r+(1:Int)))*m.2.1))-Int.toNat (w64 (r*m.2.1))) (List.drop (Int.toNat (w64 (r*m.2.1))) m.2.2)) x).1])))))) (K (Qci ((List.take v.length (List.drop 0 v)),out))))):Qij K m x out r v :=
 Loop.of (by kernel_rfl) h
theorem QM4 (m:TMat) (x:List Int) (h :
 (zif ((!(ZQ m))||(!(Qs x m.2.1))) (K (Qci ([],false))) (Qij K m x false 0 ([]:List Int)))):Hold (tawp QnI (0+0) QQF (TQ 0 0 QuA K) (Qf [(.a [(.c TI m.1),(.c TI m.2.1),(.c (.sl [TI]) m.2.2)]),(.c (.sl [TI]) x)])) :=
 Hold.of (by kernel_rfl) h
theorem QRB (m:TMat) (x:List Int):TCon Tryz.prog 211 [(.a [(.c TI m.1),(.c TI m.2.1),(.c (.sl [TI]) m.2.2)]),(.c (.sl [TI]) x)] (Qci (ZM m x)):=by
 refine Qq rfl fun hb=>tcg (n:=55) (sg:=QiH.sg) Qj (TOk.cons Qn9 (TOk.cons Qao (TOk.cons Qjl TOk.nil))) (by kernel_rfl) (by kernel_rfl) (QM4 _ m x ?_)
 have hl_m_2:(m.2.2).length≤9223372036854775807:=hb.1.2.2.1.1
 have hl_x:x.length≤9223372036854775807:=hb.2.1.1
 refine ⟨fun h=>R_eq (by rw [QNX];intro h2;simp [h2.1,h2.2] at h),fun h=>?_⟩
 have hp:ZQ m=true∧Qs x m.2.1=true:=by simpa using h
 obtain ⟨h1,h2,h3,h4,h5,h6,h7⟩:=QhB hp.1
 have hv:(ZM m x)=((List.range m.1.toNat).map fun i:Nat=>(ZF (QaF m i) x).1,(List.range m.1.toNat).any fun i:Nat=>(ZF (QaF m i) x).2):=by unfold ZM;rw [if_pos (by simp [hp])]
 refine JL m.1.toNat (fun j=>Qij (fun r'=>r'=Qci (ZM m x)) m x ((List.range j).any fun i:Nat=>(ZF (QaF m i) x).2) (j:Int) ((List.range j).map fun i:Nat=>(ZF (QaF m i) x).1)) ?_ ?_
 ·refine Qtg (fun r'=>r'=Qci (ZM m x)) m x _ _ _ ⟨fun h=>by simp at h;omega,fun _=>R_eq ?_⟩
  rw [hv,List.drop_zero,List.take_length]
 ·intro j hj ih
  have hd:=idx (r:=j) (R:=m.1) (C:=m.2.1) (by omega) (by omega) (by omega)
  refine Qtg (fun r'=>r'=Qci (ZM m x)) m x _ _ _ ⟨fun _=>?_,fun h=>by simp at h;omega⟩
  rw [Qo (x:=(j:Int)+1) (by omega) (by omega),Qo (x:=(j:Int)*m.2.1) (by omega) (by omega),Qo (x:=((j:Int)+1)*m.2.1) (by omega) (by omega),Zq]
  rw [Qzy,QDr] at ih
  exact ⟨⟨by omega,by omega,by omega⟩,room (by simp;omega),ih⟩
theorem Qwi:Qh Tryz.prog QiH:=Qk fun x _=>QRB x.1 x.2.1
def QaM (t:TMat):TRes:=zra (.a [(zci t.1),(zci t.2.1),(zcs [TI] t.2.2)])
def Qop:TRow:=Qg 235 [(.a [TI,TI,(.sl [TI])])] fun x=>(none,QaM (YJ x.1))
def Qds:List TRow:=[Qfl]
def QtU:TCode :=
 (zsq [(zsq [(.reg [zmv 21 5,zfa 22 1 0,zld 23 22 1,zbi 24 .lss 21 23]),(.cond 24 .skip (.exit 2))]),(.block 3 (.draw [zfa 27 3 2,zld 28 27 1,zfa 29 1 2,zld 30 29 1,zmv 31 5,zfa 32 1 1,zld 33 32 1,zbi 34 .mul 31 33,zmv 35 4,zbi 36 .add 34 35,zia 37 30 36 [TI],zld 38 37 1,zop 39 (.bsl 3 [TI] [38]),zop 40 (.app 28 39 3 [TI]),zfa 41 3 2,zst 41 40 1] [(0,12),(1,12)])),(.reg [zmv 25 5,zbi 26 .add 25 (zki 1),zmv 5 26])])
def QtY:List (Nat × Md):=[(1,.b [.d,.d,.d]),(2,.b [.d,.d,.d]),(3,.b [.d,.d,.f]),(4,.one .d),(5,.one .d)]
def Qxp:TCode :=
 (.reg [zmv 19 4,zbi 20 .add 19 (zki 1),zmv 4 20])
def Qnd:TCode :=
 (zsq [(zsq [(.reg [zmv 15 4,zfa 16 1 1,zld 17 16 1,zbi 18 .lss 15 17]),(.cond 18 .skip (.exit 0))]),(.block 1 (zsq [(.reg [zmv 5 (zki 0)]),(.block 2 (.loop QtY QtU))])),Qxp])
def Qi0:List (Nat × Md):=[(1,.b [.d,.d,.d]),(2,.b [.d,.d,.d]),(3,.b [.d,.d,.o 3]),(4,.one .d)]
def QyM:TCode :=
 (zsq [(.reg [zLd 42 3 3,zst 2 42 3]),.ret])
def QDE:TCode :=
 (zsq [(.reg [zop 1 (.box 185 0 3),zop 2 (.new 185 (z0s [TI,TI,(.sl [TI])]))]),(zsq [(.reg [zLd 6 1 3,zca 7 233 [6],zno 8 7]),(.cond 8 (zsq [(.reg [zop 9 (.build (z0s [TI,TI,(.sl [TI])]) []),zst 2 9 3]),.ret]) .skip)]),(.reg [zfa 10 1 1,zld 11 10 1,zfa 12 1 0,zld 13 12 1,zop 14 (.build (z0s [TI,TI,(.sl [TI])]) [(0,1,11),(1,1,13)]),zop 3 (.new 185 (z0s [TI,TI,(.sl [TI])])),zst 3 14 3]),(zsq [(.reg [zmv 4 (zki 0)]),(.block 0 (.loop Qi0 Qnd))]),QyM])
def Qwa:List (ARv × Md):=[(.l 2 3 true,.b [.d,.d,.d])]
def Qyy:Qb:=TQ 0 0 Qwa K
def QL0:Qb:=Qseq (tawp Qds 0 QyM (Qyy K)) (Qyy K)
def Qjv:Qb:=Qblk 0 (QL0 K)
def QzE:Qb:=Qseq (fun s'=>Loop Qds 0 Qi0 Qnd (Qjv K) (gc 0 Qi0 s')) (Qjv K)
def QDy:Qb:=Qseq (tawp Qds 0 Qxp (QzE K)) (QzE K)
def QN9:Qb:=Qblk 1 (QDy K)
def QRm:Qb:=Qblk 2 (QN9 K)
def Qit (m:TMat) (r:Int) (t2:List Int) (c:Int):Prop:=Loop Qds 0 QtY QtU (QRm K) ⟨[(1,(.p 0 0 0)),(2,(.p 1 0 0)),(3,(.p 3 0 0)),(4,(zci c)),(5,(zci r))],[(0,(.box [(zci m.1),(zci m.2.1),(zcs [TI] m.2.2)])),(1,(.box [(zci 0),(zci 0),(zcs [TI] ([]))])),(2,(.sl 3 [TI] true t2)),(3,(.box [(zci m.2.1),(zci m.1),(.r [TI] 2 0 t2.length)]))],4⟩
def Qhj (m:TMat) (c:Int) (t21:List Int):Prop:=Loop Qds 0 Qi0 Qnd (Qjv K) ⟨[(1,(.p 0 0 0)),(2,(.p 1 0 0)),(3,(.p 3 0 0)),(4,(zci c))],[(0,(.box [(zci m.1),(zci m.2.1),(zcs [TI] m.2.2)])),(1,(.box [(zci 0),(zci 0),(zcs [TI] ([]))])),(2,(.sl 3 [TI] true t21)),(3,(.box [(zci m.2.1),(zci m.1),(.r [TI] 2 0 t21.length)]))],4⟩
theorem Qx8 (m:TMat) (r:Int) (t2:List Int) (c:Int) (h :
 (zif (decide (r<m.1)) ((((0:Int)≤w64 ((w64 (r*m.2.1))+c)∧Int.toNat (w64 ((w64 (r*m.2.1))+c))<(m.2.2).length)∧((t2.length=t2.length∨t2.length+1≤t2.length)∧t2.length+1≤big))∧(Qit K m (w64 (r+(1:Int))) (List.take (t2.length+1) ((List.take t2.length t2)++([(gtd (0:Int) m.2.2 (Int.toNat (w64 ((w64 (r*m.2.1))+c))))]))) c)) (Qhj K m (w64 (c+(1:Int))) (List.take t2.length t2)))):Qit K m r t2 c :=
 Loop.of (by kernel_rfl) h
theorem Qra (m:TMat) (c:Int) (t21:List Int) (h :
 (zif (decide (c<m.2.1)) (Qit K m 0 (List.take t21.length t21) c) (K (QaM (m.2.1,m.1,(List.take t21.length (List.drop 0 t21))))))):Qhj K m c t21 :=
 Loop.of (by kernel_rfl) h
theorem QMr (m:TMat) (h :
 (zif (!(ZQ m)) (K (QaM ((0:Int),(0:Int),[]))) (Qhj K m 0 ([]:List Int)))):Hold (tawp Qds (0+0) QDE (TQ 0 0 Qwa K) (Qf [(.a [(.c TI m.1),(.c TI m.2.1),(.c (.sl [TI]) m.2.2)])])) :=
 Hold.of (by kernel_rfl) h
theorem QOO (m:TMat):TCon Tryz.prog 235 [(.a [(.c TI m.1),(.c TI m.2.1),(.c (.sl [TI]) m.2.2)])] (QaM (YJ m)):=by
 refine Qq rfl fun hb=>tcg (n:=43) (sg:=Qop.sg) Qj (TOk.cons Qn9 TOk.nil) (by kernel_rfl) (by kernel_rfl) (QMr _ m ?_)
 have hl_m_2:(m.2.2).length≤9223372036854775807:=hb.1.2.2.1.1
 refine ⟨fun h=>R_eq (by unfold YJ;rw [if_neg (by simpa using h)]),fun h=>?_⟩
 have hp:ZQ m=true:=by simpa using h
 obtain ⟨h1,h2,h3,h4,h5,h6,h7⟩:=QhB hp
 refine JL m.2.1.toNat (fun k=>Qhj (fun r'=>r'=QaM (YJ m)) m (k:Int) ((List.range k).flatMap fun k:Nat=>Y9 m k)) ?_ ?_
 ·refine Qra (fun r'=>r'=QaM (YJ m)) m _ _ ⟨fun h=>by simp at h;omega,fun _=>R_eq ?_⟩
  rw [List.drop_zero,List.take_length];unfold YJ;rw [if_pos hp]
 ·intro k hk ih
  refine Qra (fun r'=>r'=QaM (YJ m)) m _ _ ⟨fun _=>?_,fun h=>by simp at h;omega⟩
  rw [List.take_length]
  have hk36:((List.range k).flatMap fun k:Nat=>Y9 m k).length≤36:=by
   rw [Qjj (R:=m.1.toNat) k (fun j _=>Qlr m j)]
   have:k*m.1.toNat≤6*6:=Nat.mul_le_mul (by omega) (by omega)
   omega
  have inner:=JL m.1.toNat (fun j=>Qit (fun r'=>r'=QaM (YJ m)) m (j:Int) (((List.range k).flatMap fun k:Nat=>Y9 m k)++(List.range j).map fun i:Nat=>gtd 0 m.2.2 ((i:Int)*m.2.1+(k:Nat)).toNat) (k:Int)) ?_ ?_
  ·simpa using inner
  ·refine Qx8 (fun r'=>r'=QaM (YJ m)) m _ _ _ ⟨fun h=>by simp at h;omega,fun _=>?_⟩
   rw [List.take_length,sc1 (by omega)]
   rw [QdL] at ih
   exact ih
  ·intro j hj ih2
   have hd:=idx (r:=j) (R:=m.1) (C:=m.2.1) (by omega) (by omega) (by omega)
   refine Qx8 (fun r'=>r'=QaM (YJ m)) m _ _ _ ⟨fun _=>?_,fun h=>by simp at h;omega⟩
   rw [Qo (x:=(j:Int)*m.2.1) (by omega) (by omega),Qo (x:=(j:Int)*m.2.1+(k:Int)) (by omega) (by omega),sc1 (by omega),Zq]
   rw [Qzy,← List.append_assoc] at ih2
   exact ⟨⟨⟨by omega,by omega⟩,room (by rw [List.length_append];simp only [List.length_map,List.length_range];omega)⟩,ih2⟩
theorem QJC:Qh Tryz.prog Qop:=Qk fun x _=>QOO x.1
def Qi2 (t:(List Int) × Bool):TRes:=zra (.tp [(zcs [TI] t.1),(zcb t.2)])
def Qnf:TRow:=Qg 218 [(.a [TI,TI,(.sl [TI])]),(.c (.sl [TI]))] fun x=>(none,Qi2 (Z5 x.1 x.2.1))
def QQ4:List TRow:=[Qfl,JA,Qop,QiH]
def QI3:TCode :=
 (zsq [(.reg [zop 2 (.box 185 0 3),zmv 4 (.k (.n [TI])),zmv 5 (zkb false)]),(zsq [(.reg [zLd 6 2 3,zca 7 233 [6],zno 8 7,zmv 9 8,.grp 9 false [zmv 10 1,zfa 11 2 0,zld 12 11 1,zca 13 114 [10,12],zno 14 13] 15 14]),(.cond 15 (zsq [(.reg [zmv 4 (.k (.n [TI])),zmv 5 (zkb false)]),.ret]) .skip)]),(.reg [zLd 16 2 3,zca 17 235 [16],zmv 18 1,zca 19 211 [17,18],zex 20 19 0,zex 21 19 1,zmv 4 20,zmv 5 21]),.ret])
def QP0:List (ARv × Md):=[(.t 4,.one .d),(.t 5,.one .d)]
theorem QQQ (m:TMat) (d:List Int) (h :
 (zif ((!(ZQ m))||(!(Qs d m.1))) (K (Qi2 ([],false))) (K (Qi2 ((ZM (YJ m) d).1,(ZM (YJ m) d).2))))):Hold (tawp QQ4 (0+0) QI3 (TQ 0 0 QP0 K) (Qf [(.a [(.c TI m.1),(.c TI m.2.1),(.c (.sl [TI]) m.2.2)]),(.c (.sl [TI]) d)])) :=
 Hold.of (by kernel_rfl) h
theorem QHW (m:TMat) (d:List Int):TCon Tryz.prog 218 [(.a [(.c TI m.1),(.c TI m.2.1),(.c (.sl [TI]) m.2.2)]),(.c (.sl [TI]) d)] (Qi2 (Z5 m d)):=by
 refine Qq rfl fun hb=>tcg (n:=22) (sg:=Qnf.sg) Qj (TOk.cons Qn9 (TOk.cons Qao (TOk.cons QJC (TOk.cons Qwi TOk.nil)))) (by kernel_rfl) (by kernel_rfl) (QQQ _ m d ?_)
 have hl_m_2:(m.2.2).length≤9223372036854775807:=hb.1.2.2.1.1
 have hl_d:d.length≤9223372036854775807:=hb.2.1.1
 refine ⟨fun h=>R_eq (by rw [QBC];intro h2;simp [h2.1,h2.2] at h),fun h=>?_⟩
 have hp:ZQ m=true∧Qs d m.1=true:=by simpa using h
 exact R_eq (QQX hp.1 hp.2)
theorem QAr:Qh Tryz.prog Qnf:=Qk fun x _=>QHW x.1 x.2.1
def QaR (t:TMat × Bool):TRes:=zra (.tp [(.a [(zci t.1.1),(zci t.1.2.1),(zcs [TI] t.1.2.2)]),(zcb t.2)])
def Qk9:TRow:=Qg 219 [(.c (.sl [TI])),(.c (.sl [TI]))] fun x=>(none,QaR (ZT x.1 x.2.1))
def Qdv:List TRow:=[Qa0,Qfn]
def QAe:TCode :=
 (zsq [(.reg [zbi 37 .lss 36 35]),(.cond 37 .skip (.exit 2)),(.block 3 (zsq [(.reg [zia 38 34 36 [TI],zld 39 38 1,zmv 11 39]),(.reg [zmv 41 9,zmv 42 11,zca 43 216 [41,42],zmv 40 43,zex 44 40 0,zex 45 40 1,zmv 12 44,zmv 13 45]),(.reg [zfa 46 6 2,zld 47 46 1,zmv 48 12,zop 49 (.bsl 3 [TI] [48]),zop 50 (.app 47 49 3 [TI]),zfa 51 6 2,zst 51 50 1]),(.reg [zmv 52 7,zmv 53 52,.grp 53 false [zmv 54 13] 55 54,zmv 7 55])])),(.reg [zbi 56 .add 36 (zki 1),zmv 36 56])])
def QrL:List (Nat × Md):=[(1,.one .d),(4,.b [.d,.d,.d]),(6,.b [.d,.d,.f]),(7,.one .d),(9,.one .d),(28,.one .d),(29,.one .d),(30,.one .d),(34,.one .d),(35,.one .d),(36,.one .d)]
def Qz7:TCode :=
 (.reg [zbi 57 .add 30 (zki 1),zmv 30 57])
def Qod:TCode :=
 (zsq [(.reg [zbi 31 .lss 30 29]),(.cond 31 .skip (.exit 0)),(.block 1 (zsq [(.reg [zia 32 28 30 [TI],zld 33 32 1,zmv 9 33]),(.reg [zmv 34 1,zle 35 34,zmv 36 (zki 0)]),(.block 2 (.loop QrL QAe))])),Qz7])
def QhZ:List (Nat × Md):=[(1,.one .d),(4,.b [.d,.d,.d]),(6,.b [.d,.d,.o 3]),(7,.one .d),(28,.one .d),(29,.one .d),(30,.one .d)]
def Qx3:TCode :=
 (zsq [(.reg [zLd 58 6 3,zmv 59 7,zst 4 58 3,zmv 5 59]),.ret])
def QDd:TCode :=
 (zsq [(.reg [zop 4 (.new 185 (z0s [TI,TI,(.sl [TI])])),zmv 5 (zkb false)]),(zsq [(.reg [zmv 14 0,zca 15 134 [14],zno 16 15,zmv 17 16,.grp 17 false [zmv 18 1,zca 19 134 [18],zno 20 19] 21 20]),(.cond 21 (zsq [(.reg [zop 22 (.build (z0s [TI,TI,(.sl [TI])]) []),zst 4 22 3,zmv 5 (zkb false)]),.ret]) .skip)]),(.reg [zmv 23 0,zle 24 23,zmv 25 1,zle 26 25,zop 27 (.build (z0s [TI,TI,(.sl [TI])]) [(0,1,24),(1,1,26)]),zop 6 (.new 185 (z0s [TI,TI,(.sl [TI])])),zst 6 27 3]),(.reg [zmv 7 (zkb false)]),(zsq [(.reg [zmv 28 0,zle 29 28,zmv 30 (zki 0)]),(.block 0 (.loop QhZ Qod))]),Qx3])
def QxJ:List (ARv × Md):=[(.l 4 3 true,.b [.d,.d,.d]),(.t 5,.one .d)]
def QxR:Qb:=TQ 0 0 QxJ K
def QB5:Qb:=Qseq (tawp Qdv 0 Qx3 (QxR K)) (QxR K)
def Qlx:Qb:=Qblk 0 (QB5 K)
def Qxt:Qb:=Qseq (fun s'=>Loop Qdv 0 QhZ Qod (Qlx K) (gc 0 QhZ s')) (Qlx K)
def QPM:Qb:=Qseq (tawp Qdv 0 Qz7 (Qxt K)) (Qxt K)
def QAq:Qb:=Qblk 1 (QPM K)
def QQn:Qb:=Qblk 2 (QAq K)
def Qge (d:List Int) (x:List Int) (out:Bool) (x1:Int) (m2:List Int) (x2:Int):Prop:=Loop Qdv 0 QrL QAe (QQn K) ⟨[(1,(zcs [TI] x)),(4,(.p 0 0 0)),(6,(.p 2 0 0)),(7,(zcb out)),(9,(zci (gtd (0:Int) d (Int.toNat x2)))),(28,(zcs [TI] d)),(29,(zci (d.length:Int))),(30,(zci x2)),(34,(zcs [TI] x)),(35,(zci (x.length:Int))),(36,(zci x1))],[(0,(.box [(zci 0),(zci 0),(zcs [TI] ([]))])),(1,(.sl 3 [TI] true m2)),(2,(.box [(zci (d.length:Int)),(zci (x.length:Int)),(.r [TI] 1 0 m2.length)]))],3⟩
def QiF (d:List Int) (x:List Int) (out1:Bool) (x2:Int) (m21:List Int):Prop:=Loop Qdv 0 QhZ Qod (Qlx K) ⟨[(1,(zcs [TI] x)),(4,(.p 0 0 0)),(6,(.p 2 0 0)),(7,(zcb out1)),(28,(zcs [TI] d)),(29,(zci (d.length:Int))),(30,(zci x2))],[(0,(.box [(zci 0),(zci 0),(zcs [TI] ([]))])),(1,(.sl 3 [TI] true m21)),(2,(.box [(zci (d.length:Int)),(zci (x.length:Int)),(.r [TI] 1 0 m21.length)]))],3⟩
theorem Qvk (d:List Int) (x:List Int) (out:Bool) (x1:Int) (m2:List Int) (x2:Int) (h :
 (zif (decide (x1<(x.length:Int))) (((0:Int)≤x1∧Int.toNat x1<x.length)∧(((m2.length=m2.length∨m2.length+1≤m2.length)∧m2.length+1≤big)∧(Qge K d x (out||((ZV (gtd (0:Int) d (Int.toNat x2)) (gtd (0:Int) x (Int.toNat x1))).2)) (w64 (x1+(1:Int))) (List.take (m2.length+1) ((List.take m2.length m2)++([(ZV (gtd (0:Int) d (Int.toNat x2)) (gtd (0:Int) x (Int.toNat x1))).1]))) x2))) (QiF K d x out (w64 (x2+(1:Int))) (List.take m2.length m2)))):Qge K d x out x1 m2 x2 :=
 Loop.of (by kernel_rfl) h
theorem QuS (d:List Int) (x:List Int) (out1:Bool) (x2:Int) (m21:List Int) (h :
 (zif (decide (x2<(d.length:Int))) (((0:Int)≤x2∧Int.toNat x2<d.length)∧(Qge K d x out1 0 (List.take m21.length m21) x2)) (K (QaR (((d.length:Int),(x.length:Int),(List.take m21.length (List.drop 0 m21))),out1))))):QiF K d x out1 x2 m21 :=
 Loop.of (by kernel_rfl) h
theorem QPT (d:List Int) (x:List Int) (h :
 (zif ((!(Q8 d))||(!(Q8 x))) (K (QaR (((0:Int),(0:Int),[]),false))) (QiF K d x false 0 ([]:List Int)))):Hold (tawp Qdv (0+0) QDd (TQ 0 0 QxJ K) (Qf [(.c (.sl [TI]) d),(.c (.sl [TI]) x)])) :=
 Hold.of (by kernel_rfl) h
theorem QBb (d:List Int) (x:List Int):TCon Tryz.prog 219 [(.c (.sl [TI]) d),(.c (.sl [TI]) x)] (QaR (ZT d x)):=by
 refine Qq rfl fun hb=>tcg (n:=60) (sg:=Qk9.sg) Qj (TOk.cons QcT (TOk.cons Qki TOk.nil)) (by kernel_rfl) (by kernel_rfl) (QPT _ d x ?_)
 have hl_d:d.length≤9223372036854775807:=hb.1.1
 have hl_x:x.length≤9223372036854775807:=hb.2.1.1
 refine ⟨fun h=>R_eq (by unfold ZT;rw [if_neg (by simpa [Classical.or_iff_not_imp_left] using h)]),fun h=>?_⟩
 have hp:Q8 d=true∧Q8 x=true:=by simpa using h
 have h6:=(YE.1 hp.1).1
 have h7:=(YE.1 hp.2).1
 refine ZL d (fun r j=>∀ (v:List Int) (z:Bool),v.length≤6*j→((((d.length:Int),(x.length:Int),v++r.flatMap fun a=>x.map fun b=>(ZV a b).1),z||r.any fun a=>x.any fun b=>(ZV a b).2):TMat × Bool)=(ZT d x)→QiF (fun r'=>r'=QaR (ZT d x)) d x z j v) ?_ ?_ [] false (Nat.zero_le _) (by unfold ZT;rw [if_pos (by simp [hp])];simp)
 ·intro v z hv he
  refine QuS (fun r'=>r'=QaR (ZT d x)) d x _ _ _ ⟨fun h=>by simp at h,fun _=>R_eq ?_⟩
  rw [← he];simp
 ·intro j y r hj hlt hg ih v z hv he
  refine QuS (fun r'=>r'=QaR (ZT d x)) d x _ _ _ ⟨fun _=>?_,fun h=>by simp at h;omega⟩
  rw [List.take_length]
  refine ⟨⟨by omega,by omega⟩,ZL x (fun r2 k=>∀ (v2:List Int) (z2:Bool),v2.length=v.length+k→v2++r2.map (fun b=>(ZV y b).1)=v++x.map (fun b=>(ZV y b).1)→(z2||r2.any fun b=>(ZV y b).2)=(z||x.any fun b=>(ZV y b).2)→Qge (fun r'=>r'=QaR (ZT d x)) d x z2 k v2 j) ?_ ?_ v z (by omega) rfl rfl⟩
  ·intro v2 z2 hv2 he2 hz2
   refine Qvk (fun r'=>r'=QaR (ZT d x)) d x _ _ _ _ ⟨fun h=>by simp at h,fun _=>?_⟩
   rw [List.take_length,sc1 (by omega)]
   simp only [List.map_nil,List.append_nil,List.any_nil,Bool.or_false] at he2 hz2
   refine ih _ _ (by rw [hv2];omega) ?_
   rw [← he,he2,hz2];simp [Bool.or_assoc]
  ·intro k w r2 hk hlt2 hg2 ih2 v2 z2 hv2 he2 hz2
   refine Qvk (fun r'=>r'=QaR (ZT d x)) d x _ _ _ _ ⟨fun _=>?_,fun h=>by simp at h;omega⟩
   rw [Int.toNat_natCast,Int.toNat_natCast,hg,hg2,sc1 (by omega),Zq]
   refine ⟨⟨by omega,by omega⟩,room (by omega),ih2 _ _ (by simp;omega) ?_ ?_⟩
   ·rw [← he2];simp
   ·rw [← hz2];simp [Bool.or_assoc]
theorem QMA:Qh Tryz.prog Qk9:=Qk fun x _=>QBb x.1 x.2.1
def Qjf (t:TMat):TRes:=zra (.a [(zci t.1),(zci t.2.1),(zcs [TI] t.2.2)])
def QfJ:TRow:=Qg 212 [(.a ctOp)] fun x=>(none,Qjf (Zo x.1))
def QQY:List TRow:=[]
def QOX:TCode :=
 (zsq [(.reg [zop 1 (.box 69 0 4),zop 2 (.new 185 (z0s [TI,TI,(.sl [TI])]))]),(.reg [zfa 3 1 2,zld 4 3 1,zfa 5 1 1,zld 6 5 1,zfa 7 1 3,zld 8 7 1,zop 9 (.build (z0s [TI,TI,(.sl [TI])]) [(0,1,4),(1,1,6),(2,1,8)]),zst 2 9 3]),.ret])
def QLa:List (ARv × Md):=[(.l 2 3 true,.b [.d,.d,.d])]
theorem QEz (o:TOp') (h :
 K (Qjf (o.2.2.1,o.2.1,o.2.2.2))):Hold (tawp QQY (0+0) QOX (TQ 0 0 QLa K) (Qf [(.a (Tup.cells ctOp o))])) :=
 Hold.of (by kernel_rfl) h
theorem QBS (o:TOp'):TCon Tryz.prog 212 [(.a (Tup.cells ctOp o))] (Qjf (Zo o)):=by
 refine Qq rfl fun hb=>tcg (n:=10) (sg:=QfJ.sg) Qj TOk.nil (by kernel_rfl) (by kernel_rfl) (QEz _ o ?_)
 have hl_o_3:(o.2.2.2).length≤9223372036854775807:=hb.1.2.2.2.1.1
 exact R_eq rfl
theorem QuP:Qh Tryz.prog QfJ:=Qk fun x _=>QBS x.1
end
end Go.Proofs.YtjbdljkhbglnhaaGreat.Am

