/- -/
import Derived.Test.YtjbdljkhbglnhaaGreatZCPQ
import Derived.Test.YtjbdljkhbglnhaaGreatZCP7
import Derived.Test.YtjbdljkhbglnhaaGreatZCPB
import Derived.Test.YtjbdljkhbglnhaaGreatZCPJ
import Derived.Test.YtjbdljkhbglnhaaGreatZCPA
import Derived.Test.YtjbdljkhbglnhaaGreatZCGE
namespace Go.Proofs.YtjbdljkhbglnhaaGreat.Am
open Go Go.RowKit Go.Proofs.YtjbdljkhbglnhaaGreat
set_option linter.all false
set_option maxHeartbeats 2000000
noncomputable section
variable (K:TRes→Prop)
def QlU (t:(List Int)):TRes:=zra (zcs [TI] t)
def Qom:TRow:=Qf 80 [(.c (.sl [TI]))] fun x=>(none,QlU (Jn x.1))
def QS3:List TRow:=[]
def QL6:TCode :=
 (zsq [(.reg [zmv 2 (.k (.n [TI]))]),(.reg [zmv 3 0,zmv 4 0,zle 5 4,zop 6 (.mm false 5 (zki 2000)),zop 7 (.slc 3 none (some 6) [TI]),zmv 2 7]),.ret])
def QSJ:List (ARv × Md):=[(.t 2,.one .d)]
theorem QUa (picks:List Int) (h :
 (((0:Int)≤(0:Int)∧(0:Int)≤(if (2000:Int)<(picks.length:Int) then (2000:Int) else (picks.length:Int))∧(if (2000:Int)<(picks.length:Int) then (2000:Int) else (picks.length:Int))≤(picks.length:Int))∧K (QlU (List.take (Int.toNat (if (2000:Int)<(picks.length:Int) then (2000:Int) else (picks.length:Int))-Int.toNat (0:Int)) (List.drop (Int.toNat (0:Int)) picks))))):Hold (tawp QS3 (0+0) QL6 (TQ 0 0 QSJ K) (Qd [(.c (.sl [TI]) picks)])) :=
 Hold.of (by kernel_rfl) h
theorem QOm (picks:List Int):TCon Tryz.prog 80 [(.c (.sl [TI]) picks)] (QlU (Jn picks)):=by
 refine Qj rfl fun hb=>tcg (n:=8) (sg:=Qom.sg) Qg TOk.nil (by kernel_rfl) (by kernel_rfl) (QUa _ picks ?_)
 have hl_picks:picks.length≤9223372036854775807:=hb.1.1
 refine ⟨⟨by omega,by split <;> omega,by split <;> omega⟩,R_eq ?_⟩
 simp only [show Int.toNat (0:Int)=0 from rfl,Nat.sub_zero,List.drop_zero]
 unfold Jn
 split
 ·rfl
 ·rw [Int.toNat_natCast,List.take_length,List.take_of_length_le (by omega)]
theorem QEE:Qe Tryz.prog Qom:=Qh fun x _=>QOm x.1
def Qd7 (t:Qk):TRes:=zra (.a (Tup.cells QY t))
def Qpz:TRow:=Qf 17 [(.a QY),(.c (.sl [TI]))] fun x=>(some (QiC x.1 x.2.1),Qd7 (Jq x.1 x.2.1))
def QkV:List TRow:=[Qe1,Qom,Qgr]
def QC8:TCode :=
 (zsq [(.reg [zbi 13 .lss 12 11]),(.cond 13 .skip (.exit 0)),(.block 1 (zsq [(.reg [zia 14 10 12 [TI],zld 15 14 1,zmv 6 15]),(.reg [zLd 16 2 4,zmv 17 6,zca 18 33 [16,17],zst 2 18 4])])),(.reg [zbi 19 .add 12 (zki 1),zmv 12 19])])
def QrM:List (Nat × Md):=[(2,.b (zds 4)),(4,.b (zds 4)),(10,.one .d),(11,.one .d),(12,.one .d)]
def QAP:TCode :=
 (zsq [(.reg [zLd 20 2 4,zst 4 20 4]),.ret])
def QVz:TCode :=
 (zsq [(.reg [zop 2 (.box 37 0 4),zop 4 (.new 37 (z0s QY))]),(.reg [zLd 7 2 4,zca 8 79 [7],zst 2 8 4]),(zsq [(.reg [zmv 9 1,zca 10 80 [9],zle 11 10,zmv 12 (zki 0)]),(.block 0 (.loop QrM QC8))]),QAP])
def Qsq:List (ARv × Md):=[(.l 4 4 true,.b (zds 4))]
def QDQ:Qb:=TQ 0 0 Qsq K
def QI0:Qb:=Qseq (tawp QkV 0 QAP (QDQ K)) (QDQ K)
def QRK:Qb:=Qblk 0 (QI0 K)
def QjV (picks:List Int) (x:Int) (p0:List Qi) (p1:List Qc) (p2:List Qn) (p3:List Qn):Prop:=Loop QkV 0 QrM QC8 (QRK K) ⟨[(2,(.p 0 0 0)),(4,(.p 1 0 0)),(10,(zcs [TI] (Jn picks))),(11,(zci ((Jn picks).length:Int))),(12,(zci x))],[(0,(.box (Tup.cells QY (p0,p1,p2,p3)))),(1,(.box (Tup.cells QY ([],[],[],[]))))],2⟩
theorem QCR (picks:List Int) (x:Int) (p0:List Qi) (p1:List Qc) (p2:List Qn) (p3:List Qn) (h :
 (zif (decide (x<((Jn picks).length:Int))) (((0:Int)≤x∧Int.toNat x<(Jn picks).length)∧((QcX (p0,p1,p2,p3) (gtd (0:Int) (Jn picks) (Int.toNat x)))∧(QjV K picks (w64 (x+(1:Int))) ((Zz (p0,p1,p2,p3) (gtd (0:Int) (Jn picks) (Int.toNat x))).1) ((Zz (p0,p1,p2,p3) (gtd (0:Int) (Jn picks) (Int.toNat x))).2.1) ((Zz (p0,p1,p2,p3) (gtd (0:Int) (Jn picks) (Int.toNat x))).2.2.1) ((Zz (p0,p1,p2,p3) (gtd (0:Int) (Jn picks) (Int.toNat x))).2.2.2)))) (K (Qd7 (p0,p1,p2,p3))))):QjV K picks x p0 p1 p2 p3 :=
 Loop.of (by kernel_rfl) h
theorem QIm (p:Qk) (picks:List Int) (h :
 ((QJ (α:=Qk) p)∧(QjV K picks 0 ((id (α:=Qk) p).1) (List.take (((id (α:=Qk) p).2.1).length) (List.drop 0 ((id (α:=Qk) p).2.1))) (List.take (((id (α:=Qk) p).2.2.1).length) (List.drop 0 ((id (α:=Qk) p).2.2.1))) (List.take (((id (α:=Qk) p).2.2.2).length) (List.drop 0 ((id (α:=Qk) p).2.2.2)))))):Hold (tawp QkV (0+0) QVz (TQ 0 0 Qsq K) (Qd [(.a (Tup.cells QY p)),(.c (.sl [TI]) picks)])) :=
 Hold.of (by kernel_rfl) h
theorem QVY (p:Qk) (picks:List Int) (hp:QiC p picks):TCon Tryz.prog 17 [(.a (Tup.cells QY p)),(.c (.sl [TI]) picks)] (Qd7 (Jq p picks)):=by
 refine Qj rfl fun hb=>tcg (n:=21) (sg:=Qpz.sg) Qg (TOk.cons Qk5 (TOk.cons QEE (TOk.cons QoF TOk.nil))) (by kernel_rfl) (by kernel_rfl) (QIm _ p picks ?_)
 have hl_p_0:(p.1).length≤9223372036854775807:=hb.1.1.1
 have hl_p_1:(p.2.1).length≤9223372036854775807:=hb.1.2.1.1
 have hl_p_2:(p.2.2.1).length≤9223372036854775807:=hb.1.2.2.1.1
 have hl_p_3:(p.2.2.2).length≤9223372036854775807:=hb.1.2.2.2.1.1
 have hl_picks:picks.length≤9223372036854775807:=hb.2.1.1
 have hp':Sz.sz p≤536870912:=hp
 simp only [id,List.drop_zero,List.take_length]
 refine ⟨by unfold QJ;omega,?_⟩
 have hfl:(Jn picks).length≤2000:=by unfold Jn;simp;omega
 refine Zp (Jn picks) (fun r x=>∀ q:Qk,Sz.sz q≤536870912+100*x→Qb0 r q=(Jq p picks)→QjV (fun r'=>r'=Qd7 (Jq p picks)) picks (x:Int) q.1 q.2.1 q.2.2.1 q.2.2.2) ?_ ?_ p (by omega) rfl
 ·intro q hq he
  refine QCR (fun r'=>r'=Qd7 (Jq p picks)) picks _ _ _ _ _ ⟨fun h=>by simp at h,fun _=>R_eq ?_⟩
  exact he
 ·intro k x r hk hlt hg ih q hq he
  have hps:=QiG q x
  refine QCR (fun r'=>r'=Qd7 (Jq p picks)) picks _ _ _ _ _ ⟨fun _=>?_,fun h=>by simp at h;omega⟩
  rw [Int.toNat_natCast,hg,sc1 (by omega)]
  exact ⟨⟨by omega,hlt⟩,by unfold QcX;show Sz.sz q≤_;omega,ih (Zz q x) (by omega) he⟩
theorem QRJ:Qe Tryz.prog Qpz:=Qh fun x h=>QVY x.1 x.2.1 h
def QcD (t:Qk):TRes:=zra (.a (Tup.cells QY t))
def Ql5:TRow:=Qf 19 [(.a QY),(.c TI)] fun x=>(some (Qjj x.1 x.2.1),QcD (YW x.1 x.2.1))
def Qn3:List TRow:=[Qe1,Qgr]
def QA0:TCode :=
 (zsq [(zsq [(.reg [zmv 8 5,zmv 9 1,zbi 10 .lss 8 9,zmv 11 10,.grp 11 true [zmv 12 5,zbi 13 .lss 12 (zki 2000)] 14 13,zmv 15 14,.grp 15 true [zfa 16 2 1,zld 17 16 1,zle 18 17,zbi 19 .gtr 18 (zki 0)] 20 19]),(.cond 20 .skip (.exit 0))]),(.block 1 (.draw [zLd 23 2 4,zmv 24 5,zfa 25 2 1,zld 26 25 1,zle 27 26,zbi 28 .rem 24 27,zca 29 33 [23,28],zst 2 29 4] [])),(.reg [zmv 21 5,zbi 22 .add 21 (zki 1),zmv 5 22])])
def QrZ:List (Nat × Md):=[(1,.one .d),(2,.b (zds 4)),(4,.b (zds 4)),(5,.one .d)]
def QCY:TCode :=
 (zsq [(.reg [zLd 30 2 4,zst 4 30 4]),.ret])
def QVr:TCode :=
 (zsq [(.reg [zop 2 (.box 37 0 4),zop 4 (.new 37 (z0s QY))]),(.reg [zLd 6 2 4,zca 7 79 [6],zst 2 7 4]),(zsq [(.reg [zmv 5 (zki 0)]),(.block 0 (.loop QrZ QA0))]),QCY])
def QqZ:List (ARv × Md):=[(.l 4 4 true,.b (zds 4))]
def QBh:Qb:=TQ 0 0 QqZ K
def QK2:Qb:=Qseq (tawp Qn3 0 QCY (QBh K)) (QBh K)
def QTB:Qb:=Qblk 0 (QK2 K)
def QhR (n:Int) (i:Int) (p0:List Qi) (p1:List Qc) (p2:List Qn) (p3:List Qn):Prop:=Loop Qn3 0 QrZ QA0 (QTB K) ⟨[(1,(zci n)),(2,(.p 0 0 0)),(4,(.p 1 0 0)),(5,(zci i))],[(0,(.box (Tup.cells QY (p0,p1,p2,p3)))),(1,(.box (Tup.cells QY ([],[],[],[]))))],2⟩
theorem Qqq (n:Int) (i:Int) (p0:List Qi) (p1:List Qc) (p2:List Qn) (p3:List Qn) (h :
 (zif (((decide (i<n))&&(decide (i<(2000:Int))))&&(decide ((p1.length:Int)>(0:Int)))) (((¬ ((p1.length:Int):Int)=0)∧(QcX (p0,p1,p2,p3) (Int.tmod i (p1.length:Int))))∧(QhR K n (w64 (i+(1:Int))) ((Zz (p0,p1,p2,p3) (Int.tmod i (p1.length:Int))).1) ((Zz (p0,p1,p2,p3) (Int.tmod i (p1.length:Int))).2.1) ((Zz (p0,p1,p2,p3) (Int.tmod i (p1.length:Int))).2.2.1) ((Zz (p0,p1,p2,p3) (Int.tmod i (p1.length:Int))).2.2.2))) (K (QcD (p0,p1,p2,p3))))):QhR K n i p0 p1 p2 p3 :=
 Loop.of (by kernel_rfl) h
theorem QQW (p:Qk) (n:Int) (h :
 ((QJ (α:=Qk) p)∧(QhR K n 0 ((id (α:=Qk) p).1) (List.take (((id (α:=Qk) p).2.1).length) (List.drop 0 ((id (α:=Qk) p).2.1))) (List.take (((id (α:=Qk) p).2.2.1).length) (List.drop 0 ((id (α:=Qk) p).2.2.1))) (List.take (((id (α:=Qk) p).2.2.2).length) (List.drop 0 ((id (α:=Qk) p).2.2.2)))))):Hold (tawp Qn3 (0+0) QVr (TQ 0 0 QqZ K) (Qd [(.a (Tup.cells QY p)),(.c TI n)])) :=
 Hold.of (by kernel_rfl) h
theorem QTo (p:Qk) (n:Int) (hp:Qjj p n):TCon Tryz.prog 19 [(.a (Tup.cells QY p)),(.c TI n)] (QcD (YW p n)):=by
 refine Qj rfl fun hb=>tcg (n:=31) (sg:=Ql5.sg) Qg (TOk.cons Qk5 (TOk.cons QoF TOk.nil)) (by kernel_rfl) (by kernel_rfl) (QQW _ p n ?_)
 have hl_p_0:(p.1).length≤9223372036854775807:=hb.1.1.1
 have hl_p_1:(p.2.1).length≤9223372036854775807:=hb.1.2.1.1
 have hl_p_2:(p.2.2.1).length≤9223372036854775807:=hb.1.2.2.1.1
 have hl_p_3:(p.2.2.2).length≤9223372036854775807:=hb.1.2.2.2.1.1
 have hp':Sz.sz p≤536870912:=hp
 simp only [id,List.drop_zero,List.take_length]
 refine ⟨by unfold QJ;omega,?_⟩
 by_cases h0:0<p.2.1.length
 case neg =>
  refine Qqq (fun r'=>r'=QcD (YW p n)) n _ _ _ _ _ ⟨fun h=>by simp at h;omega,fun _=>R_eq ?_⟩
  unfold YW;rw [if_neg h0]
 have hM:(YW p n)=ZI 0 (min n.toNat 2000) p:=by unfold YW;rw [if_pos h0]
 have key:∀ (rem k:Nat) (q:Qk),k+rem=min n.toNat 2000→q.2.1.length=p.2.1.length→Sz.sz q≤536870912+100*k→ZI k rem q=(YW p n)→QhR (fun r'=>r'=QcD (YW p n)) n (k:Int) q.1 q.2.1 q.2.2.1 q.2.2.2:=by
  intro rem
  induction rem with
  | zero =>
   intro k q h1 h2 h3 he
   refine Qqq (fun r'=>r'=QcD (YW p n)) n _ _ _ _ _ ⟨fun h=>by simp at h;omega,fun _=>R_eq ?_⟩
   exact he
  | succ rem ih =>
   intro k q h1 h2 h3 he
   have hps:=QiG q (Int.tmod (k:Int) (q.2.1.length:Int))
   have hc:(decide ((k:Int)<n)&&decide ((k:Int)<2000)&&decide ((q.2.1.length:Int)>0))=true:=by simp only [Bool.and_eq_true,decide_eq_true_eq];omega
   refine Qqq (fun r'=>r'=QcD (YW p n)) n _ _ _ _ _ ⟨fun _=>?_,fun h=>absurd (hc.symm.trans h) (by simp)⟩
   rw [sc1 (by omega)]
   exact ⟨⟨by omega,by unfold QcX;show Sz.sz q≤_;omega⟩,ih (k+1) (Zz q (Int.tmod (k:Int) (q.2.1.length:Int))) (by omega) (by rw [← h2];exact QGr q _) (by omega) he⟩
 exact key (min n.toNat 2000) 0 p (by omega) rfl (by omega) hM.symm
theorem QOq:Qe Tryz.prog Ql5:=Qh fun x h=>QTo x.1 x.2.1 h
def Qcu (t:QG):TRes:=zra (.a (Tup.cells QK t))
def Qka:TRow:=Qf 25 [(.a QY)] fun x=>(some (QjH x.1),Qcu (Jw x.1))
def Qn0:List TRow:=[Qfe,Qet]
def QDB:TCode :=
 (zsq [(.reg [zbi 15 .lss 14 13]),(.cond 15 .skip (.exit 0)),(.block 1 (zsq [(.reg [zia 16 12 14 QI,zLd 17 16 14,zop 5 (.new 63 (z0s QI)),zst 5 17 14]),(.draw [zfa 18 3 0,zld 19 18 1,zfa 20 5 11,zfa 21 20 0,zld 22 21 1,zca 23 86 [22],zop 24 (.app 19 23 129 [(.sl [TI])]),zfa 25 3 0,zst 25 24 1] [(0,5),(1,5)]),(.reg [zfa 26 3 2,zld 27 26 1,zmv 28 27,.grp 28 false [zfa 29 5 11,zfa 30 29 2,zld 31 30 1] 32 31,zfa 33 3 2,zst 33 32 1]),(.reg [zfa 34 5 11,zfa 35 34 1,zld 36 35 1,zfa 37 3 1,zst 37 36 1])])),(.reg [zbi 38 .add 14 (zki 1),zmv 14 38])])
def Qq2:List (Nat × Md):=[(2,.b [.d,.d,.d]),(3,.b [.o 129,.d,.d]),(12,.one .d),(13,.one .d),(14,.one .d)]
def QyF:TCode :=
 (zsq [(.reg [zLd 39 3 3,zst 2 39 3]),.ret])
def QNw:TCode :=
 (zsq [(.reg [zop 1 (.box 37 0 4),zop 2 (.new 46 (z0s QK))]),(zsq [(.reg [zLd 6 1 4,zca 7 23 [6],zno 8 7]),(.cond 8 (zsq [(.reg [zop 9 (.build (z0s QK) []),zst 2 9 3]),.ret]) .skip)]),(.reg [zop 10 (.build (z0s QK) []),zop 3 (.new 46 (z0s QK)),zst 3 10 3]),(zsq [(.reg [zfa 11 1 1,zld 12 11 1,zle 13 12,zmv 14 (zki 0)]),(.block 0 (.loop Qq2 QDB))]),QyF])
def QDo:List (ARv × Md):=[(.l 2 3 true,.b [.d,.d,.d])]
def QAX:Qb:=TQ 0 0 QDo K
def QOR:Qb:=Qseq (tawp Qn0 0 QyF (QAX K)) (QAX K)
def QOk:Qb:=Qblk 0 (QOR K)
def QjT (p:Qk) (x:Int) (g0:List (List Int)) (g1:Int) (g2:Bool):Prop:=Loop Qn0 0 Qq2 QDB (QOk K) ⟨[(2,(.p 0 0 0)),(3,(.p 2 0 0)),(12,(zcs QI p.2.1)),(13,(zci ((p.2.1).length:Int))),(14,(zci x))],[(0,(.box (Tup.cells QK ([],(0:Int),false)))),(1,(.sl 129 [(.sl [TI])] true g0)),(2,(.box [(.r [(.sl [TI])] 1 0 g0.length),(zci g1),(zcb g2)]))],3⟩
theorem QtD (p:Qk) (x:Int) (g0:List (List Int)) (g1:Int) (g2:Bool) (h :
 (zif (decide (x<((p.2.1).length:Int))) (((0:Int)≤x∧Int.toNat x<(p.2.1).length)∧(((QJ (α:=List (List Int)) ((gtd QT p.2.1 (Int.toNat x)).2.2.2.2.2.2.2.2.2.2.2.1))∧((g0.length=g0.length∨g0.length+(id (α:=List (List Int)) ((gtd QT p.2.1 (Int.toNat x)).2.2.2.2.2.2.2.2.2.2.2.1)).length≤g0.length)∧g0.length+(id (α:=List (List Int)) ((gtd QT p.2.1 (Int.toNat x)).2.2.2.2.2.2.2.2.2.2.2.1)).length≤big))∧(QjT K p (w64 (x+(1:Int))) (List.take (g0.length+(id (α:=List (List Int)) ((gtd QT p.2.1 (Int.toNat x)).2.2.2.2.2.2.2.2.2.2.2.1)).length) ((List.take g0.length g0)++(id (α:=List (List Int)) ((gtd QT p.2.1 (Int.toNat x)).2.2.2.2.2.2.2.2.2.2.2.1)))) ((gtd QT p.2.1 (Int.toNat x)).2.2.2.2.2.2.2.2.2.2.2.2.1) (g2||((gtd QT p.2.1 (Int.toNat x)).2.2.2.2.2.2.2.2.2.2.2.2.2))))) (K (Qcu ((List.take g0.length (List.drop 0 g0)),g1,g2))))):QjT K p x g0 g1 g2 :=
 Loop.of (by kernel_rfl) h
theorem QH7 (p:Qk) (h :
 (zif (!(Ja p)) (K (Qcu ([],(0:Int),false))) (QjT K p 0 ([]:List (List Int)) 0 false))):Hold (tawp Qn0 (0+0) QNw (TQ 0 0 QDo K) (Qd [(.a (Tup.cells QY p))])) :=
 Hold.of (by kernel_rfl) h
theorem QFv (p:Qk) (hp:QjH p):TCon Tryz.prog 25 [(.a (Tup.cells QY p))] (Qcu (Jw p)):=by
 refine Qj rfl fun hb=>tcg (n:=40) (sg:=Qka.sg) Qg (TOk.cons Qlf (TOk.cons Qg1 TOk.nil)) (by kernel_rfl) (by kernel_rfl) (QH7 _ p ?_)
 have hl_p_0:(p.1).length≤9223372036854775807:=hb.1.1.1
 have hl_p_1:(p.2.1).length≤9223372036854775807:=hb.1.2.1.1
 have hl_p_2:(p.2.2.1).length≤9223372036854775807:=hb.1.2.2.1.1
 have hl_p_3:(p.2.2.2).length≤9223372036854775807:=hb.1.2.2.2.1.1
 obtain ⟨hp',hpl⟩:=hp
 have hs:Sz.sz p=Sz.sz p.1+Sz.sz p.2.1+Sz.sz p.2.2.1+Sz.sz p.2.2.2:=Qed p
 have hl:=Qab p.2.1
 refine ⟨fun h=>R_eq ?_,fun h=>?_⟩
 ·unfold Jw;rw [if_neg (by simpa using h)]
 have hM:(Jw p)=((QB p).flatMap QD,(((QB p).map QC).getLast?).getD 0,(QB p).any sSat):=by unfold Jw;rw [if_pos (by simpa using h)]
 refine Zp p.2.1 (fun r k=>∀ (g0:List (List Int)) (g1:Int) (g2:Bool),g0.length+Sz.sz r≤Sz.sz p.2.1→(g0++r.flatMap QD,((r.map QC).getLast?).getD g1,g2||r.any sSat)=(Jw p)→QjT (fun r'=>r'=Qcu (Jw p)) p (k:Int) g0 g1 g2) ?_ ?_ [] 0 false (by simp) (by rw [hM];simp)
 ·intro g0 g1 g2 hz he
  refine QtD (fun r'=>r'=Qcu (Jw p)) p _ _ _ _ ⟨fun h=>by simp at h,fun _=>R_eq ?_⟩
  rw [← he,QcY];simp
 ·intro k x r hk hlt hg ih g0 g1 g2 hz he
  have hx:=Yw x
  have hxr:=Qab (QD x)
  simp only [Jv] at hz
  refine QtD (fun r'=>r'=Qcu (Jw p)) p _ _ _ _ ⟨fun _=>?_,fun h=>by simp at h;omega⟩
  rw [Int.toNat_natCast,hg,sc1 (by omega)]
  simp only [id]
  rw [QvO]
  refine ⟨⟨by omega,hlt⟩,⟨by unfold QJ;((try simp only [sPc,QH,sOps,Qx,QE,Qm,QL,sX,sY,sG,sD,QD,QC,sSat,QM,QB,Qz,QA] at *);omega),by simp [Zu];((try simp only [sPc,QH,sOps,Qx,QE,Qm,QL,sX,sY,sG,sD,QD,QC,sSat,QM,QB,Qz,QA] at *);omega)⟩,ih _ _ _ (by simp only [List.length_append];((try simp only [sPc,QH,sOps,Qx,QE,Qm,QL,sX,sY,sG,sD,QD,QC,sSat,QM,QB,Qz,QA] at *);omega)) ?_⟩
  rw [← he]
  refine Prod.ext (by simp) (Prod.ext ?_ (by simp [Bool.or_assoc]))
  show (((r.map QC).getLast?).getD (QC x))=((((x::r).map QC).getLast?).getD g1)
  cases r with
  | nil=>rfl
  | cons y r=>simp [List.getLast?_cons_cons,List.getLast?_cons]
theorem QsC:Qe Tryz.prog Qka:=Qh fun x h=>QFv x.1 h
def Qbj (t:QG × Int):TRes:=zra (.tp [(.a (Tup.cells QK t.1)),(zci t.2)])
def Qpc:TRow:=Qf 21 [(.a QV),(.c (.sl Qw))] fun x=>(none,Qbj (JH x.1 x.2.1))
def QpX:List TRow:=[Qi0,QgI,Qfe,Qgr,Qka]
def Qy0:TCode :=
 (zsq [(zsq [(.reg [zmv 19 8,zbi 20 .lss 19 (zki 2000),zmv 21 20,.grp 21 true [zLd 22 7 4,zca 23 23 [22],zno 24 23] 25 24]),(.cond 25 .skip (.exit 0))]),(.block 1 (.draw [zLd 28 7 4,zmv 29 8,zfa 30 7 1,zld 31 30 1,zle 32 31,zbi 33 .rem 29 32,zca 34 33 [28,33],zst 7 34 4] [])),(.reg [zmv 26 8,zbi 27 .add 26 (zki 1),zmv 8 27])])
def QCI:List (Nat × Md):=[(4,.b [.d,.d,.d]),(7,.b (zds 4)),(8,.one .d)]
def Qsh:TCode :=
 (zsq [(.reg [zLd 35 7 4,zca 36 25 [35],zst 4 36 3,zmv 5 (zki 0)]),.ret])
def QV6:TCode :=
 (zsq [(.reg [zop 2 (.box 30 0 6),zop 4 (.new 46 (z0s QK)),zmv 5 (zki 0)]),(.reg [zLd 9 2 6,zmv 10 1,zca 11 56 [9,10],zmv 6 11]),(zsq [(.reg [zmv 12 6,zbi 13 .neq 12 (zki 0)]),(.cond 13 (zsq [(.reg [zop 14 (.build (z0s QK) []),zmv 15 6,zst 4 14 3,zmv 5 15]),.ret]) .skip)]),(.reg [zLd 16 2 6,zmv 17 1,zca 18 15 [16,17],zop 7 (.new 37 (z0s QY)),zst 7 18 4]),(zsq [(.reg [zmv 8 (zki 0)]),(.block 0 (.loop QCI Qy0))]),Qsh])
def QuP:List (ARv × Md):=[(.l 4 3 true,.b [.d,.d,.d]),(.t 5,.one .d)]
def QDn:Qb:=TQ 0 0 QuP K
def QPh:Qb:=Qseq (tawp QpX 0 Qsh (QDn K)) (QDn K)
def QOv:Qb:=Qblk 0 (QPh K)
def Qgk (i:Int) (p0:List Qi) (p1:List Qc) (p2:List Qn) (p3:List Qn):Prop:=Loop QpX 0 QCI Qy0 (QOv K) ⟨[(4,(.p 0 0 0)),(7,(.p 1 0 0)),(8,(zci i))],[(0,(.box (Tup.cells QK ([],(0:Int),false)))),(1,(.box (Tup.cells QY (p0,p1,p2,p3))))],2⟩
theorem QlT (i:Int) (p0:List Qi) (p1:List Qc) (p2:List Qn) (p3:List Qn) (h :
 (zif ((decide (i<(2000:Int)))&&(!(Ja (p0,p1,p2,p3)))) (((¬ ((p1.length:Int):Int)=0)∧(QcX (p0,p1,p2,p3) (Int.tmod i (p1.length:Int))))∧(Qgk K (w64 (i+(1:Int))) ((Zz (p0,p1,p2,p3) (Int.tmod i (p1.length:Int))).1) ((Zz (p0,p1,p2,p3) (Int.tmod i (p1.length:Int))).2.1) ((Zz (p0,p1,p2,p3) (Int.tmod i (p1.length:Int))).2.2.1) ((Zz (p0,p1,p2,p3) (Int.tmod i (p1.length:Int))).2.2.2))) ((QjH (p0,p1,p2,p3))∧K (Qbj ((Jw (p0,p1,p2,p3)),(0:Int)))))):Qgk K i p0 p1 p2 p3 :=
 Loop.of (by kernel_rfl) h
theorem QKf (c:Qo) (b:List Qi) (h :
 (zif ((Zt c b) != (0:Int)) (K (Qbj (([],(0:Int),false),(Zt c b)))) (Qgk K 0 ((Zi c b).1) ((Zi c b).2.1) ((Zi c b).2.2.1) ((Zi c b).2.2.2)))):Hold (tawp QpX (0+0) QV6 (TQ 0 0 QuP K) (Qd [(.a (Tup.cells QV c)),(.c (.sl Qw) b)])) :=
 Hold.of (by kernel_rfl) h
theorem QE5 (c:Qo) (b:List Qi):TCon Tryz.prog 21 [(.a (Tup.cells QV c)),(.c (.sl Qw) b)] (Qbj (JH c b)):=by
 refine Qj rfl fun hb=>tcg (n:=37) (sg:=Qpc.sg) Qg (TOk.cons QCd (TOk.cons Qxk (TOk.cons Qlf (TOk.cons QoF (TOk.cons QsC TOk.nil))))) (by kernel_rfl) (by kernel_rfl) (QKf _ c b ?_)
 have hl_c_0:(c.1).length≤9223372036854775807:=hb.1.1.1
 have hl_c_1:(c.2.1).length≤9223372036854775807:=hb.1.2.1.1
 have hl_c_3:(c.2.2.2.1).length≤9223372036854775807:=hb.1.2.2.2.1.1
 have hl_c_4:(c.2.2.2.2.1).length≤9223372036854775807:=hb.1.2.2.2.2.1.1
 have hl_c_5:(c.2.2.2.2.2).length≤9223372036854775807:=hb.1.2.2.2.2.2.1.1
 have hl_b:b.length≤9223372036854775807:=hb.2.1.1
 refine ⟨fun h=>R_eq ?_,fun h=>?_⟩
 ·unfold JH;rw [if_neg (by simpa using h)]
 have h0:Zt c b=0:=by simpa using h
 have A:=QhL h0
 have hM:(JH c b)=(Yu (Q6 c) b,0):=by unfold JH;rw [if_pos h0,h0]
 have hnew:=Qtb A
 have V0:=QrA A
 have hsz:=Qw9 c b
 have hns:=JV A
 have hat:∀ k:Nat,∃ ks,Ok c b ks∧ZI 0 k (Zi c b)=QW c b ks:=by
  intro k
  obtain ⟨ks,h1,h2,_⟩:=QdT A k 0 V0
  exact ⟨ks,h1,by rw [hnew,h2]⟩
 have hsn:∀ k:Nat,ZI 0 (k+1) (Zi c b)=Zz (ZI 0 k (Zi c b)) (Int.tmod (k:Int) (ZI 0 k (Zi c b)).2.1.length):=by
  intro k
  rw [QoB k 0 1,Nat.zero_add];rfl
 have hres:∀ q:Qk,(∃ ks,Ok c b ks∧q=QW c b ks)→Ja q=true→Jw q=Yu (Q6 c) b:=by
  rintro q ⟨ks,hok,rfl⟩ hd
  rw [QiF A hok,decide_eq_true_eq] at hd
  rw [QyI A hok hd]
  exact QxP A
 obtain ⟨N,hN⟩:∃ N:Nat,N=2000:=⟨_,rfl⟩
 have hdone:Ja (ZI 0 N (Zi c b))=true:=by
  have hL:=QoW A (ks:=fun _=>0)
  have hmul:nSt c*left c b (fun _=>0)≤4*144:=Nat.mul_le_mul hns.2 hL
  obtain ⟨ks,h1,h2,h3⟩:=Qk1 A (left c b (fun _=>0)) N 0 V0 (Nat.le_refl _) (by omega)
  rw [hnew,h2,QiF A h1,h3];rfl
 have hlim:∀ k:Nat,k≤N→Sz.sz (ZI 0 k (Zi c b))≤1000000:=by
  intro k hk
  have:=Qlj k 0 (Zi c b)
  omega
 have hpl:∀ k:Nat,Qjv (ZI 0 k (Zi c b)):=by
  intro k
  obtain ⟨ks,h1,h2⟩:=hat k
  rw [h2];exact Quk A h1
 have hlen:∀ k:Nat,(ZI 0 k (Zi c b)).2.1.length=nSt c:=by
  intro k
  obtain ⟨ks,_,h2⟩:=hat k
  rw [h2];exact QaF ks
 have key:Qgk (fun r'=>r'=Qbj (JH c b)) ((0:Nat):Int) ((ZI 0 0 (Zi c b)).1) ((ZI 0 0 (Zi c b)).2.1) ((ZI 0 0 (Zi c b)).2.2.1) ((ZI 0 0 (Zi c b)).2.2.2):=by
  refine Jb N (fun k=>Qgk (fun r'=>r'=Qbj (JH c b)) (k:Int) ((ZI 0 k (Zi c b)).1) ((ZI 0 k (Zi c b)).2.1) ((ZI 0 k (Zi c b)).2.2.1) ((ZI 0 k (Zi c b)).2.2.2)) ?_ ?_
  ·have h1:=hlim N (Nat.le_refl _)
   have h2:=hres _ (hat N) hdone
   have h4:=hpl N
   generalize ZI 0 N (Zi c b)=q at h1 h2 h4
   refine QlT (fun r'=>r'=Qbj (JH c b)) _ _ _ _ _ ⟨fun h=>by simp at h;omega,fun _=>⟨⟨show Sz.sz q≤_ by omega,h4⟩,R_eq ?_⟩⟩
   rw [hM]
   exact Prod.ext h2 rfl
  ·intro k hk ih
   have h1:=hlim k (by omega)
   have h2:=hres _ (hat k)
   have h3:=hlen k
   have h4:=hpl k
   rw [hsn] at ih
   generalize ZI 0 k (Zi c b)=q at h1 h2 h3 h4 ih
   by_cases hd:Ja q=true
   ·refine QlT (fun r'=>r'=Qbj (JH c b)) _ _ _ _ _ ⟨fun h=>?_,fun _=>⟨⟨show Sz.sz q≤_ by omega,h4⟩,R_eq ?_⟩⟩
    ·have h:(decide ((k:Int)<2000)&&!Ja q)=true:=h
     rw [hd] at h;simp at h
    ·rw [hM]
     exact Prod.ext (h2 hd) rfl
   ·have hd:Ja q=false:=by simpa using hd
    refine QlT (fun r'=>r'=Qbj (JH c b)) _ _ _ _ _ ⟨fun _=>⟨⟨by omega,show Sz.sz q≤_ by omega⟩,?_⟩,fun h=>?_⟩
    ·rw [sc1 (by omega)]
     exact ih
    ·have h:(decide ((k:Int)<2000)&&!Ja q)=false:=h
     rw [hd] at h;simp at h;omega
 exact key
theorem QEN:Qe Tryz.prog Qpc:=Qh fun x _=>QE5 x.1 x.2.1
end
end Go.Proofs.YtjbdljkhbglnhaaGreat.Am

