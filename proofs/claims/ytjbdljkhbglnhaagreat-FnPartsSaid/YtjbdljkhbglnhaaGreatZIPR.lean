/- -/
import Derived.Test.YtjbdljkhbglnhaaGreatZIPQ
import Derived.Test.YtjbdljkhbglnhaaGreatZIP7
import Derived.Test.YtjbdljkhbglnhaaGreatZIG8
import Derived.Test.YtjbdljkhbglnhaaGreatZIPJ
import Derived.Test.YtjbdljkhbglnhaaGreatZIPA
import Derived.Test.YtjbdljkhbglnhaaGreatZIGE
namespace Go.Proofs.YtjbdljkhbglnhaaGreat.Am
open Go Go.RowKit Go.Proofs.YtjbdljkhbglnhaaGreat
set_option linter.all false
set_option maxHeartbeats 2000000
noncomputable section
variable (K:TRes→Prop)
def Ql1 (t:(List Int)):TRes:=zra (zcs [TI] t)
def Qpz:TRow:=Qk 80 [(.c (.sl [TI]))] fun x=>(none,Ql1 (Js x.1))
def QJc:List TRow:=[]
def QV8:TCode :=
 (zsq [(.reg [zmv 2 (.k (.n [TI]))]),(.reg [zmv 3 0,zmv 4 0,zle 5 4,zop 6 (.mm false 5 (zki 2000)),zop 7 (.slc 3 none (some 6) [TI]),zmv 2 7]),.ret])
def QW5:List (ARv × Md):=[(.t 2,.one .d)]
theorem QPg (picks:List Int) (h :
 (((0:Int)≤(0:Int)∧(0:Int)≤(if (2000:Int)<(picks.length:Int) then (2000:Int) else (picks.length:Int))∧(if (2000:Int)<(picks.length:Int) then (2000:Int) else (picks.length:Int))≤(picks.length:Int))∧K (Ql1 (List.take (Int.toNat (if (2000:Int)<(picks.length:Int) then (2000:Int) else (picks.length:Int))-Int.toNat (0:Int)) (List.drop (Int.toNat (0:Int)) picks))))):Hold (tawp QJc (0+0) QV8 (TQ 0 0 QW5 K) (Qi [(.c (.sl [TI]) picks)])) :=
 Hold.of (by kernel_rfl) h
theorem QMA (picks:List Int):TCon Tryz.prog 80 [(.c (.sl [TI]) picks)] (Ql1 (Js picks)):=by
 refine Qo rfl fun hb=>tcg (n:=8) (sg:=Qpz.sg) Qm TOk.nil (by kernel_rfl) (by kernel_rfl) (QPg _ picks ?_)
 have hl_picks:picks.length≤9223372036854775807:=hb.1.1
 refine ⟨⟨by omega,by split <;> omega,by split <;> omega⟩,R_eq ?_⟩
 simp only [show Int.toNat (0:Int)=0 from rfl,Nat.sub_zero,List.drop_zero]
 unfold Js
 split
 ·rfl
 ·rw [Int.toNat_natCast,List.take_length,List.take_of_length_le (by omega)]
theorem QRN:Ql Tryz.prog Qpz:=Qn fun x _=>QMA x.1
def QdU (t:Qe):TRes:=zra (.a (Tup.cells QE t))
def QpU:TRow:=Qk 17 [(.a QE),(.c (.sl [TI]))] fun x=>(some (JG x.1 x.2.1),QdU (YI x.1 x.2.1))
def Qlq:List TRow:=[Qhu,Qpz,QnO]
def Qz8:TCode :=
 (zsq [(.reg [zbi 13 .lss 12 11]),(.cond 13 .skip (.exit 0)),(.block 1 (zsq [(.reg [zia 14 10 12 [TI],zld 15 14 1,zmv 6 15]),(.reg [zLd 16 2 4,zmv 17 6,zca 18 33 [16,17],zst 2 18 4])])),(.reg [zbi 19 .add 12 (zki 1),zmv 12 19])])
def QrO:List (Nat × Md):=[(2,.b (zds 4)),(4,.b (zds 4)),(10,.one .d),(11,.one .d),(12,.one .d)]
def Qti:TCode :=
 (zsq [(.reg [zLd 20 2 4,zst 4 20 4]),.ret])
def QLj:TCode :=
 (zsq [(.reg [zop 2 (.box 37 0 4),zop 4 (.new 37 (z0s QE))]),(.reg [zLd 7 2 4,zca 8 79 [7],zst 2 8 4]),(zsq [(.reg [zmv 9 1,zca 10 80 [9],zle 11 10,zmv 12 (zki 0)]),(.block 0 (.loop QrO Qz8))]),Qti])
def QAW:List (ARv × Md):=[(.l 4 4 true,.b (zds 4))]
def QAL:Qb:=TQ 0 0 QAW K
def QWx:Qb:=Qseq (tawp Qlq 0 Qti (QAL K)) (QAL K)
def QG3:Qb:=Qblk 0 (QWx K)
def QgH (picks:List Int) (x:Int) (p0:List Qy) (p1:List Qc) (p2:List Qd) (p3:List Qd):Prop:=Loop Qlq 0 QrO Qz8 (QG3 K) ⟨[(2,(.p 0 0 0)),(4,(.p 1 0 0)),(10,(zcs [TI] (Js picks))),(11,(zci ((Js picks).length:Int))),(12,(zci x))],[(0,(.box (Tup.cells QE (p0,p1,p2,p3)))),(1,(.box (Tup.cells QE ([],[],[],[]))))],2⟩
theorem Qus (picks:List Int) (x:Int) (p0:List Qy) (p1:List Qc) (p2:List Qd) (p3:List Qd) (h :
 (zif (decide (x<((Js picks).length:Int))) (((0:Int)≤x∧Int.toNat x<(Js picks).length)∧((Qbm (p0,p1,p2,p3) (gtd (0:Int) (Js picks) (Int.toNat x)))∧(QgH K picks (w64 (x+(1:Int))) ((Zu (p0,p1,p2,p3) (gtd (0:Int) (Js picks) (Int.toNat x))).1) ((Zu (p0,p1,p2,p3) (gtd (0:Int) (Js picks) (Int.toNat x))).2.1) ((Zu (p0,p1,p2,p3) (gtd (0:Int) (Js picks) (Int.toNat x))).2.2.1) ((Zu (p0,p1,p2,p3) (gtd (0:Int) (Js picks) (Int.toNat x))).2.2.2)))) (K (QdU (p0,p1,p2,p3))))):QgH K picks x p0 p1 p2 p3 :=
 Loop.of (by kernel_rfl) h
theorem QGi (p:Qe) (picks:List Int) (h :
 ((Qx (α:=Qe) p)∧(QgH K picks 0 ((id (α:=Qe) p).1) (List.take (((id (α:=Qe) p).2.1).length) (List.drop 0 ((id (α:=Qe) p).2.1))) (List.take (((id (α:=Qe) p).2.2.1).length) (List.drop 0 ((id (α:=Qe) p).2.2.1))) (List.take (((id (α:=Qe) p).2.2.2).length) (List.drop 0 ((id (α:=Qe) p).2.2.2)))))):Hold (tawp Qlq (0+0) QLj (TQ 0 0 QAW K) (Qi [(.a (Tup.cells QE p)),(.c (.sl [TI]) picks)])) :=
 Hold.of (by kernel_rfl) h
theorem QXa (p:Qe) (picks:List Int) (hp:JG p picks):TCon Tryz.prog 17 [(.a (Tup.cells QE p)),(.c (.sl [TI]) picks)] (QdU (YI p picks)):=by
 refine Qo rfl fun hb=>tcg (n:=21) (sg:=QpU.sg) Qm (TOk.cons QtV (TOk.cons QRN (TOk.cons QIE TOk.nil))) (by kernel_rfl) (by kernel_rfl) (QGi _ p picks ?_)
 have hl_p_0:(p.1).length≤9223372036854775807:=hb.1.1.1
 have hl_p_1:(p.2.1).length≤9223372036854775807:=hb.1.2.1.1
 have hl_p_2:(p.2.2.1).length≤9223372036854775807:=hb.1.2.2.1.1
 have hl_p_3:(p.2.2.2).length≤9223372036854775807:=hb.1.2.2.2.1.1
 have hl_picks:picks.length≤9223372036854775807:=hb.2.1.1
 have hp':Sz.sz p≤536870912:=hp
 simp only [id,List.drop_zero,List.take_length]
 refine ⟨by unfold Qx;omega,?_⟩
 have hfl:(Js picks).length≤2000:=by unfold Js;simp;omega
 refine Zj (Js picks) (fun r x=>∀ q:Qe,Sz.sz q≤536870912+100*x→QaI r q=(YI p picks)→QgH (fun r'=>r'=QdU (YI p picks)) picks (x:Int) q.1 q.2.1 q.2.2.1 q.2.2.2) ?_ ?_ p (by omega) rfl
 ·intro q hq he
  refine Qus (fun r'=>r'=QdU (YI p picks)) picks _ _ _ _ _ ⟨fun h=>by simp at h,fun _=>R_eq ?_⟩
  exact he
 ·intro k x r hk hlt hg ih q hq he
  have hps:=QhG q x
  refine Qus (fun r'=>r'=QdU (YI p picks)) picks _ _ _ _ _ ⟨fun _=>?_,fun h=>by simp at h;omega⟩
  rw [Int.toNat_natCast,hg,sc1 (by omega)]
  exact ⟨⟨by omega,hlt⟩,by unfold Qbm;show Sz.sz q≤_;omega,ih (Zu q x) (by omega) he⟩
theorem QWu:Ql Tryz.prog QpU:=Qn fun x h=>QXa x.1 x.2.1 h
def Qed (t:Qe):TRes:=zra (.a (Tup.cells QE t))
def QlA:TRow:=Qk 27 [(.a QE),(.c (.sl [TI]))] fun x=>(some (JG x.1 x.2.1),Qed (YI x.1 x.2.1))
def Qqa:List TRow:=[Qih,Qie]
def Qz5:TCode :=
 (zsq [(zsq [(.reg [zmv 9 6,zmv 10 1,zle 11 10,zbi 12 .lss 9 11,zmv 13 12,.grp 13 true [zmv 14 6,zbi 15 .lss 14 (zki 2000)] 16 15]),(.cond 16 .skip (.exit 0))]),(.block 1 (.draw [zLd 19 5 4,zmv 20 1,zmv 21 6,zia 22 20 21 [TI],zld 23 22 1,zca 24 92 [19,23],zst 5 24 4] [])),(.reg [zmv 17 6,zbi 18 .add 17 (zki 1),zmv 6 18])])
def QxU:List (Nat × Md):=[(1,.one .d),(4,.b (zds 4)),(5,.b (zds 4)),(6,.one .d)]
def Qsx:TCode :=
 (zsq [(.reg [zLd 25 5 4,zst 4 25 4]),.ret])
def QRc:TCode :=
 (zsq [(.reg [zop 2 (.box 37 0 4),zop 4 (.new 37 (z0s QE))]),(.reg [zLd 7 2 4,zca 8 91 [7],zop 5 (.new 37 (z0s QE)),zst 5 8 4]),(zsq [(.reg [zmv 6 (zki 0)]),(.block 0 (.loop QxU Qz5))]),Qsx])
def Qyn:List (ARv × Md):=[(.l 4 4 true,.b (zds 4))]
def QzH:Qb:=TQ 0 0 Qyn K
def QSZ:Qb:=Qseq (tawp Qqa 0 Qsx (QzH K)) (QzH K)
def QHr:Qb:=Qblk 0 (QSZ K)
def QiR (picks:List Int) (i:Int) (x0:List Qy) (x1:List Qc) (x2:List Qd) (x3:List Qd):Prop:=Loop Qqa 0 QxU Qz5 (QHr K) ⟨[(1,(zcs [TI] picks)),(4,(.p 0 0 0)),(5,(.p 1 0 0)),(6,(zci i))],[(0,(.box (Tup.cells QE ([],[],[],[])))),(1,(.box (Tup.cells QE (x0,x1,x2,x3))))],2⟩
theorem QwF (picks:List Int) (i:Int) (x0:List Qy) (x1:List Qc) (x2:List Qd) (x3:List Qd) (h :
 (zif ((decide (i<(picks.length:Int)))&&(decide (i<(2000:Int)))) ((((0:Int)≤i∧Int.toNat i<picks.length)∧(Qbm (x0,x1,x2,x3) (gtd (0:Int) picks (Int.toNat i))))∧(QiR K picks (w64 (i+(1:Int))) ((Zu (x0,x1,x2,x3) (gtd (0:Int) picks (Int.toNat i))).1) (List.take (((Zu (x0,x1,x2,x3) (gtd (0:Int) picks (Int.toNat i))).2.1).length) (List.drop 0 ((Zu (x0,x1,x2,x3) (gtd (0:Int) picks (Int.toNat i))).2.1))) (List.take (((Zu (x0,x1,x2,x3) (gtd (0:Int) picks (Int.toNat i))).2.2.1).length) (List.drop 0 ((Zu (x0,x1,x2,x3) (gtd (0:Int) picks (Int.toNat i))).2.2.1))) ((Zu (x0,x1,x2,x3) (gtd (0:Int) picks (Int.toNat i))).2.2.2))) (K (Qed (x0,x1,x2,x3))))):QiR K picks i x0 x1 x2 x3 :=
 Loop.of (by kernel_rfl) h
theorem QQI (p:Qe) (picks:List Int) (h :
 ((Qx (α:=Qe) p)∧(QiR K picks 0 ((id (α:=Qe) p).1) (List.take (((id (α:=Qe) p).2.1).length) (List.drop 0 ((id (α:=Qe) p).2.1))) (List.take (((id (α:=Qe) p).2.2.1).length) (List.drop 0 ((id (α:=Qe) p).2.2.1))) (List.take (((id (α:=Qe) p).2.2.2).length) (List.drop 0 ((id (α:=Qe) p).2.2.2)))))):Hold (tawp Qqa (0+0) QRc (TQ 0 0 Qyn K) (Qi [(.a (Tup.cells QE p)),(.c (.sl [TI]) picks)])) :=
 Hold.of (by kernel_rfl) h
theorem QSO (p:Qe) (picks:List Int) (hp:JG p picks):TCon Tryz.prog 27 [(.a (Tup.cells QE p)),(.c (.sl [TI]) picks)] (Qed (YI p picks)):=by
 refine Qo rfl fun hb=>tcg (n:=26) (sg:=QlA.sg) Qm (TOk.cons QqW (TOk.cons Qub TOk.nil)) (by kernel_rfl) (by kernel_rfl) (QQI _ p picks ?_)
 have hl_p_0:(p.1).length≤9223372036854775807:=hb.1.1.1
 have hl_p_1:(p.2.1).length≤9223372036854775807:=hb.1.2.1.1
 have hl_p_2:(p.2.2.1).length≤9223372036854775807:=hb.1.2.2.1.1
 have hl_p_3:(p.2.2.2).length≤9223372036854775807:=hb.1.2.2.2.1.1
 have hl_picks:picks.length≤9223372036854775807:=hb.2.1.1
 have hp':Sz.sz p≤536870912:=hp
 simp only [id,List.drop_zero,List.take_length]
 refine ⟨by unfold Qx;omega,?_⟩
 have hfl:(picks.take 2000).length≤2000:=by simp;omega
 refine Zj (picks.take 2000) (fun r x=>∀ q:Qe,Sz.sz q≤536870912+100*x→QaI r q=(YI p picks)→QiR (fun r'=>r'=Qed (YI p picks)) picks (x:Int) q.1 q.2.1 q.2.2.1 q.2.2.2) ?_ ?_ p (by omega) rfl
 ·intro q hq he
  refine QwF (fun r'=>r'=Qed (YI p picks)) picks _ _ _ _ _ ⟨fun h=>by simp at h;omega,fun _=>R_eq ?_⟩
  exact he
 ·intro k x r hk hlt hg ih q hq he
  have hps:=QhG q x
  have hlt2:k<2000∧k<picks.length:=by simp at hlt;omega
  have hg2:gtd 0 picks k=x:=by rw [← QNt hlt2.1];exact hg 0
  refine QwF (fun r'=>r'=Qed (YI p picks)) picks _ _ _ _ _ ⟨fun _=>?_,fun h=>by simp at h;omega⟩
  rw [Int.toNat_natCast,hg2,sc1 (by omega)]
  try simp only [QaA]
  exact ⟨⟨⟨by omega,hlt2.2⟩,by unfold Qbm;show Sz.sz q≤_;omega⟩,ih (Zu q x) (by omega) he⟩
theorem QFR:Ql Tryz.prog QlA:=Qn fun x h=>QSO x.1 x.2.1 h
end
end Go.Proofs.YtjbdljkhbglnhaaGreat.Am

