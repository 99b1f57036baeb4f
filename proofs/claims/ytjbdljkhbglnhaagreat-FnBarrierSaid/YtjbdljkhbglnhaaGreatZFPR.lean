/- -/
import Derived.Test.YtjbdljkhbglnhaaGreatZFPQ
import Derived.Test.YtjbdljkhbglnhaaGreatZFP7
import Derived.Test.YtjbdljkhbglnhaaGreatZFG8
import Derived.Test.YtjbdljkhbglnhaaGreatZFPJ
import Derived.Test.YtjbdljkhbglnhaaGreatZFPA
import Derived.Test.YtjbdljkhbglnhaaGreatZFGE
namespace Go.Proofs.YtjbdljkhbglnhaaGreat.Am
open Go Go.RowKit Go.Proofs.YtjbdljkhbglnhaaGreat
set_option linter.all false
set_option maxHeartbeats 2000000
noncomputable section
variable (K:TRes→Prop)
def QcV (t:Qe):TRes:=zra (.a (Tup.cells QE t))
def Qn4:TRow:=Qh 19 [(.a QE),(.c TI)] fun x=>(some (QbJ x.1 x.2.1),QcV (ZP x.1 x.2.1))
def Qpa:List TRow:=[QkW,QhL]
def Qxf:TCode :=
 (zsq [(zsq [(.reg [zmv 8 5,zmv 9 1,zbi 10 .lss 8 9,zmv 11 10,.grp 11 true [zmv 12 5,zbi 13 .lss 12 (zki 2000)] 14 13,zmv 15 14,.grp 15 true [zfa 16 2 1,zld 17 16 1,zle 18 17,zbi 19 .gtr 18 (zki 0)] 20 19]),(.cond 20 .skip (.exit 0))]),(.block 1 (.draw [zLd 23 2 4,zmv 24 5,zfa 25 2 1,zld 26 25 1,zle 27 26,zbi 28 .rem 24 27,zca 29 33 [23,28],zst 2 29 4] [])),(.reg [zmv 21 5,zbi 22 .add 21 (zki 1),zmv 5 22])])
def QvK:List (Nat × Md):=[(1,.one .d),(2,.b (zds 4)),(4,.b (zds 4)),(5,.one .d)]
def Qxv:TCode :=
 (zsq [(.reg [zLd 30 2 4,zst 4 30 4]),.ret])
def Q0v:TCode :=
 (zsq [(.reg [zop 2 (.box 37 0 4),zop 4 (.new 37 (z0s QE))]),(.reg [zLd 6 2 4,zca 7 79 [6],zst 2 7 4]),(zsq [(.reg [zmv 5 (zki 0)]),(.block 0 (.loop QvK Qxf))]),Qxv])
def QFL:List (ARv × Md):=[(.l 4 4 true,.b (zds 4))]
def QDh:Qb:=TQ 0 0 QFL K
def QYa:Qb:=Qseq (tawp Qpa 0 Qxv (QDh K)) (QDh K)
def QSV:Qb:=Qblk 0 (QYa K)
def QkY (n:Int) (i:Int) (p0:List Qp) (p1:List Qc) (p2:List Qd) (p3:List Qd):Prop:=Loop Qpa 0 QvK Qxf (QSV K) ⟨[(1,(zci n)),(2,(.p 0 0 0)),(4,(.p 1 0 0)),(5,(zci i))],[(0,(.box (Tup.cells QE (p0,p1,p2,p3)))),(1,(.box (Tup.cells QE ([],[],[],[]))))],2⟩
theorem QnD (n:Int) (i:Int) (p0:List Qp) (p1:List Qc) (p2:List Qd) (p3:List Qd) (h :
 (zif (((decide (i<n))&&(decide (i<(2000:Int))))&&(decide ((p1.length:Int)>(0:Int)))) (((¬ ((p1.length:Int):Int)=0)∧(Qbl (p0,p1,p2,p3) (Int.tmod i (p1.length:Int))))∧(QkY K n (w64 (i+(1:Int))) ((Zl (p0,p1,p2,p3) (Int.tmod i (p1.length:Int))).1) ((Zl (p0,p1,p2,p3) (Int.tmod i (p1.length:Int))).2.1) ((Zl (p0,p1,p2,p3) (Int.tmod i (p1.length:Int))).2.2.1) ((Zl (p0,p1,p2,p3) (Int.tmod i (p1.length:Int))).2.2.2))) (K (QcV (p0,p1,p2,p3))))):QkY K n i p0 p1 p2 p3 :=
 Loop.of (by kernel_rfl) h
theorem QNh (p:Qe) (n:Int) (h :
 ((Qv (α:=Qe) p)∧(QkY K n 0 ((id (α:=Qe) p).1) (List.take (((id (α:=Qe) p).2.1).length) (List.drop 0 ((id (α:=Qe) p).2.1))) (List.take (((id (α:=Qe) p).2.2.1).length) (List.drop 0 ((id (α:=Qe) p).2.2.1))) (List.take (((id (α:=Qe) p).2.2.2).length) (List.drop 0 ((id (α:=Qe) p).2.2.2)))))):Hold (tawp Qpa (0+0) Q0v (TQ 0 0 QFL K) (Qf [(.a (Tup.cells QE p)),(.c TI n)])) :=
 Hold.of (by kernel_rfl) h
theorem QN3 (p:Qe) (n:Int) (hp:QbJ p n):TCon Tryz.prog 19 [(.a (Tup.cells QE p)),(.c TI n)] (QcV (ZP p n)):=by
 refine Qo rfl fun hb=>tcg (n:=31) (sg:=Qn4.sg) Qj (TOk.cons QGa (TOk.cons QD3 TOk.nil)) (by kernel_rfl) (by kernel_rfl) (QNh _ p n ?_)
 have hl_p_0:(p.1).length≤9223372036854775807:=hb.1.1.1
 have hl_p_1:(p.2.1).length≤9223372036854775807:=hb.1.2.1.1
 have hl_p_2:(p.2.2.1).length≤9223372036854775807:=hb.1.2.2.1.1
 have hl_p_3:(p.2.2.2).length≤9223372036854775807:=hb.1.2.2.2.1.1
 have hp':Sz.sz p≤536870912:=hp
 simp only [id,List.drop_zero,List.take_length]
 refine ⟨by unfold Qv;omega,?_⟩
 by_cases h0:0<p.2.1.length
 case neg =>
  refine QnD (fun r'=>r'=QcV (ZP p n)) n _ _ _ _ _ ⟨fun h=>by simp at h;omega,fun _=>R_eq ?_⟩
  unfold ZP;rw [if_neg h0]
 have hM:(ZP p n)=J2 0 (min n.toNat 2000) p:=by unfold ZP;rw [if_pos h0]
 have key:∀ (rem k:Nat) (q:Qe),k+rem=min n.toNat 2000→q.2.1.length=p.2.1.length→Sz.sz q≤536870912+100*k→J2 k rem q=(ZP p n)→QkY (fun r'=>r'=QcV (ZP p n)) n (k:Int) q.1 q.2.1 q.2.2.1 q.2.2.2:=by
  intro rem
  induction rem with
  | zero =>
   intro k q h1 h2 h3 he
   refine QnD (fun r'=>r'=QcV (ZP p n)) n _ _ _ _ _ ⟨fun h=>by simp at h;omega,fun _=>R_eq ?_⟩
   exact he
  | succ rem ih =>
   intro k q h1 h2 h3 he
   have hps:=QjK q (Int.tmod (k:Int) (q.2.1.length:Int))
   have hc:(decide ((k:Int)<n)&&decide ((k:Int)<2000)&&decide ((q.2.1.length:Int)>0))=true:=by simp only [Bool.and_eq_true,decide_eq_true_eq];omega
   refine QnD (fun r'=>r'=QcV (ZP p n)) n _ _ _ _ _ ⟨fun _=>?_,fun h=>absurd (hc.symm.trans h) (by simp)⟩
   rw [sc1 (by omega)]
   exact ⟨⟨by omega,by unfold Qbl;show Sz.sz q≤_;omega⟩,ih (k+1) (Zl q (Int.tmod (k:Int) (q.2.1.length:Int))) (by omega) (by rw [← h2];exact QFt q _) (by omega) he⟩
 exact key (min n.toNat 2000) 0 p (by omega) rfl (by omega) hM.symm
theorem QRV:Qg Tryz.prog Qn4:=Qk fun x h=>QN3 x.1 x.2.1 h
def Qdn (t:Qe):TRes:=zra (.a (Tup.cells QE t))
def QmH:TRow:=Qh 67 [(.a QE),(.c TI)] fun x=>(some (QbJ x.1 x.2.1),Qdn (ZP x.1 x.2.1))
def QoE:List TRow:=[QjT,QmS]
def Qs8:TCode :=
 (zsq [(zsq [(.reg [zmv 9 6,zmv 10 1,zbi 11 .lss 9 10,zmv 12 11,.grp 12 true [zmv 13 6,zbi 14 .lss 13 (zki 2000)] 15 14,zmv 16 15,.grp 16 true [zfa 17 2 1,zld 18 17 1,zle 19 18,zbi 20 .gtr 19 (zki 0)] 21 20]),(.cond 21 .skip (.exit 0))]),(.block 1 (.draw [zLd 24 5 4,zmv 25 6,zfa 26 2 1,zld 27 26 1,zle 28 27,zbi 29 .rem 25 28,zca 30 92 [24,29],zst 5 30 4] [])),(.reg [zmv 22 6,zbi 23 .add 22 (zki 1),zmv 6 23])])
def QF8:List (Nat × Md):=[(1,.one .d),(2,.b (zds 4)),(4,.b (zds 4)),(5,.b (zds 4)),(6,.one .d)]
def QC5:TCode :=
 (zsq [(.reg [zLd 31 5 4,zst 4 31 4]),.ret])
def QLt:TCode :=
 (zsq [(.reg [zop 2 (.box 37 0 4),zop 4 (.new 37 (z0s QE))]),(.reg [zLd 7 2 4,zca 8 91 [7],zop 5 (.new 37 (z0s QE)),zst 5 8 4]),(zsq [(.reg [zmv 6 (zki 0)]),(.block 0 (.loop QF8 Qs8))]),QC5])
def Qyp:List (ARv × Md):=[(.l 4 4 true,.b (zds 4))]
def Qsg:Qb:=TQ 0 0 Qyp K
def QRp:Qb:=Qseq (tawp QoE 0 QC5 (Qsg K)) (Qsg K)
def QOQ:Qb:=Qblk 0 (QRp K)
def Qi4 (p:Qe) (n:Int) (i:Int) (x0:List Qp) (x1:List Qc) (x2:List Qd) (x3:List Qd):Prop:=Loop QoE 0 QF8 Qs8 (QOQ K) ⟨[(1,(zci n)),(2,(.p 0 0 0)),(4,(.p 1 0 0)),(5,(.p 2 0 0)),(6,(zci i))],[(0,(.box (Tup.cells QE p))),(1,(.box (Tup.cells QE ([],[],[],[])))),(2,(.box (Tup.cells QE (x0,x1,x2,x3))))],3⟩
theorem Qmt (p:Qe) (n:Int) (i:Int) (x0:List Qp) (x1:List Qc) (x2:List Qd) (x3:List Qd) (h :
 (zif (((decide (i<n))&&(decide (i<(2000:Int))))&&(decide (((p.2.1).length:Int)>(0:Int)))) (((¬ (((p.2.1).length:Int):Int)=0)∧(Qbl (x0,x1,x2,x3) (Int.tmod i ((p.2.1).length:Int))))∧(Qi4 K p n (w64 (i+(1:Int))) ((Zl (x0,x1,x2,x3) (Int.tmod i ((p.2.1).length:Int))).1) (List.take (((Zl (x0,x1,x2,x3) (Int.tmod i ((p.2.1).length:Int))).2.1).length) (List.drop 0 ((Zl (x0,x1,x2,x3) (Int.tmod i ((p.2.1).length:Int))).2.1))) (List.take (((Zl (x0,x1,x2,x3) (Int.tmod i ((p.2.1).length:Int))).2.2.1).length) (List.drop 0 ((Zl (x0,x1,x2,x3) (Int.tmod i ((p.2.1).length:Int))).2.2.1))) ((Zl (x0,x1,x2,x3) (Int.tmod i ((p.2.1).length:Int))).2.2.2))) (K (Qdn (x0,x1,x2,x3))))):Qi4 K p n i x0 x1 x2 x3 :=
 Loop.of (by kernel_rfl) h
theorem Q2Y (p:Qe) (n:Int) (h :
 ((Qv (α:=Qe) p)∧(Qi4 K p n 0 ((id (α:=Qe) p).1) (List.take (((id (α:=Qe) p).2.1).length) (List.drop 0 ((id (α:=Qe) p).2.1))) (List.take (((id (α:=Qe) p).2.2.1).length) (List.drop 0 ((id (α:=Qe) p).2.2.1))) (List.take (((id (α:=Qe) p).2.2.2).length) (List.drop 0 ((id (α:=Qe) p).2.2.2)))))):Hold (tawp QoE (0+0) QLt (TQ 0 0 Qyp K) (Qf [(.a (Tup.cells QE p)),(.c TI n)])) :=
 Hold.of (by kernel_rfl) h
theorem QW9 (p:Qe) (n:Int) (hp:QbJ p n):TCon Tryz.prog 67 [(.a (Tup.cells QE p)),(.c TI n)] (Qdn (ZP p n)):=by
 refine Qo rfl fun hb=>tcg (n:=32) (sg:=QmH.sg) Qj (TOk.cons Qze (TOk.cons Q14 TOk.nil)) (by kernel_rfl) (by kernel_rfl) (Q2Y _ p n ?_)
 have hl_p_0:(p.1).length≤9223372036854775807:=hb.1.1.1
 have hl_p_1:(p.2.1).length≤9223372036854775807:=hb.1.2.1.1
 have hl_p_2:(p.2.2.1).length≤9223372036854775807:=hb.1.2.2.1.1
 have hl_p_3:(p.2.2.2).length≤9223372036854775807:=hb.1.2.2.2.1.1
 have hp':Sz.sz p≤536870912:=hp
 simp only [id,List.drop_zero,List.take_length]
 refine ⟨by unfold Qv;omega,?_⟩
 by_cases h0:0<p.2.1.length
 case neg =>
  refine Qmt (fun r'=>r'=Qdn (ZP p n)) p n _ _ _ _ _ ⟨fun h=>by simp at h;omega,fun _=>R_eq ?_⟩
  unfold ZP;rw [if_neg h0]
 have hM:(ZP p n)=J2 0 (min n.toNat 2000) p:=by unfold ZP;rw [if_pos h0]
 have key:∀ (rem k:Nat) (q:Qe),k+rem=min n.toNat 2000→q.2.1.length=p.2.1.length→Sz.sz q≤536870912+100*k→J2 k rem q=(ZP p n)→Qi4 (fun r'=>r'=Qdn (ZP p n)) p n (k:Int) q.1 q.2.1 q.2.2.1 q.2.2.2:=by
  intro rem
  induction rem with
  | zero =>
   intro k q h1 h2 h3 he
   refine Qmt (fun r'=>r'=Qdn (ZP p n)) p n _ _ _ _ _ ⟨fun h=>by simp at h;omega,fun _=>R_eq ?_⟩
   exact he
  | succ rem ih =>
   intro k q h1 h2 h3 he
   have hps:=QjK q (Int.tmod (k:Int) (q.2.1.length:Int))
   have hc:(decide ((k:Int)<n)&&decide ((k:Int)<2000)&&decide ((p.2.1.length:Int)>0))=true:=by simp only [Bool.and_eq_true,decide_eq_true_eq];omega
   refine Qmt (fun r'=>r'=Qdn (ZP p n)) p n _ _ _ _ _ ⟨fun _=>?_,fun h=>absurd (hc.symm.trans h) (by simp)⟩
   try simp only [QbP]
   rw [sc1 (by omega),← h2]
   exact ⟨⟨by omega,by unfold Qbl;show Sz.sz q≤_;omega⟩,ih (k+1) (Zl q (Int.tmod (k:Int) (q.2.1.length:Int))) (by omega) (by rw [← h2];exact QFt q _) (by omega) he⟩
 exact key (min n.toNat 2000) 0 p (by omega) rfl (by omega) hM.symm
theorem QPb:Qg Tryz.prog QmH:=Qk fun x h=>QW9 x.1 x.2.1 h
end
end Go.Proofs.YtjbdljkhbglnhaaGreat.Am

