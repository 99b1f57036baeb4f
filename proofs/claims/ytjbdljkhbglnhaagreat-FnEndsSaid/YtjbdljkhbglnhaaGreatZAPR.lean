/- -/
import Derived.Test.YtjbdljkhbglnhaaGreatZAPQ
import Derived.Test.YtjbdljkhbglnhaaGreatZAP7
import Derived.Test.YtjbdljkhbglnhaaGreatZAPB
import Derived.Test.YtjbdljkhbglnhaaGreatZAPJ
import Derived.Test.YtjbdljkhbglnhaaGreatZAPA
import Derived.Test.YtjbdljkhbglnhaaGreatZAGE
namespace Go.Proofs.YtjbdljkhbglnhaaGreat.Am
open Go Go.RowKit Go.Proofs.YtjbdljkhbglnhaaGreat
set_option linter.all false
set_option maxHeartbeats 2000000
noncomputable section
variable (K:TRes→Prop)
def QcA (t:Qd):TRes:=zra (.a (Tup.cells QQ t))
def QmX:TRow:=Qj 19 [(.a QQ),(.c TI)] fun x=>(some (QgQ x.1 x.2.1),QcA (Y6 x.1 x.2.1))
def QlV:List TRow:=[Qg1,Qkz]
def Qpg:TCode :=
 (zsq [(zsq [(.reg [zmv 8 5,zmv 9 1,zbi 10 .lss 8 9,zmv 11 10,.grp 11 true [zmv 12 5,zbi 13 .lss 12 (zki 2000)] 14 13,zmv 15 14,.grp 15 true [zfa 16 2 1,zld 17 16 1,zle 18 17,zbi 19 .gtr 18 (zki 0)] 20 19]),(.cond 20 .skip (.exit 0))]),(.block 1 (.draw [zLd 23 2 4,zmv 24 5,zfa 25 2 1,zld 26 25 1,zle 27 26,zbi 28 .rem 24 27,zca 29 33 [23,28],zst 2 29 4] [])),(.reg [zmv 21 5,zbi 22 .add 21 (zki 1),zmv 5 22])])
def Qqv:List (Nat × Md):=[(1,.one .d),(2,.b (zds 4)),(4,.b (zds 4)),(5,.one .d)]
def QqP:TCode :=
 (zsq [(.reg [zLd 30 2 4,zst 4 30 4]),.ret])
def QOf:TCode :=
 (zsq [(.reg [zop 2 (.box 37 0 4),zop 4 (.new 37 (z0s QQ))]),(.reg [zLd 6 2 4,zca 7 79 [6],zst 2 7 4]),(zsq [(.reg [zmv 5 (zki 0)]),(.block 0 (.loop Qqv Qpg))]),QqP])
def Qxu:List (ARv × Md):=[(.l 4 4 true,.b (zds 4))]
def QrN:Qb:=TQ 0 0 Qxu K
def QEw:Qb:=Qseq (tawp QlV 0 QqP (QrN K)) (QrN K)
def QLH:Qb:=Qblk 0 (QEw K)
def QgD (n:Int) (i:Int) (p0:List Qh) (p1:List Qc) (p2:List Qe) (p3:List Qe):Prop:=Loop QlV 0 Qqv Qpg (QLH K) ⟨[(1,(zci n)),(2,(.p 0 0 0)),(4,(.p 1 0 0)),(5,(zci i))],[(0,(.box (Tup.cells QQ (p0,p1,p2,p3)))),(1,(.box (Tup.cells QQ ([],[],[],[]))))],2⟩
theorem QmQ (n:Int) (i:Int) (p0:List Qh) (p1:List Qc) (p2:List Qe) (p3:List Qe) (h :
 (zif (((decide (i<n))&&(decide (i<(2000:Int))))&&(decide ((p1.length:Int)>(0:Int)))) (((¬ ((p1.length:Int):Int)=0)∧(QiF (p0,p1,p2,p3) (Int.tmod i (p1.length:Int))))∧(QgD K n (w64 (i+(1:Int))) ((Z3 (p0,p1,p2,p3) (Int.tmod i (p1.length:Int))).1) ((Z3 (p0,p1,p2,p3) (Int.tmod i (p1.length:Int))).2.1) ((Z3 (p0,p1,p2,p3) (Int.tmod i (p1.length:Int))).2.2.1) ((Z3 (p0,p1,p2,p3) (Int.tmod i (p1.length:Int))).2.2.2))) (K (QcA (p0,p1,p2,p3))))):QgD K n i p0 p1 p2 p3 :=
 Loop.of (by kernel_rfl) h
theorem QBa (p:Qd) (n:Int) (h :
 ((QE (α:=Qd) p)∧(QgD K n 0 ((id (α:=Qd) p).1) (List.take (((id (α:=Qd) p).2.1).length) (List.drop 0 ((id (α:=Qd) p).2.1))) (List.take (((id (α:=Qd) p).2.2.1).length) (List.drop 0 ((id (α:=Qd) p).2.2.1))) (List.take (((id (α:=Qd) p).2.2.2).length) (List.drop 0 ((id (α:=Qd) p).2.2.2)))))):Hold (tawp QlV (0+0) QOf (TQ 0 0 Qxu K) (Qf [(.a (Tup.cells QQ p)),(.c TI n)])) :=
 Hold.of (by kernel_rfl) h
theorem QLh (p:Qd) (n:Int) (hp:QgQ p n):TCon Tryz.prog 19 [(.a (Tup.cells QQ p)),(.c TI n)] (QcA (Y6 p n)):=by
 refine Qq rfl fun hb=>tcg (n:=31) (sg:=QmX.sg) Ql (TOk.cons Qqi (TOk.cons QIU TOk.nil)) (by kernel_rfl) (by kernel_rfl) (QBa _ p n ?_)
 have hl_p_0:(p.1).length≤9223372036854775807:=hb.1.1.1
 have hl_p_1:(p.2.1).length≤9223372036854775807:=hb.1.2.1.1
 have hl_p_2:(p.2.2.1).length≤9223372036854775807:=hb.1.2.2.1.1
 have hl_p_3:(p.2.2.2).length≤9223372036854775807:=hb.1.2.2.2.1.1
 have hp':Sz.sz p≤536870912:=hp
 simp only [id,List.drop_zero,List.take_length]
 refine ⟨by unfold QE;omega,?_⟩
 by_cases h0:0<p.2.1.length
 case neg =>
  refine QmQ (fun r'=>r'=QcA (Y6 p n)) n _ _ _ _ _ ⟨fun h=>by simp at h;omega,fun _=>R_eq ?_⟩
  unfold Y6;rw [if_neg h0]
 have hM:(Y6 p n)=YY 0 (min n.toNat 2000) p:=by unfold Y6;rw [if_pos h0]
 have key:∀ (rem k:Nat) (q:Qd),k+rem=min n.toNat 2000→q.2.1.length=p.2.1.length→Sz.sz q≤536870912+100*k→YY k rem q=(Y6 p n)→QgD (fun r'=>r'=QcA (Y6 p n)) n (k:Int) q.1 q.2.1 q.2.2.1 q.2.2.2:=by
  intro rem
  induction rem with
  | zero =>
   intro k q h1 h2 h3 he
   refine QmQ (fun r'=>r'=QcA (Y6 p n)) n _ _ _ _ _ ⟨fun h=>by simp at h;omega,fun _=>R_eq ?_⟩
   exact he
  | succ rem ih =>
   intro k q h1 h2 h3 he
   have hps:=Qy0 q (Int.tmod (k:Int) (q.2.1.length:Int))
   have hc:(decide ((k:Int)<n)&&decide ((k:Int)<2000)&&decide ((q.2.1.length:Int)>0))=true:=by simp only [Bool.and_eq_true,decide_eq_true_eq];omega
   refine QmQ (fun r'=>r'=QcA (Y6 p n)) n _ _ _ _ _ ⟨fun _=>?_,fun h=>absurd (hc.symm.trans h) (by simp)⟩
   rw [sc1 (by omega)]
   exact ⟨⟨by omega,by unfold QiF;show Sz.sz q≤_;omega⟩,ih (k+1) (Z3 q (Int.tmod (k:Int) (q.2.1.length:Int))) (by omega) (by rw [← h2];exact QIq q _) (by omega) he⟩
 exact key (min n.toNat 2000) 0 p (by omega) rfl (by omega) hM.symm
theorem QC0:Qi Tryz.prog QmX:=Qm fun x h=>QLh x.1 x.2.1 h
end
end Go.Proofs.YtjbdljkhbglnhaaGreat.Am

