/- -/
import Derived.Test.YtdplaepmjogjjaaGreatVCGB
import Derived.Test.YtdplaepmjogjjaaGreatVCGC
set_option linter.all false
namespace Go.Proofs.YtdplaepmjogjjaaGreat.Am
open Go Sz
def J0 (s:Qc) (_:Int) (_ _:List Int):Prop:=sz s≤2147483648
theorem Qbm (s:Qc):sz s=sz (QE s)+sz (sOps s)+sz (QC s)+sz (QH s)+sz (sX s)+sz (sY s)+sz (sG s)+sz (sD s)+sz (QF s):=by
 simp only [QX,QV,Q5];((try simp only [sPc,QE,sOps,Qs,QA,QC,QH,sX,sY,sG,sD,QF,QB,sSat,QO,QM,QL,QN] at *);omega)
theorem QiB {α:Type} [Sz α] (d:α) (l:List α) (i:Nat):sz (gtd d l i)≤sz l+sz d:=by
 by_cases h:i<l.length
 ·have:=QpM (QEF h d);omega
 ·have:gtd d l i=d:=by simp [gtd,List.getD_eq_getElem?_getD,List.getElem?_eq_none (Nat.le_of_not_lt h)]
  rw [this];omega
theorem vec6 {v:List Int} (h:QD v=true):v.length≤6:=by
 simp only [QD,Bool.and_eq_true,Zk] at h;omega
theorem Qg0 {v:List Int} {n:Int} (h:Qw v n=true):v.length≤6:=by
 simp only [Qw,Bool.and_eq_true] at h;exact vec6 h.1
theorem QlU (f:Int→Int→Int × Bool):∀ (a b:List Int),(vz f a b).1.length≤a.length
 | [],b=>by simp [vz]
 | a::aa,[]=>by simp [vz]
 | a::aa,b::bb=>by simp only [vz,List.length_cons];have:=QlU f aa bb;omega
theorem Qqz (f:Int→Int × Bool):∀ (a:List Int),(v1 f a).1.length≤a.length
 | []=>by simp [v1]
 | a::aa=>by simp only [v1,List.length_cons];have:=Qqz f aa;omega
theorem QDp {a b:List Int} (h:Zg a b=true):a.length≤6:=by
 simp only [Zg,Bool.and_eq_true] at h;exact vec6 h.1
theorem QoS (a b:List Int):(QT a b).1.length≤6:=by
 unfold QT
 split
 ·rename_i h;have:=QlU Q3 a b;have:=QDp h;omega
 ·simp
theorem QGb (c:Int) (a:List Int):(Q9 c a).1.length≤6:=by
 unfold Q9
 split
 ·rename_i h
  simp only [Bool.and_eq_true] at h
  have:=Qqz (Za c) a;have:=vec6 h.2;omega
 ·simp
theorem QzE (a:List Int):(Ze a).length≤6:=by
 unfold Ze
 split
 ·rename_i h;simp;exact vec6 h
 ·simp
theorem QEo (m:TMat) (x:List Int):(QK m x).1.length≤6:=by
 unfold QK
 split
 ·rename_i h
  simp only [Bool.and_eq_true,Zr,Zk] at h
  simp;omega
 ·simp
theorem fwd6 (o:TOp') (x:List Int):(Zm o x).1.length≤6:=by
 unfold Zm
 split
 ·split
  ·exact QEo _ _
  ·split
   ·exact QoS _ _
   ·split
    ·exact QGb _ _
    ·split
     ·exact QoS _ _
     ·exact QzE _
 ·simp
theorem Qfj:∀ (ops:List TOp') (x:List Int),sz (Qq ops x).1≤1+x.length+7*ops.length
 | [],x=>by simp only [Qq,QcY,Z8,List.length_nil];have:sz ([]:List (List Int))=0:=rfl;omega
 | o::r,x=>by
  have h1:=Qfj r (Zm o x).1
  have h2:=fwd6 o x
  simp only [Qq,QcY,Z8,List.length_cons];omega
theorem Qco {s:Qc} (h:QI s=true):QR (sOps s)=true:=by
 simp only [QI,Bool.and_eq_true] at h;exact h.1.1.1.1
theorem Qzr {s:Qc} (h:QI s=true):(sOps s).length≤8:=(YG (Qco h)).2
theorem QGV (s:Qc) (m:Int) (x t:List Int):sz (Qt s m x t)≤sz s+100:=by
 unfold Qt
 split
 ·rename_i h
  simp only [Yb,Bool.and_eq_true] at h
  have h1:=Qzr h.1.1.1
  have h2:=Qg0 h.1.1.2
  have h3:=Qfj (sOps s) x
  have h4:=QiB [] (Qq (sOps s) x).1 (sOps s).length
  have h5:sz (if QA s=true then List.take 1 (Qq (sOps s) x).1 else (Qq (sOps s) x).1)≤sz (Qq (sOps s) x).1:=by
   split
   ·exact Qg8 _ _
   ·exact Nat.le_refl _
  have h6:sz (if Qs s=true then sY s else gtd [] (Qq (sOps s) x).1 (sOps s).length)≤sz (sY s)+sz (gtd [] (Qq (sOps s) x).1 (sOps s).length):=by
   split <;> ((try simp only [sPc,QE,sOps,Qs,QA,QC,QH,sX,sY,sG,sD,QF,QB,sSat,QO,QM,QL,QN] at *);omega)
  have h7:(gtd [] (Qq (sOps s) x).1 (sOps s).length).length≤6:=by
   have:gtd [] (Qq (sOps s) x).1 (sOps s).length=Jl (sOps s) x:=rfl
   rw [this]
   have hv:∀ (ops:List TOp') (x:List Int),x.length≤6→(Jl ops x).length≤6:=by
    intro ops
    induction ops with
    | nil=>intro x hx;rw [QFN];exact hx
    | cons o r ih=>intro x hx;rw [QCD];exact ih _ (fwd6 o x)
   exact hv _ _ h2
  have h8:=Z8 (gtd [] (Qq (sOps s) x).1 (sOps s).length)
  have e:sz ([]:List Int)=0:=rfl
  rw [Qbm,Qbm s]
  have e3:sz ([]:List Qf)=0:=rfl
  simp only [QC,sX,QsG,QcY,QiE,QV,e,e3]
  have e2:sz ([]:List Qf)=0:=rfl
  ((try simp only [sPc,QE,sOps,Qs,QA,QC,QH,sX,sY,sG,sD,QF,QB,sSat,QO,QM,QL,QN] at *);omega)
 ·((try simp only [sPc,QE,sOps,Qs,QA,QC,QH,sX,sY,sG,sD,QF,QB,sSat,QO,QM,QL,QN] at *);omega)
end Go.Proofs.YtdplaepmjogjjaaGreat.Am
namespace Go.Proofs.YtdplaepmjogjjaaGreat.Am
open Go Sz
theorem Qkk (a b:Int):decide (a≥b) = !decide (a<b):=by
 rw [Bool.eq_iff_iff];simp
theorem Qgb {s:Qc} {m:Int} {x t:List Int} (h:¬ Yb s m x t=true):Qt s m x t=s:=by unfold Qt;rw [if_neg h]
theorem QDT {m:Q6} (h:QR m=true):Zn m=(gtd dOp m 0).2.1:=by unfold Zn;rw [if_pos h]
theorem QDX {m:Q6} (h:QR m=true):ZE m=(gtd dOp m (m.length-1)).2.2.1:=by unfold ZE;rw [if_pos h]
theorem Qoq (s:Qc) (m:Int) (x t:List Int):Yb s m x t=(!(((!(QI s))||(!(Qw x (Zn (Zq s)))))||decide (Zs s.2.2.2.2.2.1 m≥0))&&!(s.2.2.2.1&&(!(Qw t (ZE (Zq s)))))):=by
 unfold Yb
 rw [Qkk]
 show (QI s&&Qw x (Zn (Zq s))&&decide (Zs s.2.2.2.2.2.1 m<0)&&(!s.2.2.2.1||Qw t (ZE (Zq s))))=_
 cases QI s <;> cases Qw x (Zn (Zq s)) <;> cases decide (Zs s.2.2.2.2.2.1 m<0) <;> cases s.2.2.2.1 <;> cases Qw t (ZE (Zq s)) <;> rfl
theorem QCR (s:Qc) (m:Int) (x t:List Int) (k:Nat) (hk:QI s=true→k=s.2.2.1.length-1) :
  (((((!(QI s))||(!(QD x)))||((x.length:Int) != ((gtd dOp s.2.2.1 0).2.1)))||decide (Zs s.2.2.2.2.2.1 m≥0))||(s.2.2.2.1&&((!(QD t))||((t.length:Int) != ((gtd dOp s.2.2.1 k).2.2.1))))) = !Yb s m x t:=by
 rw [Qoq,Qkk]
 cases hs:QI s
 ·rfl
 ·have hm:=Qco hs
  rw [hk hs,show Zq s=s.2.2.1 from rfl,QDT hm,QDX hm]
  unfold Qw
  simp only [bne]
  cases QD x <;> cases ((x.length:Int)==(gtd dOp s.2.2.1 0).2.1) <;> cases decide (Zs s.2.2.2.2.2.1 m<0) <;> cases s.2.2.2.1 <;> cases QD t <;> cases ((t.length:Int)==(gtd dOp s.2.2.1 (s.2.2.1.length-1)).2.2.1) <;> rfl
theorem Qo0 {s:Qc} {m:Int} {x t:List Int} (h:Yb s m x t=true):Qt s m x t =
  (sPc s,QE s,sOps s,Qs s,QA s,QC s++[(m,if QA s then (Qq (sOps s) x).1.take 1 else (Qq (sOps s) x).1)],QH s,[],(if Qs s then sY s else gtd [] (Qq (sOps s) x).1 (sOps s).length),sG s,sD s,QF s,
   (if Qs s then (Q3 (QB s) (Zv (gtd [] (Qq (sOps s) x).1 (sOps s).length) t).1).1 else QB s),
   (sSat s||(Qq (sOps s) x).2||(Qs s&&((Zv (gtd [] (Qq (sOps s) x).1 (sOps s).length) t).2||(Q3 (QB s) (Zv (gtd [] (Qq (sOps s) x).1 (sOps s).length) t).1).2)))):=by
 unfold Qt;rw [if_pos h]
end Go.Proofs.YtdplaepmjogjjaaGreat.Am
namespace Go.Proofs.YtdplaepmjogjjaaGreat.Am
open Go Sz
end Go.Proofs.YtdplaepmjogjjaaGreat.Am

