/- -/
import Derived.Test.YtjbdljkhbglnhaaGreatZFGB
import Derived.Test.YtjbdljkhbglnhaaGreatZFGC
set_option linter.all false
namespace Go.Proofs.YtjbdljkhbglnhaaGreat.Am
open Go Sz
def Qd3 (ops:Zh) (plan:List TIns) (_ _:Bool):Prop:=sz ops≤2147483648∧plan.length≤2147483648
def QcB (s:Qc) (_:Int) (_ _:List Int):Prop:=sz s≤2147483648
def Qb1 (s:Qc) (_:Int):Prop:=sz s≤2147483648
def Qb0 (s:Qc) (_:Int) (_:List Int):Prop:=sz s≤2147483648
def Qbl (p:Qe) (_:Int):Prop:=sz p≤1073741824
def QbJ (p:Qe) (_:Int):Prop:=sz p≤536870912
theorem Ym (s:Qc):sz s=sz (QD s)+sz (sOps s)+sz (Ql s)+sz (QH s)+sz (sX s)+sz (sY s)+sz (sG s)+sz (sD s)+sz (QG s):=by
 simp only [ZU,ZK,J7];((try simp only [sPc,QD,sOps,Qu,Qz,Ql,QH,sX,sY,sG,sD,QG,QF,sSat,QL,QJ,QB,QA] at *);omega)
theorem Qch (p:Qe):sz p=sz (QL p)+sz (QJ p)+sz (QB p)+sz (QA p):=by
 simp only [ZU];((try simp only [sPc,QD,sOps,Qu,Qz,Ql,QH,sX,sY,sG,sD,QG,QF,sSat,QL,QJ,QB,QA] at *);omega)
theorem QDl (m:Zh):(ZO m).2=(0,false):=by unfold ZO;split <;> rfl
theorem Qel {α:Type} [Sz α] (d:α) (v:α):∀ (l:List α) (i:Nat),sz (l.set i v)+sz (gtd d l i)≤sz l+sz v+sz d
 | [],i=>by simp [gtd]
 | x::l,0=>by simp only [List.set_cons_zero,JS,QbZ];omega
 | x::l,i+1=>by
  have:=Qel d v l i
  simp only [List.set_cons_succ,JS,Q3o];omega
theorem QbD {α:Type} [Sz α] (d:α) (l:List α) (i:Nat):sz (gtd d l i)≤sz l+sz d:=by
 by_cases h:i<l.length
 ·have:=Qfp (Jh h d);omega
 ·have:gtd d l i=d:=by simp [gtd,List.getD_eq_getElem?_getD,List.getElem?_eq_none (Nat.le_of_not_lt h)]
  rw [this];omega
theorem vec6 {v:List Int} (h:QN v=true):v.length≤6:=by
 simp only [QN,Bool.and_eq_true,QV] at h;omega
theorem Qam {v:List Int} {n:Int} (h:Qt v n=true):v.length≤6:=by
 simp only [Qt,Bool.and_eq_true] at h;exact vec6 h.1
theorem QnP (f:Int→Int→Int × Bool):∀ (a b:List Int),(vz f a b).1.length≤a.length
 | [],b=>by simp [vz]
 | a::aa,[]=>by simp [vz]
 | a::aa,b::bb=>by simp only [vz,List.length_cons];have:=QnP f aa bb;omega
theorem QwL (f:Int→Int × Bool):∀ (a:List Int),(v1 f a).1.length≤a.length
 | []=>by simp [v1]
 | a::aa=>by simp only [v1,List.length_cons];have:=QwL f aa;omega
theorem QxQ {a b:List Int} (h:ZN a b=true):a.length≤6:=by
 simp only [ZN,Bool.and_eq_true] at h;exact vec6 h.1
theorem QlY (a b:List Int):(Zn a b).1.length≤6:=by
 unfold Zn
 split
 ·rename_i h;have:=QnP Q9 a b;have:=QxQ h;omega
 ·simp
theorem Qsy (c:Int) (a:List Int):(ZD c a).1.length≤6:=by
 unfold ZD
 split
 ·rename_i h
  simp only [Bool.and_eq_true] at h
  have:=QwL (Zq c) a;have:=vec6 h.2;omega
 ·simp
theorem QXt (a:List Int):(Yr a).length≤6:=by
 unfold Yr
 split
 ·rename_i h;simp;exact vec6 h
 ·simp
theorem QWw (x d:List Int):(Yv x d).length≤6:=by
 unfold Yv
 split
 ·rename_i h;have:=QxQ h;simp;omega
 ·simp
theorem QWN (m:TMat) (x:List Int):(Zo m x).1.length≤6:=by
 unfold Zo
 split
 ·rename_i h
  simp only [Bool.and_eq_true,ZA,QV] at h
  simp;omega
 ·simp
theorem Q2e (m:TMat) (x:List Int):(Zw m x).1.length≤6:=by
 unfold Zw
 split
 ·rename_i h
  simp only [Bool.and_eq_true,ZA,QV] at h
  simp;omega
 ·simp
theorem fwd6 (o:TOp') (x:List Int):(YJ o x).1.length≤6:=by
 unfold YJ
 split
 ·split
  ·exact QWN _ _
  ·split
   ·exact QlY _ _
   ·split
    ·exact Qsy _ _
    ·split
     ·exact QlY _ _
     ·exact QXt _
 ·simp
theorem bwd6 (o:TOp') (x d:List Int):(Yt o x d).1.length≤6:=by
 unfold Yt
 split
 ·rename_i h
  simp only [Bool.and_eq_true] at h
  split
  ·exact Q2e _ _
  ·split
   ·exact Qam h.2
   ·split
    ·exact Qsy _ _
    ·split
     ·exact QlY _ _
     ·exact QWw _ _
 ·simp
theorem Q1G:∀ (ops:List TOp') (rows:List (List Int)) (d:List Int),(QS ops rows d).2.1.length≤6+d.length
 | [],rows,d=>by simp [QS]
 | o::os,[],d=>by simp [QS]
 | o::os,r::rs,d=>by simp only [QS];have:=bwd6 o r (QS os rs d).2.1;omega
theorem Qe9:∀ (ops:List TOp') (x:List Int),sz (QI ops x).1≤1+x.length+7*ops.length
 | [],x=>by simp only [QI,JS,ZW,List.length_nil];have:sz ([]:List (List Int))=0:=rfl;omega
 | o::r,x=>by
  have h1:=Qe9 r (YJ o x).1
  have h2:=fwd6 o x
  simp only [QI,JS,ZW,List.length_cons];omega
theorem Qxc:∀ (a b:List (List Int)),sz (ZG a b).1≤sz a
 | [],b=>by simp [ZG]
 | a::aa,[]=>by simp only [ZG];exact Nat.zero_le _
 | a::aa,b::bb=>by
  have h1:=Qxc aa bb
  have h2:=QnP Q9 a b
  simp only [ZG,JS,ZW];omega
theorem JE {s:Qc} (h:QU s=true):QT (sOps s)=true:=by
 simp only [QU,Bool.and_eq_true] at h;exact h.1.1.1.1
theorem Qyc {s:Qc} (h:QU s=true):(sOps s).length≤8:=(Yh (JE h)).2
theorem Qyk {s:Qc} (h:QU s=true):0≤sPc s∧sPc s≤(QD s).length:=by
 simp only [QU,Bool.and_eq_true,QV] at h;exact h.1.1.1.2
theorem Qpi {s:Qc} (h:QU s=true):∀ x,x∈Ql s→YV s x=true:=by
 simp only [QU,Bool.and_eq_true,List.all_eq_true] at h;exact h.1.2
theorem Qxz {s:Qc} (h:QU s=true):(QG s).length=(sOps s).length∧Z7 (sOps s) (QG s)=true:=by
 simp only [QU,Bool.and_eq_true,Jk,beq_iff_eq] at h;exact h.1.1.2
theorem QnK {s:Qc} {x:ZI} (h:QU s=true) (hx:YV s x=true):1≤x.2.length∧(x.2.length:Int)=Yc s∧Qt (gtd [] x.2 0) (Za (sOps s))=true:=by
 simp only [YV,Bool.and_eq_true,beq_iff_eq] at hx
 obtain ⟨h1,h2⟩:=hx
 have h3:1≤x.2.length:=by unfold Yc at h1;split at h1 <;> omega
 refine ⟨h3,h1,?_⟩
 unfold Yw at h2
 rw [← h1,Int.toNat_natCast,List.take_length] at h2
 cases hr:x.2 with
 | nil=>rw [hr] at h3;simp at h3
 | cons r rs =>
  rw [hr] at h2
  simp only [Yu,Bool.and_eq_true] at h2
  have hm:=JE h
  have hl:=Yh hm
  have:Jo (sOps s) 0=Za (sOps s):=by
   unfold Jo Za
   rw [if_pos (by omega),if_pos hm]
  rw [QbZ,← this]
  exact h2.1
theorem QER:∀ (l:List ZI) (m k:Int),0≤k→JC l m k<k+l.length∧-1≤JC l m k
 | [],m,k,hk=>by simp only [JC,List.length_nil];omega
 | x::r,m,k,hk=>by
  have:=QER r m (k+1) (by omega)
  simp only [JC,List.length_cons]
  split <;> omega
theorem Qgu (l:List ZI) (m:Int):QO l m<l.length∧-1≤QO l m:=by
 have:=QER l m 0 (Int.le_refl _)
 unfold QO;omega
theorem QL9 (s:Qc) (m:Int) (x t:List Int):sz (Yn s m x t)≤sz s+100:=by
 unfold Yn
 split
 ·rename_i h
  simp only [JG,Bool.and_eq_true] at h
  have h1:=Qyc h.1.1.1
  have h2:=Qam h.1.1.2
  have h3:=Qe9 (sOps s) x
  have h4:=QbD [] (QI (sOps s) x).1 (sOps s).length
  have h5:sz (if Qz s=true then List.take 1 (QI (sOps s) x).1 else (QI (sOps s) x).1)≤sz (QI (sOps s) x).1:=by
   split
   ·exact QiK _ _
   ·exact Nat.le_refl _
  have h6:sz (if Qu s=true then sY s else gtd [] (QI (sOps s) x).1 (sOps s).length)≤sz (sY s)+sz (gtd [] (QI (sOps s) x).1 (sOps s).length):=by
   split <;> ((try simp only [sPc,QD,sOps,Qu,Qz,Ql,QH,sX,sY,sG,sD,QG,QF,sSat,QL,QJ,QB,QA] at *);omega)
  have h7:(gtd [] (QI (sOps s) x).1 (sOps s).length).length≤6:=by
   have:gtd [] (QI (sOps s) x).1 (sOps s).length=Yg (sOps s) x:=rfl
   rw [this]
   have hv:∀ (ops:List TOp') (x:List Int),x.length≤6→(Yg ops x).length≤6:=by
    intro ops
    induction ops with
    | nil=>intro x hx;rw [Qky];exact hx
    | cons o r ih=>intro x hx;rw [Qf6];exact ih _ (fwd6 o x)
   exact hv _ _ h2
  have h8:=ZW (gtd [] (QI (sOps s) x).1 (sOps s).length)
  have e:sz ([]:List Int)=0:=rfl
  rw [Ym,Ym s]
  have e3:sz ([]:List ZI)=0:=rfl
  simp only [Ql,sX,QgC,JS,QaV,ZK,e,e3]
  have e2:sz ([]:List ZI)=0:=rfl
  ((try simp only [sPc,QD,sOps,Qu,Qz,Ql,QH,sX,sY,sG,sD,QG,QF,sSat,QL,QJ,QB,QA] at *);omega)
 ·((try simp only [sPc,QD,sOps,Qu,Qz,Ql,QH,sX,sY,sG,sD,QG,QF,sSat,QL,QJ,QB,QA] at *);omega)
theorem Q1t (s:Qc) (m:Int):sz (Y5 s m)≤sz s+100:=by
 unfold Y5
 simp only
 split
 ·rename_i h
  simp only [Bool.and_eq_true,decide_eq_true_eq] at h
  have h1:=Qyc h.1
  have hf:=Qgu (Ql s) m
  have hk:(QO (Ql s) m).toNat<(Ql s).length:=by ((try simp only [sPc,QD,sOps,Qu,Qz,Ql,QH,sX,sY,sG,sD,QG,QF,sSat,QL,QJ,QB,QA] at *);omega)
  have h2:=Qam (QnK h.1 (Qpi h.1 _ (Jh hk Zu))).2.2
  have h3:=Qe9 (sOps s) (gtd [] (gtd Zu (Ql s) (QO (Ql s) m).toNat).2 0)
  rw [Ym,Ym s]
  ((try simp only [sPc,QD,sOps,Qu,Qz,Ql,QH,sX,sY,sG,sD,QG,QF,sSat,QL,QJ,QB,QA] at *);omega)
 ·((try simp only [sPc,QD,sOps,Qu,Qz,Ql,QH,sX,sY,sG,sD,QG,QF,sSat,QL,QJ,QB,QA] at *);omega)
theorem QNb (s:Qc) (m:Int) (t:List Int):sz (Zz s m t)≤sz s+100:=by
 unfold Zz
 simp only
 split
 ·rename_i h
  simp only [J0,Bool.and_eq_true] at h
  have h1:=Qam h.2
  have h2:=Q1G (sOps s) (Z6 s (QO (Ql s) m)) (bwdD s (QO (Ql s) m) t).1
  have h3:=Qxc (sSum s).1 (QS (sOps s) (Z6 s (QO (Ql s) m)) (bwdD s (QO (Ql s) m) t).1).1
  have h4:=Qpr (Ql s) (QO (Ql s) m).toNat
  have h5:sz (List.drop ((QO (Ql s) m).toNat+1) (Ql s))≤sz (List.drop (QO (Ql s) m).toNat (Ql s)):=by
   rw [← List.drop_drop];exact Qph _ _
  have h6:=ZW (QS (sOps s) (Z6 s (QO (Ql s) m)) (bwdD s (QO (Ql s) m) t).1).2.1
  have e:sz ([]:List Int)=0:=rfl
  have e2:sz ([]:List (List Int))=0:=rfl
  rw [Ym,Ym s]
  simp only [Ql,QH,sG,QG,QgC,e,e2,Ya]
  ((try simp only [sPc,QD,sOps,Qu,Qz,Ql,QH,sX,sY,sG,sD,QG,QF,sSat,QL,QJ,QB,QA] at *);omega)
 ·((try simp only [sPc,QD,sOps,Qu,Qz,Ql,QH,sX,sY,sG,sD,QG,QF,sSat,QL,QJ,QB,QA] at *);omega)
theorem QB7 (q:Qd):sz (Zx q).1+sz (Zx q).2.1.2≤sz q:=by
 unfold Zx
 split
 ·rename_i h
  simp only [Bool.and_eq_true,decide_eq_true_eq] at h
  obtain ⟨c,l⟩:=q
  cases l with
  | nil=>simp at h
  | cons x l=>simp only [List.tail_cons,QbZ,QaV,ZK,JS];rw [ZU x,ZK];((try simp only [sPc,QD,sOps,Qu,Qz,Ql,QH,sX,sY,sG,sD,QG,QF,sSat,QL,QJ,QB,QA] at *);omega)
 ·have:sz ([]:List Int)=0:=rfl
  simp only;((try simp only [sPc,QD,sOps,Qu,Qz,Ql,QH,sX,sY,sG,sD,QG,QF,sSat,QL,QJ,QB,QA] at *);omega)
theorem Qvk (q:Qd) (x:Zd):sz (YC q x).1≤sz q+1+sz x.2:=by
 unfold YC
 split
 ·have:sz ([]:List Zd)=0:=rfl
  simp only [QaV,QgC,JS,ZK]
  rw [ZU q,ZK,ZU x,ZK];((try simp only [sPc,QD,sOps,Qu,Qz,Ql,QH,sX,sY,sG,sD,QG,QF,sSat,QL,QJ,QB,QA] at *);omega)
 ·simp only;((try simp only [sPc,QD,sOps,Qu,Qz,Ql,QH,sX,sY,sG,sD,QG,QF,sSat,QL,QJ,QB,QA] at *);omega)
theorem QUq (p:Qe) (k:Nat) (x:Qc) (i:TIns):sz (Ys p k x i).1+sz (Ys p k x i).2.1+sz (Ys p k x i).2.2≤sz x+sz (QB p)+sz (QA p)+100:=by
 have e:sz ([]:List Int)=0:=rfl
 have ed:sz Qw=0:=rfl
 unfold Ys
 simp only
 split
 ·have h1:=QB7 (gtd Qw (QB p) (k-1))
  have h2:=Qel Qw (Zx (gtd Qw (QB p) (k-1))).1 (QB p) (k-1)
  have h3:sz (setX x (Zx (gtd Qw (QB p) (k-1))).2.1.2)≤sz x+sz (Zx (gtd Qw (QB p) (k-1))).2.1.2:=by
   rw [Ym,Ym x];simp only [setX];((try simp only [sPc,QD,sOps,Qu,Qz,Ql,QH,sX,sY,sG,sD,QG,QF,sSat,QL,QJ,QB,QA] at *);omega)
  simp only;((try simp only [sPc,QD,sOps,Qu,Qz,Ql,QH,sX,sY,sG,sD,QG,QF,sSat,QL,QJ,QB,QA] at *);omega)
 split
 ·have h:=QL9 x i.2 (if k=0 then (gtd QY (QL p) i.2.toNat).1 else sX x) (gtd QY (QL p) i.2.toNat).2
  simp only;((try simp only [sPc,QD,sOps,Qu,Qz,Ql,QH,sX,sY,sG,sD,QG,QF,sSat,QL,QJ,QB,QA] at *);omega)
 split
 ·have h1:=Qvk (gtd Qw (QB p) k) (i.2,sY x)
  have h2:=Qel Qw (YC (gtd Qw (QB p) k) (i.2,sY x)).1 (QB p) k
  have h3:sz (setY x [])+sz (sY x)=sz x:=by rw [Ym,Ym x];simp only [setY,e];((try simp only [sPc,QD,sOps,Qu,Qz,Ql,QH,sX,sY,sG,sD,QG,QF,sSat,QL,QJ,QB,QA] at *);omega)
  simp only at h1 ⊢;((try simp only [sPc,QD,sOps,Qu,Qz,Ql,QH,sX,sY,sG,sD,QG,QF,sSat,QL,QJ,QB,QA] at *);omega)
 split
 ·have h1:=QB7 (gtd Qw (QA p) k)
  have h2:=Qel Qw (Zx (gtd Qw (QA p) k)).1 (QA p) k
  have h3:sz (setG x (Zx (gtd Qw (QA p) k)).2.1.2)≤sz x+sz (Zx (gtd Qw (QA p) k)).2.1.2:=by
   rw [Ym,Ym x];simp only [setG];((try simp only [sPc,QD,sOps,Qu,Qz,Ql,QH,sX,sY,sG,sD,QG,QF,sSat,QL,QJ,QB,QA] at *);omega)
  simp only;((try simp only [sPc,QD,sOps,Qu,Qz,Ql,QH,sX,sY,sG,sD,QG,QF,sSat,QL,QJ,QB,QA] at *);omega)
 split
 ·have h:=Q1t x i.2
  simp only;((try simp only [sPc,QD,sOps,Qu,Qz,Ql,QH,sX,sY,sG,sD,QG,QF,sSat,QL,QJ,QB,QA] at *);omega)
 split
 ·have h:=QNb x i.2 (gtd QY (QL p) i.2.toNat).2
  have h3:∀ y:Qc,sz (setD y [])≤sz y:=by intro y;rw [Ym,Ym y];simp only [setD,e];((try simp only [sPc,QD,sOps,Qu,Qz,Ql,QH,sX,sY,sG,sD,QG,QF,sSat,QL,QJ,QB,QA] at *);omega)
  have h4:=h3 (Zz x i.2 (gtd QY (QL p) i.2.toNat).2)
  simp only
  split <;> ((try simp only [sPc,QD,sOps,Qu,Qz,Ql,QH,sX,sY,sG,sD,QG,QF,sSat,QL,QJ,QB,QA] at *);omega)
 split
 ·have h1:=Qvk (gtd Qw (QA p) (k-1)) (i.2,sD x)
  have h2:=Qel Qw (YC (gtd Qw (QA p) (k-1)) (i.2,sD x)).1 (QA p) (k-1)
  have h3:sz (setD x [])+sz (sD x)=sz x:=by rw [Ym,Ym x];simp only [setD,e];((try simp only [sPc,QD,sOps,Qu,Qz,Ql,QH,sX,sY,sG,sD,QG,QF,sSat,QL,QJ,QB,QA] at *);omega)
  simp only at h1 ⊢;((try simp only [sPc,QD,sOps,Qu,Qz,Ql,QH,sX,sY,sG,sD,QG,QF,sSat,QL,QJ,QB,QA] at *);omega)
 ·simp only;((try simp only [sPc,QD,sOps,Qu,Qz,Ql,QH,sX,sY,sG,sD,QG,QF,sSat,QL,QJ,QB,QA] at *);omega)
theorem QjK (p:Qe) (s:Int):sz (Zl p s)≤sz p+100:=by
 unfold Zl
 split
 ·have h1:=QUq p s.toNat (gtd QM (QJ p) s.toNat) (Qn p s)
  have h2:=Qel QM (YK (Ys p s.toNat (gtd QM (QJ p) s.toNat) (Qn p s)).1 (sPc (gtd QM (QJ p) s.toNat)+1)) (QJ p) s.toNat
  have h3:∀ (y:Qc) (v:Int),sz (YK y v)=sz y:=by intro y v;rw [Ym,Ym y];rfl
  rw [h3] at h2
  have ed:sz QM=0:=rfl
  rw [Qch,Qch p]
  simp only
  ((try simp only [sPc,QD,sOps,Qu,Qz,Ql,QH,sX,sY,sG,sD,QG,QF,sSat,QL,QJ,QB,QA] at *);omega)
 ·((try simp only [sPc,QD,sOps,Qu,Qz,Ql,QH,sX,sY,sG,sD,QG,QF,sSat,QL,QJ,QB,QA] at *);omega)
theorem QGI:∀ (n k:Nat) (p:Qe),sz (J2 k n p)≤sz p+100*n
 | 0,k,p=>by simp [J2]
 | n+1,k,p=>by
  have h1:=QGI n (k+1) (Zl p (Int.tmod (k:Int) (QJ p).length))
  have h2:=QjK p (Int.tmod (k:Int) (QJ p).length)
  simp only [J2];((try simp only [sPc,QD,sOps,Qu,Qz,Ql,QH,sX,sY,sG,sD,QG,QF,sSat,QL,QJ,QB,QA] at *);omega)
theorem QVU (p:Qe) (n:Int):sz (ZP p n)≤sz p+200000:=by
 unfold ZP
 split
 ·have:=QGI (min n.toNat 2000) 0 p
  ((try simp only [sPc,QD,sOps,Qu,Qz,Ql,QH,sX,sY,sG,sD,QG,QF,sSat,QL,QJ,QB,QA] at *);omega)
 ·((try simp only [sPc,QD,sOps,Qu,Qz,Ql,QH,sX,sY,sG,sD,QG,QF,sSat,QL,QJ,QB,QA] at *);omega)
end Go.Proofs.YtjbdljkhbglnhaaGreat.Am
namespace Go.Proofs.YtjbdljkhbglnhaaGreat.Am
open Go Sz
theorem Qrx (a b:Int):decide (a≥b) = !decide (a<b):=by
 rw [Bool.eq_iff_iff];simp
theorem Qns {s:Qc} {m:Int} {x t:List Int} (h:¬ JG s m x t=true):Yn s m x t=s:=by unfold Yn;rw [if_neg h]
theorem QAp {s:Qc} {m:Int} (h:¬ (QU s&&decide (0≤QO (Ql s) m))=true):Y5 s m=s:=by unfold Y5;simp only;rw [if_neg h]
theorem QDQ {s:Qc} {m:Int} {t:List Int} (h:¬ J0 s (QO (Ql s) m) t=true):Zz s m t=s:=by unfold Zz;simp only;rw [if_neg h]
theorem QXD {m:Zh} (h:QT m=true):Za m=(gtd dOp m 0).2.1:=by unfold Za;rw [if_pos h]
theorem QwP {m:Zh} (h:QT m=true):Q8 m=(gtd dOp m (m.length-1)).2.2.1:=by unfold Q8;rw [if_pos h]
theorem Qxx (s:Qc) (m:Int) (x t:List Int):JG s m x t=(!(((!(QU s))||(!(Qt x (Za (ZS s)))))||decide (QO s.2.2.2.2.2.1 m≥0))&&!(s.2.2.2.1&&(!(Qt t (Q8 (ZS s)))))):=by
 unfold JG
 rw [Qrx]
 show (QU s&&Qt x (Za (ZS s))&&decide (QO s.2.2.2.2.2.1 m<0)&&(!s.2.2.2.1||Qt t (Q8 (ZS s))))=_
 cases QU s <;> cases Qt x (Za (ZS s)) <;> cases decide (QO s.2.2.2.2.2.1 m<0) <;> cases s.2.2.2.1 <;> cases Qt t (Q8 (ZS s)) <;> rfl
theorem QJC (s:Qc) (m:Int) (x t:List Int) (k:Nat) (hk:QU s=true→k=s.2.2.1.length-1) :
  (((((!(QU s))||(!(QN x)))||((x.length:Int) != ((gtd dOp s.2.2.1 0).2.1)))||decide (QO s.2.2.2.2.2.1 m≥0))||(s.2.2.2.1&&((!(QN t))||((t.length:Int) != ((gtd dOp s.2.2.1 k).2.2.1))))) = !JG s m x t:=by
 rw [Qxx,Qrx]
 cases hs:QU s
 ·rfl
 ·have hm:=JE hs
  rw [hk hs,show ZS s=s.2.2.1 from rfl,QXD hm,QwP hm]
  unfold Qt
  simp only [bne]
  cases QN x <;> cases ((x.length:Int)==(gtd dOp s.2.2.1 0).2.1) <;> cases decide (QO s.2.2.2.2.2.1 m<0) <;> cases s.2.2.2.1 <;> cases QN t <;> cases ((t.length:Int)==(gtd dOp s.2.2.1 (s.2.2.1.length-1)).2.2.1) <;> rfl
theorem Qg0 (s:Qc) (m:Int):((!(QU s))||decide (QO s.2.2.2.2.2.1 m<0)) = !(QU s&&decide (0≤QO s.2.2.2.2.2.1 m)):=by
 have:=Qrx (QO s.2.2.2.2.2.1 m) 0
 rw [show decide (0≤QO s.2.2.2.2.2.1 m)=decide (QO s.2.2.2.2.2.1 m≥0) from rfl,this]
 cases QU s <;> cases decide (QO s.2.2.2.2.2.1 m<0) <;> rfl
theorem QDu {s:Qc} {m:Int} {x t:List Int} (h:JG s m x t=true):Yn s m x t =
  (sPc s,QD s,sOps s,Qu s,Qz s,Ql s++[(m,if Qz s then (QI (sOps s) x).1.take 1 else (QI (sOps s) x).1)],QH s,[],(if Qu s then sY s else gtd [] (QI (sOps s) x).1 (sOps s).length),sG s,sD s,QG s,
   (if Qu s then (Q9 (QF s) (Yb (gtd [] (QI (sOps s) x).1 (sOps s).length) t).1).1 else QF s),
   (sSat s||(QI (sOps s) x).2||(Qu s&&((Yb (gtd [] (QI (sOps s) x).1 (sOps s).length) t).2||(Q9 (QF s) (Yb (gtd [] (QI (sOps s) x).1 (sOps s).length) t).1).2)))):=by
 unfold Yn;rw [if_pos h]
theorem QCi {s:Qc} {m:Int} {t:List Int} {rows:List (List Int)} {d:List Int} {b:Bool} (h:J0 s (QO (Ql s) m) t=true) (hr:rows=Z6 s (QO (Ql s) m)) (hd:(d,b)=bwdD s (QO (Ql s) m) t):Zz s m t =
  (sPc s,QD s,sOps s,Qu s,Qz s,(Ql s).take (QO (Ql s) m).toNat++(Ql s).drop ((QO (Ql s) m).toNat+1),[],sX s,sY s,[],(QS (sOps s) rows d).2.1,
   (Ya (sSum s) ((QS (sOps s) rows d).1,0,b||(QS (sOps s) rows d).2.2)).1,(Ya (sSum s) ((QS (sOps s) rows d).1,0,b||(QS (sOps s) rows d).2.2)).2.1,(Ya (sSum s) ((QS (sOps s) rows d).1,0,b||(QS (sOps s) rows d).2.2)).2.2):=by
 unfold Zz
 simp only
 rw [if_pos h,← hr,← hd]
theorem QcX (s:Qc) (k:Int) (t:List Int):J0 s k t=(QU s&&decide (0≤k)&&((Z6 s k).length==(sOps s).length+1)&&Yw (sOps s) (Z6 s k) (sOps s).length&&Qt (bwdD s k t).1 (Q8 (sOps s))):=rfl
theorem QzZ {α:Type} {l:List α} {k:Nat} (hk:k<l.length):List.take (k+(List.take (l.length-(k+1)) (List.drop (k+1) l)).length) (List.take k l++List.take (l.length-(k+1)) (List.drop (k+1) l))=List.take k l++List.drop (k+1) l:=by
 have e:List.take (l.length-(k+1)) (List.drop (k+1) l)=List.drop (k+1) l:=List.take_of_length_le (by simp)
 rw [e]
 exact List.take_of_length_le (by simp;omega)
theorem Qug (f:Int→Int→Int) (x:List Int):∀ d:List Int,(d.flatMap fun a=>x.map (f a)).length=d.length*x.length
 | []=>by simp
 | a::d=>by rw [List.flatMap_cons,List.length_append,Qug f x d,List.length_map,List.length_cons,Nat.add_mul];omega
theorem Quq (d x:List Int):(Zm d x).1.2.2.length≤36:=by
 unfold Zm
 split
 ·rename_i h
  simp only [Bool.and_eq_true] at h
  have h1:=vec6 h.1
  have h2:=vec6 h.2
  simp only
  rw [Qug (fun a b=>(Zq a b).1) x d]
  exact Nat.le_trans (Nat.mul_le_mul h1 h2) (by omega)
 ·simp
theorem QWV (o:TOp') (x d:List Int):(Yt o x d).2.1.length≤36:=by
 unfold Yt
 split
 ·rename_i h
  simp only [Bool.and_eq_true] at h
  split
  ·exact Quq _ _
  ·split
   ·exact Nat.le_trans (Qam h.2) (by omega)
   ·split
    ·simp
    ·split
     ·exact Quq _ _
     ·simp
 ·simp
theorem QqV:∀ (ops:List TOp') (rows:List (List Int)) (d:List Int),sz (QS ops rows d).1≤37*ops.length
 | [],rows,d=>by simp [QS]
 | o::os,[],d=>by simp only [QS];exact Nat.zero_le _
 | o::os,r::rs,d=>by
  have h1:=QWV o r (QS os rs d).2.1
  have h2:=QqV os rs d
  simp only [QS,JS,ZW,List.length_cons];omega
theorem QSA {ops:List TOp'} {rows:List (List Int)} {k:Nat} (hk:k<ops.length) (hr:k<rows.length) :
  Yu ops k ((rows.drop k).take (ops.length-k))=(Qt (gtd [] rows k) (gtd dOp ops k).2.1&&Yu ops (k+1) ((rows.drop (k+1)).take (ops.length-(k+1)))):=by
 rw [List.drop_eq_getElem_cons hr,show ops.length-k=(ops.length-(k+1))+1 by omega,List.take_succ_cons,Yu]
 have:gtd [] rows k=rows[k]:=QeO (List.getElem?_eq_getElem hr) _
 rw [← this]
 unfold Jo
 rw [if_pos hk]
end Go.Proofs.YtjbdljkhbglnhaaGreat.Am
namespace Go.Proofs.YtjbdljkhbglnhaaGreat.Am
open Go Sz
theorem QxW {nb:Int}:∀ {l:List Qc},JI nb l=true→∀ x,x∈l→QU x=true∧∀ i,i∈x.2.1→0≤i.2∧i.2<nb
 | [],_,x,hx=>by cases hx
 | s::r,h,x,hx=>by
  simp only [JI,Bool.and_eq_true,List.all_eq_true,QV] at h
  rcases List.mem_cons.1 hx with rfl | hx
  ·exact ⟨h.1.1.1,fun i hi=>by have:=h.1.2 i hi;omega⟩
  ·exact QxW h.2 x hx
theorem Qsi {p:Qe} {s:Int} (he:Z4 p s=true):∃ k:Nat,s=k∧k<p.2.1.length∧p.2.1.length≤4∧p.2.2.1.length+1=p.2.1.length∧p.2.2.2.length+1=p.2.1.length∧QU (gtd QM p.2.1 k)=true ∧
  0≤(Qn p s).2∧(Qn p s).2<p.1.length∧((Qn p s).1=1→0<k)∧((Qn p s).1=3→k+1<p.2.1.length)∧((Qn p s).1=4→k+1<p.2.1.length)∧((Qn p s).1=7→0<k) ∧
  ((Qn p s).1=1∨(Qn p s).1=2∨(Qn p s).1=3∨(Qn p s).1=4∨(Qn p s).1=5∨(Qn p s).1=6∨(Qn p s).1=7∨(Qn p s).1=8):=by
 simp only [Z4,Bool.and_eq_true] at he
 obtain ⟨⟨h1,h2⟩,h3⟩:=he
 simp only [Zp,Bool.and_eq_true,QV,beq_iff_eq] at h1
 have h2':=QV.1 h2
 obtain ⟨k,rfl⟩:=Int.eq_ofNat_of_zero_le h2'.1
 have hk:k<p.2.1.length:=by omega
 have hg:=QxW h1.2.2 _ (Jh hk QM)
 have hkind:(Qn p (k:Int)).1=1∨(Qn p (k:Int)).1=2∨(Qn p (k:Int)).1=3∨(Qn p (k:Int)).1=4∨(Qn p (k:Int)).1=5∨(Qn p (k:Int)).1=6∨(Qn p (k:Int)).1=7∨(Qn p (k:Int)).1=8:=by
  generalize (Qn p (k:Int)).1=kd at h3
  unfold JM at h3
  simp only at h3
  split at h3
  ·omega
  split at h3
  ·omega
  split at h3
  ·omega
  split at h3
  ·omega
  split at h3
  ·omega
  split at h3
  ·omega
  ·cases h3
 have hM:0≤(Qn p (k:Int)).2∧(Qn p (k:Int)).2<p.1.length:=by
  have hn:Qn p (k:Int)=QbM (gtd QM p.2.1 k):=by
   unfold Qn;rw [if_pos h2,Int.toNat_natCast]
  rw [hn] at hkind ⊢
  unfold QbM at hkind ⊢
  split
  ·rename_i hpc
   have hpc:=QV.1 hpc
   exact hg.2 _ (Jh (by omega) dIns)
  ·rename_i hpc
   rw [if_neg hpc] at hkind
   simp at hkind
 refine ⟨k,rfl,hk,by omega,by omega,by omega,hg.1,hM.1,hM.2,?_,?_,?_,?_,hkind⟩
 all_goals
  intro hkd
  rw [hkd] at h3
  simp [JM] at h3
  omega
theorem QuI {p:Qe} {s:Int} (h:Z4 p s=false):Zl p s=p:=by unfold Zl;rw [if_neg (by rw [h];simp)]
theorem Qs7 {p:Qe} {k:Nat} {x y:Qc} {a b:List Qd} (h:Z4 p (k:Int)=true) (hx:x=gtd QM p.2.1 k) (hy:Ys p k x (Qn p (k:Int))=(y,a,b)) (hpc:y.1=x.1) :
  Zl p (k:Int)=(p.1,p.2.1.set k (y.1+1,y.2),a,b):=by
 unfold Zl
 rw [if_pos h]
 simp only [Int.toNat_natCast]
 rw [show gtd QM (QJ p) k=x from hx.symm,hy]
 simp only
 rw [hpc]
 rfl
theorem QFt (p:Qe) (s:Int):(Zl p s).2.1.length=p.2.1.length:=by
 unfold Zl;split
 ·simp
 ·rfl
theorem QB2 (s:Qc) (m:Int) (x t:List Int):(Yn s m x t).1=s.1:=by unfold Yn;split <;> rfl
theorem Qtv (s:Qc) (m:Int):(Y5 s m).1=s.1:=by unfold Y5;simp only;split <;> rfl
theorem Qhf (s:Qc) (m:Int) (t:List Int):(Zz s m t).1=s.1:=by unfold Zz;simp only;split <;> rfl
theorem pi1 {p:Qe} {k:Nat} {x:Qc} {i:TIns} (h:i.1=1):Ys p k x i=(setX x (Zx (gtd Qw (QB p) (k-1))).2.1.2,(QB p).set (k-1) (Zx (gtd Qw (QB p) (k-1))).1,QA p):=by
 unfold Ys;simp only [h];simp
theorem pi2 {p:Qe} {k:Nat} {x:Qc} {i:TIns} (h:i.1=2):Ys p k x i=(Yn x i.2 (if k=0 then (gtd QY (QL p) i.2.toNat).1 else sX x) (gtd QY (QL p) i.2.toNat).2,QB p,QA p):=by
 unfold Ys;simp only [h];simp
theorem pi3 {p:Qe} {k:Nat} {x:Qc} {i:TIns} (h:i.1=3):Ys p k x i=(setY x [],(QB p).set k (YC (gtd Qw (QB p) k) (i.2,sY x)).1,QA p):=by
 unfold Ys;simp only [h];simp
theorem pi4 {p:Qe} {k:Nat} {x:Qc} {i:TIns} (h:i.1=4):Ys p k x i=(setG x (Zx (gtd Qw (QA p) k)).2.1.2,QB p,(QA p).set k (Zx (gtd Qw (QA p) k)).1):=by
 unfold Ys;simp only [h];simp
theorem pi5 {p:Qe} {k:Nat} {x:Qc} {i:TIns} (h:i.1=5):Ys p k x i=(Y5 x i.2,QB p,QA p):=by
 unfold Ys;simp only [h];simp
theorem pi6 {p:Qe} {k:Nat} {x:Qc} {i:TIns} (h:i.1=6):Ys p k x i=((if k=0 then setD (Zz x i.2 (gtd QY (QL p) i.2.toNat).2) [] else Zz x i.2 (gtd QY (QL p) i.2.toNat).2),QB p,QA p):=by
 unfold Ys;simp only [h];simp
theorem pi7 {p:Qe} {k:Nat} {x:Qc} {i:TIns} (h:i.1=7):Ys p k x i=(setD x [],QB p,(QA p).set (k-1) (YC (gtd Qw (QA p) (k-1)) (i.2,sD x)).1):=by
 unfold Ys;simp only [h];simp
theorem pi8 {p:Qe} {k:Nat} {x:Qc} {i:TIns} (h:i.1=8):Ys p k x i=(x,QB p,QA p):=by
 unfold Ys;simp only [h];simp
theorem QmE {m:Zh} (h:QT m=true):sz m≤296:=by
 have hl:=Yh h
 have hm:=QBo h
 have:∀ l:List TOp',(∀ o,o∈l→Zf o=true)→sz l≤37*l.length:=by
  intro l
  induction l with
  | nil=>intro _;exact Nat.zero_le _
  | cons o l ih =>
   intro hh
   have h1:=Qhk (hh o (List.mem_cons_self ..))
   have h2:=ih (fun y hy=>hh y (List.mem_cons_of_mem _ hy))
   have h3:=ZW o.2.2.2
   simp only [JS,ZU,ZK,List.length_cons]
   omega
 have:=this m hm
 omega
theorem QlV {m:Zh} {b:List Qp} (h:Yj m b=true):sz b≤65:=by
 simp only [Yj,Bool.and_eq_true,QV,List.all_eq_true] at h
 have:∀ l:List Qp,(∀ o,o∈l→Jp m o=true)→sz l≤13*l.length:=by
  intro l
  induction l with
  | nil=>intro _;exact Nat.zero_le _
  | cons o l ih =>
   intro hh
   have h1:=hh o (List.mem_cons_self ..)
   simp only [Jp,Bool.and_eq_true] at h1
   have h4:=Qam h1.1.2
   have h5:=Qam h1.2
   have h2:=ih (fun y hy=>hh y (List.mem_cons_of_mem _ hy))
   have h3:=ZW o.1
   have h6:=ZW o.2
   simp only [JS,ZU,List.length_cons]
   omega
 have:=this b h.2
 omega
theorem QZ1 (l:List TIns):sz l=l.length:=QYT l (fun _=>rfl)
theorem QWS (ops:Zh) (plan:List TIns) (a b:Bool):sz (JF ops plan a b)≤plan.length+600:=by
 unfold JF
 split
 ·rename_i h
  have h1:=QmE h
  have h2:=QpR h (QQh h)
  have h3:=QZ1 plan
  have h4:sz (ZO ops).1≤sz (ZO ops):=by simp only [ZU];omega
  have e0:sz ([]:List Int)=0:=rfl
  have e1:sz ([]:List (List Int))=0:=rfl
  have e2:sz ([]:List ZI)=0:=rfl
  rw [Ym]
  simp only [QD,sOps,Ql,QH,sX,sY,sG,sD,QG,e0,e1,e2]
  omega
 ·exact Nat.zero_le _
theorem QjN (c:QC) (n micro:Int):∀ k:Nat,sz (Jy c n micro k)≤700*k
 | 0=>Nat.zero_le _
 | k+1=>by
  have h:=QjN c n micro k
  have e2:sz ([]:List Qc)=0:=rfl
  rw [Jy,QgC,JS,e2]
  have h1:=QWS (slice (Yk c) (QK (Yk c) (ZF c) k).1 (QK (Yk c) (ZF c) k).2) (ZL (cDs c) n k micro (gtd false (QaM c) k)) (decide ((k:Int)=n-1)) (gtd false (QaM c) k)
  have h2:=Qpf (cDs c) n k micro (gtd false (QaM c) k)
  omega
theorem QBz:∀ l:List Int,sz (l.map fun n=>((n,[]):Qd))=l.length
 | []=>rfl
 | n::l=>by
  have e:sz ([]:List Zd)=0:=rfl
  simp only [List.map_cons,JS,QaV,ZK,QBz l,e,List.length_cons];omega
theorem QSx (c:QC) (b:List Qp):sz (Zy c b)≤10000:=by
 unfold Zy
 split
 ·rename_i h
  have A:=Qln h
  have hn:=Qji A
  have h1:=QlV A.batch
  have h2:=QjN c (QR c) b.length (QR c).toNat
  have h3:=Qgt A
  have h4:=QBz (JU c)
  have h5:=A.stages
  have h6:nSt c=(ZF c).length+1:=rfl
  rw [Qch]
  simp only [QL,QJ,QB,QA]
  omega
 ·exact Nat.zero_le _
end Go.Proofs.YtjbdljkhbglnhaaGreat.Am

